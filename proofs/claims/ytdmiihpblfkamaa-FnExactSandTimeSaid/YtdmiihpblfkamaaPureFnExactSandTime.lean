/- FnExactSandTime: the program's SandTime returns what the reference's returns, for all arguments; no condition. -/
import Derived.Test.YtdmiihpblfkamaaPFnExactSandTimex2
namespace Go.Proofs.Ytdmiihpblfkamaa.Pure
open Go.RowKit Go.Proofs.Ytdmiihpblfkamaa.PFnExactSandTime Go.Proofs.YtdmiihpblfkamaaW.PrintWords Go.Proofs.YtdmiihpblfkamaaW.PrintLast

theorem w64 {x : Int} (h0 : -9223372036854775808 ≤ x) (h1 : x ≤ 9223372036854775807) : wrap64 x = x := by
  unfold wrap64; omega

theorem within_eq (a b c : Int) : impl_within.f a b c = some (decide (b ≤ a ∧ a ≤ c)) := by
  unfold impl_within.f
  by_cases h : a ≥ b
  · rw [if_pos h]; simp [h]
  · rw [if_neg h]; simp; omega

theorem l00In_eq (a b c : Int) : spec_l00In.f a b c = some (decide (b ≤ a ∧ a ≤ c)) := by
  unfold spec_l00In.f
  by_cases h : a ≥ b
  · rw [if_pos h]; simp [h]
  · rw [if_neg h]; simp; omega

def fnd (x : List UInt8) : List ByteArray → Int → Int
  | [], _ => -1
  | y :: ys, i => if y.toList = x then i else fnd x ys (i + 1)

theorem find_l0 (x : ByteArray) (xs : List ByteArray) (hl : xs.length ≤ 1000) : ∀ (n : Nat) (k i : Nat), i + n = xs.length → n < k →
    spec_l07Find.l0 k x xs (i : Int) = some (fnd x.toList (xs.drop i) i) := by
  intro n
  induction n with
  | zero =>
    intro k i hi hk
    obtain ⟨k, rfl⟩ : ∃ m, k = m + 1 := ⟨k - 1, by omega⟩
    simp only [spec_l07Find.l0]
    rw [if_neg (by omega), List.drop_of_length_le (by omega)]; rfl
  | succ n ih =>
    intro k i hi hk
    obtain ⟨k, rfl⟩ : ∃ m, k = m + 1 := ⟨k - 1, by omega⟩
    simp only [spec_l07Find.l0]
    rw [if_pos (by omega), if_pos (by omega), List.drop_eq_getElem_cons (show i < xs.length by omega)]
    have hr : rdOf ByteArray.empty xs (i : Int) = xs[i]'(by omega) := by
      unfold rdOf; simp [List.getD, show i < xs.length by omega]
    rw [hr]
    by_cases h : (xs[i]'(by omega)).toList = x.toList
    · rw [if_pos h]; simp [fnd, h]
    · rw [if_neg h]
      have h2 := ih k (i + 1) (by omega) (by omega)
      rw [w64 (by omega) (by omega), show ((i : Int) + 1) = ((i + 1 : Nat) : Int) by omega, h2]
      simp [fnd, h]

theorem lit_toList (l : Array UInt8) : (⟨l⟩ : ByteArray).toList = l.toList := ByteArray.toList_eq _

/-- what the name of a species tells: the reference's place of it, and the program's data -/
def Known (x : List UInt8) : Prop := x = [97, 115, 104] ∨ x = [98, 101, 101, 99, 104] ∨ x = [98, 105, 114, 99, 104] ∨ x = [99, 104, 101, 114, 114, 121] ∨ x = [101, 98, 111, 110, 121] ∨ x = [104, 111, 108, 108, 121] ∨ x = [109, 97, 112, 108, 101] ∨ x = [111, 97, 107] ∨ x = [114, 111, 115, 101, 119, 111, 111, 100] ∨ x = [119, 97, 108, 110, 117, 116]

theorem find_eq (k : Nat) (hk : 11 ≤ k) (a : ByteArray) : ∃ l : List ByteArray, spec_l07Names.f = some l ∧ spec_l07Find.f k a = some (fnd a.toList l 0) := by
  refine ⟨_, rfl, ?_⟩
  unfold spec_l07Find.f spec_l07Names.f
  simp only [Option.bind_some]
  exact find_l0 a _ (by simp) 10 k 0 rfl (by omega)

theorem species (a : ByteArray) : (∃ i h : Int, ∃ s w : Int, 0 ≤ i ∧ i < 10 ∧ 33 ≤ h ∧ h ≤ 85 ∧ 200 ≤ w ∧ w ≤ 500 ∧ (∀ k, 11 ≤ k → spec_l07Find.f k a = some i) ∧ impl_SpeciesData.f a = some (s, h, w, 0) ∧ (spec_l07Table.f).bind (fun t => some (rd_L2 t i)) = some [s, h, w]) ∨
    ((∀ k, 11 ≤ k → spec_l07Find.f k a = some (-1)) ∧ impl_SpeciesData.f a = some (0, 0, 0, 3)) := by
  obtain ⟨l, hl, _⟩ := find_eq 11 (Nat.le_refl _) a
  have hf : ∀ k, 11 ≤ k → spec_l07Find.f k a = some (fnd a.toList l 0) := fun k hk => by
    obtain ⟨l', hl', h⟩ := find_eq k hk a
    rw [hl] at hl'; cases hl'; exact h
  unfold spec_l07Names.f at hl
  cases hl
  generalize hx : a.toList = x at *
  unfold impl_SpeciesData.f
  rw [hx]
  by_cases h : Known x
  · left
    rcases h with h | h | h | h | h | h | h | h | h | h <;> subst h
    · exact ⟨0, 40, 20, 310, by decide, by decide, by decide, by decide, by decide, by decide, fun k hk => (hf k hk).trans (by simp [fnd, lit_toList]), rfl, rfl⟩
    · exact ⟨1, 45, 35, 410, by decide, by decide, by decide, by decide, by decide, by decide, fun k hk => (hf k hk).trans (by simp [fnd, lit_toList]), rfl, rfl⟩
    · exact ⟨2, 33, 15, 280, by decide, by decide, by decide, by decide, by decide, by decide, fun k hk => (hf k hk).trans (by simp [fnd, lit_toList]), rfl, rfl⟩
    · exact ⟨3, 36, 50, 240, by decide, by decide, by decide, by decide, by decide, by decide, fun k hk => (hf k hk).trans (by simp [fnd, lit_toList]), rfl, rfl⟩
    · exact ⟨4, 85, 95, 270, by decide, by decide, by decide, by decide, by decide, by decide, fun k hk => (hf k hk).trans (by simp [fnd, lit_toList]), rfl, rfl⟩
    · exact ⟨5, 35, 5, 370, by decide, by decide, by decide, by decide, by decide, by decide, fun k hk => (hf k hk).trans (by simp [fnd, lit_toList]), rfl, rfl⟩
    · exact ⟨6, 42, 10, 290, by decide, by decide, by decide, by decide, by decide, by decide, fun k hk => (hf k hk).trans (by simp [fnd, lit_toList]), rfl, rfl⟩
    · exact ⟨7, 40, 40, 330, by decide, by decide, by decide, by decide, by decide, by decide, fun k hk => (hf k hk).trans (by simp [fnd, lit_toList]), rfl, rfl⟩
    · exact ⟨8, 60, 80, 220, by decide, by decide, by decide, by decide, by decide, by decide, fun k hk => (hf k hk).trans (by simp [fnd, lit_toList]), rfl, rfl⟩
    · exact ⟨9, 38, 70, 260, by decide, by decide, by decide, by decide, by decide, by decide, fun k hk => (hf k hk).trans (by simp [fnd, lit_toList]), rfl, rfl⟩
  · right
    unfold Known at h
    simp only [not_or] at h
    obtain ⟨h0, h1, h2, h3, h4, h5, h6, h7, h8, h9⟩ := h
    have e : ∀ l : List UInt8, ¬ x = l → ¬ l = x := fun l h1 h2 => h1 h2.symm
    constructor
    · intro k hk
      rw [hf k hk]
      simp only [fnd, lit_toList]
      rw [if_neg (e _ h0), if_neg (e _ h1), if_neg (e _ h2), if_neg (e _ h3), if_neg (e _ h4), if_neg (e _ h5), if_neg (e _ h6), if_neg (e _ h7), if_neg (e _ h8), if_neg (e _ h9)]
    · rw [if_neg h0, if_neg h1, if_neg h2, if_neg h3, if_neg h4, if_neg h5, if_neg h6, if_neg h7, if_neg h8, if_neg h9]

theorem tdiv_pos {a b : Int} (h : 0 ≤ a) : Int.tdiv a b = a / b := Int.tdiv_eq_ediv_of_nonneg h

/-- the reference's gain of a known hardness, and the program's: what both compute -/
theorem gain_eq {a : ByteArray} {s h w : Int} (hd : impl_SpeciesData.f a = some (s, h, w, 0)) (h0 : 33 ≤ h) (h1 : h ≤ 85) (x y : Int) (hx : 100 ≤ x ∧ x ≤ 300) (hy : 0 ≤ y ∧ y ≤ 600) :
    impl_gain.f a x y = some ((x - 100) * y / (10 * h)) ∧ spec_l21Gain.f h x y = some ((x - 100) * y / (10 * h)) ∧ 0 ≤ (x - 100) * y / (10 * h) ∧ (x - 100) * y / (10 * h) ≤ 120000 := by
  have m0 : 0 ≤ (x - 100) * y := Int.mul_nonneg (by omega) (by omega)
  have m1 : (x - 100) * y ≤ 200 * 600 := Int.mul_le_mul (by omega) (by omega) (by omega) (by omega)
  have d0 : 0 ≤ (x - 100) * y / (10 * h) := Int.ediv_nonneg m0 (by omega)
  have d1 : (x - 100) * y / (10 * h) ≤ (x - 100) * y := Int.ediv_le_self _ m0
  refine ⟨?_, ?_, d0, by omega⟩
  · unfold impl_gain.f
    rw [hd]
    simp only [Option.bind_some]
    rw [w64 (x := 10 * h) (by omega) (by omega), if_neg (by omega), w64 (x := x - 100) (by omega) (by omega), w64 (x := (x - 100) * y) (by omega) (by omega), tdiv_pos m0, w64 (by omega) (by omega)]
  · unfold spec_l21Gain.f
    rw [w64 (x := 10 * h) (by omega) (by omega), if_neg (by omega), w64 (x := x - 100) (by omega) (by omega), w64 (x := (x - 100) * y) (by omega) (by omega), tdiv_pos m0, w64 (by omega) (by omega)]

theorem hard_eq {a : ByteArray} {i s h w : Int} {k : Nat} (hk : 11 ≤ k) (h0 : 0 ≤ i) (h1 : i < 10) (hf : ∀ k, 11 ≤ k → spec_l07Find.f k a = some i) (ht : (spec_l07Table.f).bind (fun t => some (rd_L2 t i)) = some [s, h, w]) :
    spec_l21Hardness.f k a = some h := by
  unfold spec_l21Hardness.f
  rw [hf k hk]
  cases hT : spec_l07Table.f with
  | none => rw [hT] at ht; cases ht
  | some t =>
    rw [hT] at ht
    simp only [Option.bind_some, Option.some.injEq] at ht ⊢
    have hl : t.length = 10 := by unfold spec_l07Table.f at hT; cases hT; rfl
    rw [ht, if_pos h0, if_pos (by omega), if_pos (by simp)]
    rfl

/-- both search the same times -/
theorem times {a : ByteArray} {i s h w : Int} (hd : impl_SpeciesData.f a = some (s, h, w, 0)) (h0 : 33 ≤ h) (h1 : h ≤ 85) (i0 : 0 ≤ i) (i1 : i < 10)
    (hf : ∀ k, 11 ≤ k → spec_l07Find.f k a = some i) (ht : (spec_l07Table.f).bind (fun t => some (rd_L2 t i)) = some [s, h, w]) (x want : Int) (hx : 100 ≤ x ∧ x ≤ 300) :
    ∀ (n : Nat) (t : Int) (k : Nat), t + n = 601 → 0 ≤ t → n + 20 < k → ∃ r, spec_SandTime.l0 k a x want t = some r ∧ impl_SandTime.l0 k a x want t = some r := by
  intro n
  induction n with
  | zero =>
    intro t k e t0 hk
    obtain ⟨k, rfl⟩ : ∃ m, k = m + 1 := ⟨k - 1, by omega⟩
    refine ⟨(0, 6), ?_, ?_⟩
    · simp only [spec_SandTime.l0]; rw [if_neg (by omega)]
    · simp only [impl_SandTime.l0]; rw [if_neg (by omega)]
  | succ n ih =>
    intro t k e t0 hk
    obtain ⟨k, rfl⟩ : ∃ m, k = m + 1 := ⟨k - 1, by omega⟩
    obtain ⟨e1, e2, _, _⟩ := gain_eq hd h0 h1 x t hx (by omega)
    obtain ⟨r, f1, f2⟩ := ih (t + 1) k (by omega) (by omega) (by omega)
    simp only [spec_SandTime.l0, impl_SandTime.l0]
    rw [if_pos (by omega), if_pos (by omega), hard_eq (by omega) i0 i1 hf ht, e1]
    simp only [Option.bind_some]
    rw [e2]
    simp only [Option.bind_some]
    by_cases g : (x - 100) * t / (10 * h) ≥ want
    · exact ⟨(t, 0), by rw [if_pos g], by rw [if_pos g]⟩
    · rw [if_neg g, if_neg g, w64 (by omega) (by omega)]
      exact ⟨r, f1, f2⟩

theorem FnExactSandTime : laws_FnExactSandTime.Pure := by
  intro a0 a1 a2 w0 w1 w2
  clear w1 w2
  refine ⟨700, ?_⟩
  unfold laws_FnExactSandTime.f
  by_cases hs : (a0.size : Int) > 1048576
  · rw [if_pos hs]
  rw [if_neg hs]
  unfold spec_SandTime.f impl_SandTime.f impl_isSpecies.f impl_speciesShade.f spec_l21Heat.f
  rcases species a0 with ⟨i, h, s, w, i0, i1, h0, h1, _, _, hf, hd, ht⟩ | ⟨hf, hd⟩
  · rw [hf 700 (by omega), hd]
    simp only [Option.bind_some, within_eq, l00In_eq, decide_eq_true_eq]
    rw [if_neg (by omega)]
    by_cases g1 : 100 ≤ a1 ∧ a1 ≤ 300
    · by_cases g2 : 0 ≤ a2 ∧ a2 ≤ 100
      · obtain ⟨r, e1, e2⟩ := times hd h0 h1 i0 i1 hf ht a1 a2 g1 601 0 699 (by omega) (by omega) (by omega)
        have e3 : spec_SandTime.j0 700 a0 a1 a2 false = some r := by
          simp only [spec_SandTime.j0]; rw [if_neg (by simp)]; exact e1
        have e4 : impl_SandTime.l0 700 a0 a1 a2 0 = some r := at_rounds (g := fun k => impl_SandTime.l0 k a0 a1 a2 0) (fun k => impl_SandTime.mono_l k a0 a1 a2 0) (k := 699) (by omega) e2
        simp [g1, g2, e3, e4]
      · simp [g1, g2, spec_SandTime.j0]
    · simp [g1, spec_SandTime.j0]
  · rw [hf 700 (by omega), hd]
    simp

end Go.Proofs.Ytdmiihpblfkamaa.Pure

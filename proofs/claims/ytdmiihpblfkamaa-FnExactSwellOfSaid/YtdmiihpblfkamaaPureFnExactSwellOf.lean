/- FnExactSwellOf: the program's SwellOf returns what the reference's returns, for all arguments; no condition. -/
import Derived.Test.YtdmiihpblfkamaaGFnExactSwellOfx2
namespace Go.Proofs.Ytdmiihpblfkamaa.Pure
open Go.RowKit Go.Proofs.Ytdmiihpblfkamaa.GFnExactSwellOf Go.Proofs.YtdmiihpblfkamaaW.PrintWords Go.Proofs.YtdmiihpblfkamaaW.PrintLast

theorem w64 {x : Int} (h0 : -9223372036854775808 ≤ x) (h1 : x ≤ 9223372036854775807) : wrap64 x = x := by
  unfold wrap64; omega

theorem within_eq (a b c : Int) : impl_within.f a b c = some (decide (b ≤ a ∧ a ≤ c)) := by
  unfold impl_within.f
  by_cases h : a ≥ b
  · rw [if_pos h]; simp [h]
  · rw [if_neg h]; simp; omega

theorem l00In_eq (a b c : Int) : spec_l00In.f a b c = some (decide (b ≤ a ∧ a ≤ c)) := by
  unfold spec_l00In.f
  by_cases h : a ≥ b
  · rw [if_pos h]; simp [h]
  · rw [if_neg h]; simp; omega

def fnd (x : List UInt8) : List ByteArray → Int → Int
  | [], _ => -1
  | y :: ys, i => if y.toList = x then i else fnd x ys (i + 1)

theorem find_l0 (x : ByteArray) (xs : List ByteArray) (hl : xs.length ≤ 1000) : ∀ (n : Nat) (k i : Nat), i + n = xs.length → n < k →
    spec_l07Find.l0 k x xs (i : Int) = some (fnd x.toList (xs.drop i) i) := by
  intro n
  induction n with
  | zero =>
    intro k i hi hk
    obtain ⟨k, rfl⟩ : ∃ m, k = m + 1 := ⟨k - 1, by omega⟩
    simp only [spec_l07Find.l0]
    rw [if_neg (by omega), List.drop_of_length_le (by omega)]; rfl
  | succ n ih =>
    intro k i hi hk
    obtain ⟨k, rfl⟩ : ∃ m, k = m + 1 := ⟨k - 1, by omega⟩
    simp only [spec_l07Find.l0]
    rw [if_pos (by omega), if_pos (by omega), List.drop_eq_getElem_cons (show i < xs.length by omega)]
    have hr : rdOf ByteArray.empty xs (i : Int) = xs[i]'(by omega) := by
      unfold rdOf; simp [List.getD, show i < xs.length by omega]
    rw [hr]
    by_cases h : (xs[i]'(by omega)).toList = x.toList
    · rw [if_pos h]; simp [fnd, h]
    · rw [if_neg h]
      have h2 := ih k (i + 1) (by omega) (by omega)
      rw [w64 (by omega) (by omega), show ((i : Int) + 1) = ((i + 1 : Nat) : Int) by omega, h2]
      simp [fnd, h]

theorem lit_toList (l : Array UInt8) : (⟨l⟩ : ByteArray).toList = l.toList := ByteArray.toList_eq _

/-- what the name of a species tells: the reference's place of it, and the program's data -/
def Known (x : List UInt8) : Prop := x = [97, 115, 104] ∨ x = [98, 101, 101, 99, 104] ∨ x = [98, 105, 114, 99, 104] ∨ x = [99, 104, 101, 114, 114, 121] ∨ x = [101, 98, 111, 110, 121] ∨ x = [104, 111, 108, 108, 121] ∨ x = [109, 97, 112, 108, 101] ∨ x = [111, 97, 107] ∨ x = [114, 111, 115, 101, 119, 111, 111, 100] ∨ x = [119, 97, 108, 110, 117, 116]

theorem find_eq (k : Nat) (hk : 11 ≤ k) (a : ByteArray) : ∃ l : List ByteArray, spec_l07Names.f = some l ∧ spec_l07Find.f k a = some (fnd a.toList l 0) := by
  refine ⟨_, rfl, ?_⟩
  unfold spec_l07Find.f spec_l07Names.f
  simp only [Option.bind_some]
  exact find_l0 a _ (by simp) 10 k 0 rfl (by omega)

theorem species (a : ByteArray) : (∃ i h : Int, ∃ s w : Int, 0 ≤ i ∧ i < 10 ∧ 33 ≤ h ∧ h ≤ 85 ∧ 200 ≤ w ∧ w ≤ 500 ∧ (∀ k, 11 ≤ k → spec_l07Find.f k a = some i) ∧ impl_SpeciesData.f a = some (s, h, w, 0) ∧ (spec_l07Table.f).bind (fun t => some (rd_L3 t i)) = some [s, h, w]) ∨
    ((∀ k, 11 ≤ k → spec_l07Find.f k a = some (-1)) ∧ impl_SpeciesData.f a = some (0, 0, 0, 3)) := by
  obtain ⟨l, hl, _⟩ := find_eq 11 (Nat.le_refl _) a
  have hf : ∀ k, 11 ≤ k → spec_l07Find.f k a = some (fnd a.toList l 0) := fun k hk => by
    obtain ⟨l', hl', h⟩ := find_eq k hk a
    rw [hl] at hl'; cases hl'; exact h
  unfold spec_l07Names.f at hl
  cases hl
  generalize hx : a.toList = x at *
  unfold impl_SpeciesData.f
  rw [hx]
  by_cases h : Known x
  · left
    rcases h with h | h | h | h | h | h | h | h | h | h <;> subst h
    · exact ⟨0, 40, 20, 310, by decide, by decide, by decide, by decide, by decide, by decide, fun k hk => (hf k hk).trans (by simp [fnd, lit_toList]), rfl, rfl⟩
    · exact ⟨1, 45, 35, 410, by decide, by decide, by decide, by decide, by decide, by decide, fun k hk => (hf k hk).trans (by simp [fnd, lit_toList]), rfl, rfl⟩
    · exact ⟨2, 33, 15, 280, by decide, by decide, by decide, by decide, by decide, by decide, fun k hk => (hf k hk).trans (by simp [fnd, lit_toList]), rfl, rfl⟩
    · exact ⟨3, 36, 50, 240, by decide, by decide, by decide, by decide, by decide, by decide, fun k hk => (hf k hk).trans (by simp [fnd, lit_toList]), rfl, rfl⟩
    · exact ⟨4, 85, 95, 270, by decide, by decide, by decide, by decide, by decide, by decide, fun k hk => (hf k hk).trans (by simp [fnd, lit_toList]), rfl, rfl⟩
    · exact ⟨5, 35, 5, 370, by decide, by decide, by decide, by decide, by decide, by decide, fun k hk => (hf k hk).trans (by simp [fnd, lit_toList]), rfl, rfl⟩
    · exact ⟨6, 42, 10, 290, by decide, by decide, by decide, by decide, by decide, by decide, fun k hk => (hf k hk).trans (by simp [fnd, lit_toList]), rfl, rfl⟩
    · exact ⟨7, 40, 40, 330, by decide, by decide, by decide, by decide, by decide, by decide, fun k hk => (hf k hk).trans (by simp [fnd, lit_toList]), rfl, rfl⟩
    · exact ⟨8, 60, 80, 220, by decide, by decide, by decide, by decide, by decide, by decide, fun k hk => (hf k hk).trans (by simp [fnd, lit_toList]), rfl, rfl⟩
    · exact ⟨9, 38, 70, 260, by decide, by decide, by decide, by decide, by decide, by decide, fun k hk => (hf k hk).trans (by simp [fnd, lit_toList]), rfl, rfl⟩
  · right
    unfold Known at h
    simp only [not_or] at h
    obtain ⟨h0, h1, h2, h3, h4, h5, h6, h7, h8, h9⟩ := h
    have e : ∀ l : List UInt8, ¬ x = l → ¬ l = x := fun l h1 h2 => h1 h2.symm
    constructor
    · intro k hk
      rw [hf k hk]
      simp only [fnd, lit_toList]
      rw [if_neg (e _ h0), if_neg (e _ h1), if_neg (e _ h2), if_neg (e _ h3), if_neg (e _ h4), if_neg (e _ h5), if_neg (e _ h6), if_neg (e _ h7), if_neg (e _ h8), if_neg (e _ h9)]
    · rw [if_neg h0, if_neg h1, if_neg h2, if_neg h3, if_neg h4, if_neg h5, if_neg h6, if_neg h7, if_neg h8, if_neg h9]

/-- the nearest quotient, halves away from 0 -/
def rdiv (a b : Int) : Int := if a < 0 then -((b - 2 * a) / (2 * b)) else (2 * a + b) / (2 * b)

theorem half_up {x b : Int} (hb : 0 < b) : (2 * x + b) / (2 * b) = if x % b ≥ b - x % b then x / b + 1 else x / b := by
  have hx := Int.mul_ediv_add_emod x b
  have hr0 := Int.emod_nonneg x (show b ≠ 0 by omega)
  have hr1 := Int.emod_lt_of_pos x hb
  generalize hq : x / b = q at *
  generalize hr : x % b = r at *
  have key : ∀ c : Int, c * (2 * b) ≤ 2 * x + b → 2 * x + b < (c + 1) * (2 * b) → (2 * x + b) / (2 * b) = c := by
    intro c h1 h2
    apply Int.le_antisymm
    · exact Int.lt_add_one_iff.1 ((Int.ediv_lt_iff_lt_mul (by omega)).2 h2)
    · exact (Int.le_ediv_iff_mul_le (by omega)).2 h1
  have e0 : q * (2 * b) = 2 * (b * q) := by rw [Int.mul_comm q, Int.mul_assoc]
  have e1 : (q + 1) * (2 * b) = 2 * (b * q) + 2 * b := by rw [Int.add_mul, e0]; omega
  have e2 : (q + 1 + 1) * (2 * b) = 2 * (b * q) + 2 * b + 2 * b := by rw [Int.add_mul, e1]; omega
  generalize b * q = p at *
  split
  · apply key
    · rw [e1]; omega
    · rw [e2]; omega
  · apply key
    · rw [e0]; omega
    · rw [e1]; omega

theorem l01Div_eq {a b : Int} (ha : -1000000000000000000 ≤ a) (ha2 : a ≤ 1000000000000000000) (hb : 0 < b) (hb2 : b ≤ 1000000000000) : spec_l01Div.f a b = some (rdiv a b) := by
  unfold spec_l01Div.f rdiv
  rw [if_neg (by omega)]
  by_cases h : a < 0
  · have d0 : 0 ≤ (b - 2 * a) / (2 * b) := Int.ediv_nonneg (by omega) (by omega)
    have d1 : (b - 2 * a) / (2 * b) ≤ b - 2 * a := Int.ediv_le_self _ (by omega)
    rw [if_pos h, if_pos h, w64 (x := 2 * b) (by omega) (by omega), if_neg (by omega), w64 (x := 2 * a) (by omega) (by omega), w64 (x := b - 2 * a) (by omega) (by omega), Int.tdiv_eq_ediv_of_nonneg (by omega), w64 (x := (b - 2 * a) / (2 * b)) (by omega) (by omega), w64 (by omega) (by omega)]
  · have d0 : 0 ≤ (2 * a + b) / (2 * b) := Int.ediv_nonneg (by omega) (by omega)
    have d1 : (2 * a + b) / (2 * b) ≤ 2 * a + b := Int.ediv_le_self _ (by omega)
    rw [if_neg h, if_neg h, w64 (x := 2 * b) (by omega) (by omega), if_neg (by omega), w64 (x := 2 * a) (by omega) (by omega), w64 (x := 2 * a + b) (by omega) (by omega), Int.tdiv_eq_ediv_of_nonneg (by omega), w64 (by omega) (by omega)]

theorem nearest_eq {a b : Int} (ha : -1000000000000000000 ≤ a) (ha2 : a ≤ 1000000000000000000) (hb : 0 < b) (hb2 : b ≤ 1000000000000) : impl_nearest.f a b = some (rdiv a b) := by
  have hm : mx b (wrap64 (-b)) = b := by rw [w64 (by omega) (by omega)]; unfold mx; rw [if_neg (by omega)]
  unfold impl_nearest.f rdiv
  rw [if_neg (by omega), hm, if_neg (by omega)]
  by_cases h : a < 0
  · have hx : mx a (wrap64 (-a)) = -a := by rw [w64 (by omega) (by omega)]; unfold mx; rw [if_pos (by omega)]
    have hh := half_up (x := -a) hb
    have d0 : 0 ≤ (-a) / b := Int.ediv_nonneg (by omega) (by omega)
    have d1 : (-a) / b ≤ -a := Int.ediv_le_self _ (by omega)
    have hr0 := Int.emod_nonneg (-a) (show b ≠ 0 by omega)
    have hr1 := Int.emod_lt_of_pos (-a) hb
    rw [hx, if_pos h, show b - 2 * a = 2 * -a + b by omega, hh, Int.tmod_eq_emod_of_nonneg (by omega), Int.tdiv_eq_ediv_of_nonneg (by omega), w64 (x := b - -a % b) (by omega) (by omega), w64 (x := -a / b) (by omega) (by omega)]
    have hc : (decide (a < 0) != decide (b < 0)) = true := by simp [h]; omega
    by_cases g : -a % b ≥ b - -a % b
    · rw [if_pos g, if_pos hc, if_pos g, w64 (x := -a / b + 1) (by omega) (by omega), w64 (by omega) (by omega)]
    · rw [if_neg g, if_pos hc, if_neg g, w64 (by omega) (by omega)]
  · have hx : mx a (wrap64 (-a)) = a := by rw [w64 (by omega) (by omega)]; unfold mx; rw [if_neg (by omega)]
    have hh := half_up (x := a) hb
    have d0 : 0 ≤ a / b := Int.ediv_nonneg (by omega) (by omega)
    have d1 : a / b ≤ a := Int.ediv_le_self _ (by omega)
    have hr0 := Int.emod_nonneg a (show b ≠ 0 by omega)
    have hr1 := Int.emod_lt_of_pos a hb
    rw [hx, if_neg h, hh, Int.tmod_eq_emod_of_nonneg (by omega), Int.tdiv_eq_ediv_of_nonneg (by omega), w64 (x := b - a % b) (by omega) (by omega), w64 (x := a / b) (by omega) (by omega)]
    have hc : ¬ (decide (a < 0) != decide (b < 0)) = true := by simp [h]; omega
    by_cases g : a % b ≥ b - a % b
    · rw [if_pos g, if_neg hc, if_pos g, w64 (x := a / b + 1) (by omega) (by omega)]
    · rw [if_neg g, if_neg hc, if_neg g]

theorem rdiv_bounds {a b m : Int} (hb : 0 < b) (h0 : -m ≤ a) (h1 : a ≤ m) : -(m + 1) ≤ rdiv a b ∧ rdiv a b ≤ m + 1 := by
  unfold rdiv
  have aux : ∀ x : Int, 0 ≤ x → x ≤ m → 0 ≤ (2 * x + b) / (2 * b) ∧ (2 * x + b) / (2 * b) ≤ m + 1 := by
    intro x hx hxm
    rw [half_up hb]
    have d0 : 0 ≤ x / b := Int.ediv_nonneg (by omega) (by omega)
    have d1 : x / b ≤ x := Int.ediv_le_self _ (by omega)
    split <;> omega
  split
  · have := aux (-a) (by omega) (by omega)
    rw [show b - 2 * a = 2 * -a + b by omega]
    omega
  · have := aux a (by omega) (by omega)
    omega

theorem specData_eq {a : ByteArray} {i s h w : Int} {k : Nat} (hk : 11 ≤ k) (h0 : 0 ≤ i) (h1 : i < 10) (hf : ∀ k, 11 ≤ k → spec_l07Find.f k a = some i) (ht : (spec_l07Table.f).bind (fun t => some (rd_L3 t i)) = some [s, h, w]) :
    spec_SpeciesData.f k a = some (s, h, w, 0) := by
  unfold spec_SpeciesData.f
  rw [hf k hk]
  cases hT : spec_l07Table.f with
  | none => rw [hT] at ht; cases ht
  | some t =>
    rw [hT] at ht
    simp only [Option.bind_some, Option.some.injEq] at ht ⊢
    have hl : t.length = 10 := by unfold spec_l07Table.f at hT; cases hT; rfl
    rw [if_neg (by omega), ht, if_pos h0, if_pos (by omega), if_pos (by simp), if_pos (by simp), if_pos (by simp)]
    rfl

theorem rd51_one (x : S51) : rd_T51 [x] 0 = x := rfl

theorem impl_valid (a : ByteArray) (wd : Int) : (∃ s h w : Int, impl_SpeciesData.f a = some (s, h, w, 0) ∧ impl_validBoard.f wd a = some (decide (1 ≤ wd ∧ wd ≤ 20000))) ∨ (impl_SpeciesData.f a = some (0, 0, 0, 3) ∧ impl_validBoard.f wd a = some false) := by
  unfold impl_validBoard.f impl_speciesShade.f
  rcases species a with ⟨i, h, s, w, i0, i1, _, _, _, _, hf, hd, ht⟩ | ⟨hf, hd⟩
  · left
    refine ⟨s, h, w, hd, ?_⟩
    rw [hd]; simp only [Option.bind_some, within_eq]; simp
  · right
    refine ⟨hd, ?_⟩
    rw [hd]; simp

theorem one_eq (a : ByteArray) (wd : Int) (k : Nat) (hk : 11 ≤ k) : ∃ b, spec_l20One.f k [(⟨wd, a⟩ : S51)] = some b ∧ impl_validBoard.f wd a = some b ∧
    (b = true → 1 ≤ wd ∧ wd ≤ 20000 ∧ ∃ s h w : Int, 200 ≤ w ∧ w ≤ 500 ∧ impl_SpeciesData.f a = some (s, h, w, 0) ∧ spec_SpeciesData.f k a = some (s, h, w, 0)) := by
  unfold spec_l20One.f impl_validBoard.f impl_speciesShade.f
  rw [if_pos (by simp), rd51_one]
  simp only [l00In_eq, Option.bind_some]
  rcases species a with ⟨i, h, s, w, i0, i1, _, _, w0, w1, hf, hd, ht⟩ | ⟨hf, hd⟩
  · rw [hd, hf k hk]
    simp only [Option.bind_some, within_eq]
    by_cases g : 1 ≤ wd ∧ wd ≤ 20000
    · refine ⟨true, by simp [g, i0], by simp [g], fun _ => ⟨g.1, g.2, s, h, w, w0, w1, rfl, specData_eq hk i0 i1 hf ht⟩⟩
    · refine ⟨false, by simp [g], by simp [g], fun h => by cases h⟩
  · rw [hd, hf k hk]
    simp only [Option.bind_some]
    refine ⟨false, ?_, by simp, fun h => by cases h⟩
    split <;> simp

theorem swell_eq {a : ByteArray} {s h w : Int} (hd : impl_SpeciesData.f a = some (s, h, w, 0)) {k : Nat} (hs : spec_SpeciesData.f k a = some (s, h, w, 0)) (w0 : 200 ≤ w) (w1 : w ≤ 500) (wd x y : Int) (hw : 1 ≤ wd ∧ wd ≤ 20000) (hx : 0 ≤ x ∧ x ≤ 280) (hy : 0 ≤ y ∧ y ≤ 280) :
    spec_l20Swell.f k [(⟨wd, a⟩ : S51)] x y = some (rdiv (wd * w * (y - x)) 1000000) ∧ impl_swell.f wd a x y = some (rdiv (wd * w * (y - x)) 1000000) ∧ -2800000000 ≤ wd * w * (y - x) ∧ wd * w * (y - x) ≤ 2800000000 := by
  have p0 : 0 ≤ wd * w := Int.mul_nonneg (by omega) (by omega)
  have p1 : wd * w ≤ 20000 * 500 := Int.mul_le_mul (by omega) (by omega) (by omega) (by omega)
  have q1 : wd * w * (y - x) ≤ 10000000 * 280 := by
    by_cases hyx : 0 ≤ y - x
    · exact Int.mul_le_mul (by omega) (by omega) hyx (by omega)
    · have : wd * w * (y - x) ≤ 0 := Int.mul_nonpos_of_nonneg_of_nonpos p0 (by omega)
      omega
  have q0 : -(10000000 * 280) ≤ wd * w * (y - x) := by
    by_cases hyx : y - x ≤ 0
    · have : wd * w * (x - y) ≤ 10000000 * 280 := Int.mul_le_mul (by omega) (by omega) (by omega) (by omega)
      have e : wd * w * (y - x) = -(wd * w * (x - y)) := by rw [← Int.mul_neg]; congr 1; omega
      omega
    · have : 0 ≤ wd * w * (y - x) := Int.mul_nonneg p0 (by omega)
      omega
  refine ⟨?_, ?_, by omega, by omega⟩
  · unfold spec_l20Swell.f
    rw [if_pos (by simp), rd51_one]
    simp only []
    rw [hs]
    simp only [Option.bind_some]
    rw [w64 (x := wd * w) (by omega) (by omega), w64 (x := y - x) (by omega) (by omega), w64 (x := wd * w * (y - x)) (by omega) (by omega), l01Div_eq (by omega) (by omega) (by omega) (by omega)]
    rfl
  · unfold impl_swell.f
    rw [hd]
    simp only [Option.bind_some]
    rw [w64 (x := wd * w) (by omega) (by omega), w64 (x := y - x) (by omega) (by omega), w64 (x := wd * w * (y - x)) (by omega) (by omega), nearest_eq (by omega) (by omega) (by omega) (by omega)]
    rfl

theorem FnExactSwellOf : laws_FnExactSwellOf.Pure := by
  intro wd a x y ⟨_, hs⟩ _ _
  refine ⟨11, ?_⟩
  unfold laws_FnExactSwellOf.f
  have hsz : ∃ v, laws_szBoard.f wd a 1048576 = some v := by
    unfold laws_szBoard.f; split <;> exact ⟨_, rfl⟩
  obtain ⟨v, hv⟩ := hsz
  rw [hv]
  simp only [Option.bind_some]
  by_cases h : v < 0
  · rw [if_pos h]
  rw [if_neg h]
  unfold laws_toBoard.f spec_SwellOf.f impl_SwellOf.f spec_l20Moisture.f impl_areMoistures.f
  simp only [Option.bind_some, within_eq, l00In_eq]
  obtain ⟨b, e1, e2, e3⟩ := one_eq a wd 11 (Nat.le_refl _)
  rw [e1, e2]
  simp only [Option.bind_some]
  cases b with
  | false => simp
  | true =>
    obtain ⟨g0, g1, s, h, w, w0, w1, hd, hsd⟩ := e3 rfl
    by_cases hx : 0 ≤ x ∧ x ≤ 280
    · by_cases hy : 0 ≤ y ∧ y ≤ 280
      · obtain ⟨f1, f2, _, _⟩ := swell_eq hd hsd w0 w1 wd x y ⟨g0, g1⟩ hx hy
        simp [hx, hy, f1, f2]
      · simp [hx, hy]
    · simp [hx]

end Go.Proofs.Ytdmiihpblfkamaa.Pure

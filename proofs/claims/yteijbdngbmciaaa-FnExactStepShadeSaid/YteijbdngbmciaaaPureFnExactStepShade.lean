/- FnExactStepShade: the program's StepShade returns what the reference's returns, for all arguments; no condition. -/
import Derived.Test.YteijbdngbmciaaaGFnExactStepShadex
namespace Go.Proofs.Yteijbdngbmciaaa.Pure
open Go.RowKit Go.Proofs.Yteijbdngbmciaaa.GFnExactStepShade Go.Proofs.YteijbdngbmciaaaW.PrintWords Go.Proofs.YteijbdngbmciaaaW.PrintLast
set_option linter.unusedSimpArgs false
set_option linter.unusedVariables false

theorem w64 {x : Int} (h0 : -9223372036854775808 ≤ x) (h1 : x ≤ 9223372036854775807) : wrap64 x = x := by
  unfold wrap64; omega

theorem within_eq (a b c : Int) : impl_within.f a b c = some (decide (b ≤ a ∧ a ≤ c)) := by
  unfold impl_within.f
  by_cases h : a ≥ b
  · rw [if_pos h]; simp [h]
  · rw [if_neg h]; simp; omega

theorem l00In_eq (a b c : Int) : spec_l00In.f a b c = some (decide (b ≤ a ∧ a ≤ c)) := by
  unfold spec_l00In.f
  by_cases h : a ≥ b
  · rw [if_pos h]; simp [h]
  · rw [if_neg h]; simp; omega

def fnd (x : List UInt8) : List ByteArray → Int → Int
  | [], _ => -1
  | y :: ys, i => if y.toList = x then i else fnd x ys (i + 1)

theorem find_l0 (x : ByteArray) (xs : List ByteArray) (hl : xs.length ≤ 1000) : ∀ (n : Nat) (k i : Nat), i + n = xs.length → n < k →
    spec_l07Find.l0 k x xs (i : Int) = some (fnd x.toList (xs.drop i) i) := by
  intro n
  induction n with
  | zero =>
    intro k i hi hk
    obtain ⟨k, rfl⟩ : ∃ m, k = m + 1 := ⟨k - 1, by omega⟩
    simp only [spec_l07Find.l0]
    rw [if_neg (by omega), List.drop_of_length_le (by omega)]; rfl
  | succ n ih =>
    intro k i hi hk
    obtain ⟨k, rfl⟩ : ∃ m, k = m + 1 := ⟨k - 1, by omega⟩
    simp only [spec_l07Find.l0]
    rw [if_pos (by omega), if_pos (by omega), List.drop_eq_getElem_cons (show i < xs.length by omega)]
    have hr : rdOf ByteArray.empty xs (i : Int) = xs[i]'(by omega) := by
      unfold rdOf; simp [List.getD, show i < xs.length by omega]
    rw [hr]
    by_cases h : (xs[i]'(by omega)).toList = x.toList
    · rw [if_pos h]; simp [fnd, h]
    · rw [if_neg h]
      have h2 := ih k (i + 1) (by omega) (by omega)
      rw [w64 (by omega) (by omega), show ((i : Int) + 1) = ((i + 1 : Nat) : Int) by omega, h2]
      simp [fnd, h]

theorem lit_toList (l : Array UInt8) : (⟨l⟩ : ByteArray).toList = l.toList := ByteArray.toList_eq _

/-- what the name of a species tells: the reference's place of it, and the program's data -/
def Known (x : List UInt8) : Prop := x = [97, 115, 104] ∨ x = [98, 101, 101, 99, 104] ∨ x = [98, 105, 114, 99, 104] ∨ x = [99, 104, 101, 114, 114, 121] ∨ x = [101, 98, 111, 110, 121] ∨ x = [104, 111, 108, 108, 121] ∨ x = [109, 97, 112, 108, 101] ∨ x = [111, 97, 107] ∨ x = [114, 111, 115, 101, 119, 111, 111, 100] ∨ x = [119, 97, 108, 110, 117, 116]

theorem find_eq (k : Nat) (hk : 11 ≤ k) (a : ByteArray) : ∃ l : List ByteArray, spec_l07Names.f = some l ∧ spec_l07Find.f k a = some (fnd a.toList l 0) := by
  refine ⟨_, rfl, ?_⟩
  unfold spec_l07Find.f spec_l07Names.f
  simp only [Option.bind_some]
  exact find_l0 a _ (by simp) 10 k 0 rfl (by omega)

theorem species (a : ByteArray) : (∃ i h : Int, ∃ s w : Int, 0 ≤ i ∧ i < 10 ∧ 33 ≤ h ∧ h ≤ 85 ∧ 200 ≤ w ∧ w ≤ 500 ∧ (∀ k, 11 ≤ k → spec_l07Find.f k a = some i) ∧ impl_SpeciesData.f a = some (s, h, w, 0) ∧ (spec_l07Table.f).bind (fun t => some (rd_L3 t i)) = some [s, h, w]) ∨
    ((∀ k, 11 ≤ k → spec_l07Find.f k a = some (-1)) ∧ impl_SpeciesData.f a = some (0, 0, 0, 3)) := by
  obtain ⟨l, hl, _⟩ := find_eq 11 (Nat.le_refl _) a
  have hf : ∀ k, 11 ≤ k → spec_l07Find.f k a = some (fnd a.toList l 0) := fun k hk => by
    obtain ⟨l', hl', h⟩ := find_eq k hk a
    rw [hl] at hl'; cases hl'; exact h
  unfold spec_l07Names.f at hl
  cases hl
  generalize hx : a.toList = x at *
  unfold impl_SpeciesData.f
  rw [hx]
  by_cases h : Known x
  · left
    rcases h with h | h | h | h | h | h | h | h | h | h <;> subst h
    · exact ⟨0, 40, 20, 310, by decide, by decide, by decide, by decide, by decide, by decide, fun k hk => (hf k hk).trans (by simp [fnd, lit_toList]), rfl, by first | trivial | rfl⟩
    · exact ⟨1, 45, 35, 410, by decide, by decide, by decide, by decide, by decide, by decide, fun k hk => (hf k hk).trans (by simp [fnd, lit_toList]), rfl, by first | trivial | rfl⟩
    · exact ⟨2, 33, 15, 280, by decide, by decide, by decide, by decide, by decide, by decide, fun k hk => (hf k hk).trans (by simp [fnd, lit_toList]), rfl, by first | trivial | rfl⟩
    · exact ⟨3, 36, 50, 240, by decide, by decide, by decide, by decide, by decide, by decide, fun k hk => (hf k hk).trans (by simp [fnd, lit_toList]), rfl, by first | trivial | rfl⟩
    · exact ⟨4, 85, 95, 270, by decide, by decide, by decide, by decide, by decide, by decide, fun k hk => (hf k hk).trans (by simp [fnd, lit_toList]), rfl, by first | trivial | rfl⟩
    · exact ⟨5, 35, 5, 370, by decide, by decide, by decide, by decide, by decide, by decide, fun k hk => (hf k hk).trans (by simp [fnd, lit_toList]), rfl, by first | trivial | rfl⟩
    · exact ⟨6, 42, 10, 290, by decide, by decide, by decide, by decide, by decide, by decide, fun k hk => (hf k hk).trans (by simp [fnd, lit_toList]), rfl, by first | trivial | rfl⟩
    · exact ⟨7, 40, 40, 330, by decide, by decide, by decide, by decide, by decide, by decide, fun k hk => (hf k hk).trans (by simp [fnd, lit_toList]), rfl, by first | trivial | rfl⟩
    · exact ⟨8, 60, 80, 220, by decide, by decide, by decide, by decide, by decide, by decide, fun k hk => (hf k hk).trans (by simp [fnd, lit_toList]), rfl, by first | trivial | rfl⟩
    · exact ⟨9, 38, 70, 260, by decide, by decide, by decide, by decide, by decide, by decide, fun k hk => (hf k hk).trans (by simp [fnd, lit_toList]), rfl, by first | trivial | rfl⟩
  · right
    unfold Known at h
    simp only [not_or] at h
    obtain ⟨h0, h1, h2, h3, h4, h5, h6, h7, h8, h9⟩ := h
    have e : ∀ l : List UInt8, ¬ x = l → ¬ l = x := fun l h1 h2 => h1 h2.symm
    constructor
    · intro k hk
      rw [hf k hk]
      simp only [fnd, lit_toList]
      rw [if_neg (e _ h0), if_neg (e _ h1), if_neg (e _ h2), if_neg (e _ h3), if_neg (e _ h4), if_neg (e _ h5), if_neg (e _ h6), if_neg (e _ h7), if_neg (e _ h8), if_neg (e _ h9)]
    · rw [if_neg h0, if_neg h1, if_neg h2, if_neg h3, if_neg h4, if_neg h5, if_neg h6, if_neg h7, if_neg h8, if_neg h9]

theorem tdiv_pos {a b : Int} (h : 0 ≤ a) : Int.tdiv a b = a / b := Int.tdiv_eq_ediv_of_nonneg h

/-- the reference's gain of a known hardness, and the program's: what both compute -/
theorem gain_eq {a : ByteArray} {s h w : Int} (hd : impl_SpeciesData.f a = some (s, h, w, 0)) (h0 : 33 ≤ h) (h1 : h ≤ 85) (x y : Int) (hx : 100 ≤ x ∧ x ≤ 300) (hy : 0 ≤ y ∧ y ≤ 600) :
    impl_gain.f a x y = some ((x - 100) * y / (10 * h)) ∧ spec_l21Gain.f h x y = some ((x - 100) * y / (10 * h)) ∧ 0 ≤ (x - 100) * y / (10 * h) ∧ (x - 100) * y / (10 * h) ≤ 120000 := by
  have m0 : 0 ≤ (x - 100) * y := Int.mul_nonneg (by omega) (by omega)
  have m1 : (x - 100) * y ≤ 200 * 600 := Int.mul_le_mul (by omega) (by omega) (by omega) (by omega)
  have d0 : 0 ≤ (x - 100) * y / (10 * h) := Int.ediv_nonneg m0 (by omega)
  have d1 : (x - 100) * y / (10 * h) ≤ (x - 100) * y := Int.ediv_le_self _ m0
  refine ⟨?_, ?_, d0, by omega⟩
  · unfold impl_gain.f
    rw [hd]
    simp only [Option.bind_some]
    rw [w64 (x := 10 * h) (by omega) (by omega), if_neg (by omega), w64 (x := x - 100) (by omega) (by omega), w64 (x := (x - 100) * y) (by omega) (by omega), tdiv_pos m0, w64 (by omega) (by omega)]
  · unfold spec_l21Gain.f
    rw [w64 (x := 10 * h) (by omega) (by omega), if_neg (by omega), w64 (x := x - 100) (by omega) (by omega), w64 (x := (x - 100) * y) (by omega) (by omega), tdiv_pos m0, w64 (by omega) (by omega)]

theorem hard_eq {a : ByteArray} {i s h w : Int} {k : Nat} (hk : 11 ≤ k) (h0 : 0 ≤ i) (h1 : i < 10) (hf : ∀ k, 11 ≤ k → spec_l07Find.f k a = some i) (ht : (spec_l07Table.f).bind (fun t => some (rd_L3 t i)) = some [s, h, w]) :
    spec_l21Hardness.f k a = some h := by
  unfold spec_l21Hardness.f
  rw [hf k hk]
  cases hT : spec_l07Table.f with
  | none => rw [hT] at ht; cases ht
  | some t =>
    rw [hT] at ht
    simp only [Option.bind_some, Option.some.injEq] at ht ⊢
    have hl : t.length = 10 := by unfold spec_l07Table.f at hT; cases hT; rfl
    rw [ht, if_pos h0, if_pos (by omega), if_pos (by simp)]
    rfl

/-- the nearest quotient, halves away from 0 -/
def rdiv (a b : Int) : Int := if a < 0 then -((b - 2 * a) / (2 * b)) else (2 * a + b) / (2 * b)

theorem half_up {x b : Int} (hb : 0 < b) : (2 * x + b) / (2 * b) = if x % b ≥ b - x % b then x / b + 1 else x / b := by
  have hx := Int.mul_ediv_add_emod x b
  have hr0 := Int.emod_nonneg x (show b ≠ 0 by omega)
  have hr1 := Int.emod_lt_of_pos x hb
  generalize hq : x / b = q at *
  generalize hr : x % b = r at *
  have key : ∀ c : Int, c * (2 * b) ≤ 2 * x + b → 2 * x + b < (c + 1) * (2 * b) → (2 * x + b) / (2 * b) = c := by
    intro c h1 h2
    apply Int.le_antisymm
    · exact Int.lt_add_one_iff.1 ((Int.ediv_lt_iff_lt_mul (by omega)).2 h2)
    · exact (Int.le_ediv_iff_mul_le (by omega)).2 h1
  have e0 : q * (2 * b) = 2 * (b * q) := by rw [Int.mul_comm q, Int.mul_assoc]
  have e1 : (q + 1) * (2 * b) = 2 * (b * q) + 2 * b := by rw [Int.add_mul, e0]; omega
  have e2 : (q + 1 + 1) * (2 * b) = 2 * (b * q) + 2 * b + 2 * b := by rw [Int.add_mul, e1]; omega
  generalize b * q = p at *
  split
  · apply key
    · rw [e1]; omega
    · rw [e2]; omega
  · apply key
    · rw [e0]; omega
    · rw [e1]; omega

theorem l01Div_eq {a b : Int} (ha : -1000000000000000000 ≤ a) (ha2 : a ≤ 1000000000000000000) (hb : 0 < b) (hb2 : b ≤ 1000000000000) : spec_l01Div.f a b = some (rdiv a b) := by
  unfold spec_l01Div.f rdiv
  rw [if_neg (by omega)]
  by_cases h : a < 0
  · have d0 : 0 ≤ (b - 2 * a) / (2 * b) := Int.ediv_nonneg (by omega) (by omega)
    have d1 : (b - 2 * a) / (2 * b) ≤ b - 2 * a := Int.ediv_le_self _ (by omega)
    rw [if_pos h, if_pos h, w64 (x := 2 * b) (by omega) (by omega), if_neg (by omega), w64 (x := 2 * a) (by omega) (by omega), w64 (x := b - 2 * a) (by omega) (by omega), Int.tdiv_eq_ediv_of_nonneg (by omega), w64 (x := (b - 2 * a) / (2 * b)) (by omega) (by omega), w64 (by omega) (by omega)]
  · have d0 : 0 ≤ (2 * a + b) / (2 * b) := Int.ediv_nonneg (by omega) (by omega)
    have d1 : (2 * a + b) / (2 * b) ≤ 2 * a + b := Int.ediv_le_self _ (by omega)
    rw [if_neg h, if_neg h, w64 (x := 2 * b) (by omega) (by omega), if_neg (by omega), w64 (x := 2 * a) (by omega) (by omega), w64 (x := 2 * a + b) (by omega) (by omega), Int.tdiv_eq_ediv_of_nonneg (by omega), w64 (by omega) (by omega)]

theorem nearest_eq {a b : Int} (ha : -1000000000000000000 ≤ a) (ha2 : a ≤ 1000000000000000000) (hb : 0 < b) (hb2 : b ≤ 1000000000000) : impl_nearest.f a b = some (rdiv a b) := by
  have hm : mx b (wrap64 (-b)) = b := by rw [w64 (by omega) (by omega)]; unfold mx; rw [if_neg (by omega)]
  unfold impl_nearest.f rdiv
  rw [if_neg (by omega), hm, if_neg (by omega)]
  by_cases h : a < 0
  · have hx : mx a (wrap64 (-a)) = -a := by rw [w64 (by omega) (by omega)]; unfold mx; rw [if_pos (by omega)]
    have hh := half_up (x := -a) hb
    have d0 : 0 ≤ (-a) / b := Int.ediv_nonneg (by omega) (by omega)
    have d1 : (-a) / b ≤ -a := Int.ediv_le_self _ (by omega)
    have hr0 := Int.emod_nonneg (-a) (show b ≠ 0 by omega)
    have hr1 := Int.emod_lt_of_pos (-a) hb
    rw [hx, if_pos h, show b - 2 * a = 2 * -a + b by omega, hh, Int.tmod_eq_emod_of_nonneg (by omega), Int.tdiv_eq_ediv_of_nonneg (by omega), w64 (x := b - -a % b) (by omega) (by omega), w64 (x := -a / b) (by omega) (by omega)]
    have hc : (decide (a < 0) != decide (b < 0)) = true := by simp [h]; omega
    by_cases g : -a % b ≥ b - -a % b
    · rw [if_pos g, if_pos hc, if_pos g, w64 (x := -a / b + 1) (by omega) (by omega), w64 (by omega) (by omega)]
    · rw [if_neg g, if_pos hc, if_neg g, w64 (by omega) (by omega)]
  · have hx : mx a (wrap64 (-a)) = a := by rw [w64 (by omega) (by omega)]; unfold mx; rw [if_neg (by omega)]
    have hh := half_up (x := a) hb
    have d0 : 0 ≤ a / b := Int.ediv_nonneg (by omega) (by omega)
    have d1 : a / b ≤ a := Int.ediv_le_self _ (by omega)
    have hr0 := Int.emod_nonneg a (show b ≠ 0 by omega)
    have hr1 := Int.emod_lt_of_pos a hb
    rw [hx, if_neg h, hh, Int.tmod_eq_emod_of_nonneg (by omega), Int.tdiv_eq_ediv_of_nonneg (by omega), w64 (x := b - a % b) (by omega) (by omega), w64 (x := a / b) (by omega) (by omega)]
    have hc : ¬ (decide (a < 0) != decide (b < 0)) = true := by simp [h]; omega
    by_cases g : a % b ≥ b - a % b
    · rw [if_pos g, if_neg hc, if_pos g, w64 (x := a / b + 1) (by omega) (by omega)]
    · rw [if_neg g, if_neg hc, if_neg g]

theorem rdiv_bounds {a b m : Int} (hb : 0 < b) (h0 : -m ≤ a) (h1 : a ≤ m) : -(m + 1) ≤ rdiv a b ∧ rdiv a b ≤ m + 1 := by
  unfold rdiv
  have aux : ∀ x : Int, 0 ≤ x → x ≤ m → 0 ≤ (2 * x + b) / (2 * b) ∧ (2 * x + b) / (2 * b) ≤ m + 1 := by
    intro x hx hxm
    rw [half_up hb]
    have d0 : 0 ≤ x / b := Int.ediv_nonneg (by omega) (by omega)
    have d1 : x / b ≤ x := Int.ediv_le_self _ (by omega)
    split <;> omega
  split
  · have := aux (-a) (by omega) (by omega)
    rw [show b - 2 * a = 2 * -a + b by omega]
    omega
  · have := aux a (by omega) (by omega)
    omega

theorem step_eq (x : S38) : ∃ b : Bool, spec_l21Step.f [x] = some b ∧ impl_ValidStep.f x.f0 x.f1 x.f2 = some b ∧
    (b = true → (x.f0 = 1 ∧ 100 ≤ x.f1 ∧ x.f1 ≤ 300 ∧ 0 ≤ x.f2 ∧ x.f2 ≤ 600) ∨ (x.f0 = 2 ∧ 0 ≤ x.f1 ∧ x.f1 ≤ 100 ∧ 0 ≤ x.f2 ∧ x.f2 ≤ 100) ∨ (x.f0 = 3 ∧ 0 ≤ x.f1 ∧ x.f1 ≤ 600 ∧ x.f2 = 0)) := by
  have r : rd_T38 [x] 0 = x := rfl
  unfold impl_ValidStep.f spec_l21Step.f spec_l21Heat.f
  simp only [Option.bind_some, within_eq, l00In_eq, r, List.length_cons, List.length_nil]
  generalize x.f0 = a
  generalize x.f1 = b
  generalize x.f2 = c
  by_cases h1 : a = 1
  · subst h1
    refine ⟨decide (100 ≤ b ∧ b ≤ 300) && decide (0 ≤ c ∧ c ≤ 600), ?_, ?_, ?_⟩
    · by_cases g1 : 100 ≤ b ∧ b ≤ 300 <;> by_cases g2 : 0 ≤ c ∧ c ≤ 600 <;> simp [g1, g2]
    · by_cases g1 : 100 ≤ b ∧ b ≤ 300 <;> by_cases g2 : 0 ≤ c ∧ c ≤ 600 <;> simp [g1, g2]
    · simp; omega
  · by_cases h2 : a = 2
    · subst h2
      refine ⟨decide (0 ≤ b ∧ b ≤ 100) && decide (0 ≤ c ∧ c ≤ 100), ?_, ?_, ?_⟩
      · by_cases g1 : 0 ≤ b ∧ b ≤ 100 <;> by_cases g2 : 0 ≤ c ∧ c ≤ 100 <;> simp [g1, g2]
      · by_cases g1 : 0 ≤ b ∧ b ≤ 100 <;> by_cases g2 : 0 ≤ c ∧ c ≤ 100 <;> simp [g1, g2]
      · simp; omega
    · by_cases h3 : a = 3
      · subst h3
        refine ⟨decide (0 ≤ b ∧ b ≤ 600) && decide (c = 0), ?_, ?_, ?_⟩
        · by_cases g1 : 0 ≤ b ∧ b ≤ 600 <;> by_cases g2 : c = 0 <;> simp [g1, g2]
        · by_cases g1 : 0 ≤ b ∧ b ≤ 600 <;> by_cases g2 : c = 0 <;> simp [g1, g2]
        · simp; omega
      · exact ⟨false, by simp [h1, h2, h3], by simp [h1, h2, h3], by simp⟩

def vs (x : S38) : Bool := impl_ValidStep.f x.f0 x.f1 x.f2 == some true

theorem vs_spec (x : S38) : spec_l21Step.f [x] = some (vs x) ∧ impl_ValidStep.f x.f0 x.f1 x.f2 = some (vs x) ∧
    (vs x = true → (x.f0 = 1 ∧ 100 ≤ x.f1 ∧ x.f1 ≤ 300 ∧ 0 ≤ x.f2 ∧ x.f2 ≤ 600) ∨ (x.f0 = 2 ∧ 0 ≤ x.f1 ∧ x.f1 ≤ 100 ∧ 0 ≤ x.f2 ∧ x.f2 ≤ 100) ∨ (x.f0 = 3 ∧ 0 ≤ x.f1 ∧ x.f1 ≤ 600 ∧ x.f2 = 0)) := by
  obtain ⟨b, e1, e2, e3⟩ := step_eq x
  have e : vs x = b := by unfold vs; rw [e2]; cases b <;> rfl
  rw [e]; exact ⟨e1, e2, e3⟩

theorem rdiv100 {x d : Int} (h0 : 0 ≤ d) (h1 : -(100 * d) ≤ x) (h2 : x ≤ 100 * d) : -d ≤ rdiv x 100 ∧ rdiv x 100 ≤ d ∧ (0 ≤ x → 0 ≤ rdiv x 100) ∧ (x ≤ 0 → rdiv x 100 ≤ 0) := by
  unfold rdiv
  split <;> omega

theorem shade_eq {a : ByteArray} {i s h w : Int} (hd : impl_SpeciesData.f a = some (s, h, w, 0)) (h0 : 33 ≤ h) (h1 : h ≤ 85) (x : S38) (hx : vs x = true) (sh : Int) (hs : 0 ≤ sh ∧ sh ≤ 100) :
    ∃ v, spec_l21Shade.f h sh [x] = some v ∧ impl_stepShade.f a sh x.f0 x.f1 x.f2 = some v ∧ 0 ≤ v ∧ v ≤ 100 := by
  have r : rd_T38 [x] 0 = x := rfl
  unfold spec_l21Shade.f impl_stepShade.f
  rw [if_pos (by simp), r]
  rcases (vs_spec x).2.2 hx with ⟨e, g1, g2, g3, g4⟩ | ⟨e, g1, g2, g3, g4⟩ | ⟨e, g1, g2, g3⟩
  · obtain ⟨q1, q2, q3, q4⟩ := gain_eq hd h0 h1 x.f1 x.f2 ⟨g1, g2⟩ ⟨g3, g4⟩
    rw [if_pos e, if_pos e, q1, q2]
    simp only [Option.bind_some]
    generalize (x.f1 - 100) * x.f2 / (10 * h) = g at *
    unfold spec_l00Min.f mn
    rw [w64 (x := sh + g) (by omega) (by omega)]
    by_cases c : 100 < sh + g
    · exact ⟨100, by simp [c], by simp [c], by omega, by omega⟩
    · exact ⟨sh + g, by simp [c], by simp [c], by omega, by omega⟩
  · have n1 : ¬ x.f0 = 1 := by omega
    rw [if_neg n1, if_pos e, if_neg n1, if_pos e]
    have hb : -(100 * (if x.f1 ≥ sh then x.f1 - sh else sh - x.f1)) ≤ (x.f1 - sh) * x.f2 ∧ (x.f1 - sh) * x.f2 ≤ 100 * (if x.f1 ≥ sh then x.f1 - sh else sh - x.f1) ∧ (x.f1 ≥ sh → 0 ≤ (x.f1 - sh) * x.f2) ∧ (x.f1 ≤ sh → (x.f1 - sh) * x.f2 ≤ 0) := by
      by_cases c : x.f1 ≥ sh
      · have m0 : 0 ≤ (x.f1 - sh) * x.f2 := Int.mul_nonneg (by omega) g3
        have m1 : (x.f1 - sh) * x.f2 ≤ (x.f1 - sh) * 100 := Int.mul_le_mul_of_nonneg_left g4 (by omega)
        rw [if_pos c]
        refine ⟨by omega, by omega, fun _ => m0, fun c2 => ?_⟩
        have : x.f1 - sh = 0 := by omega
        rw [this]; simp
      · have m0 : 0 ≤ (sh - x.f1) * x.f2 := Int.mul_nonneg (by omega) g3
        have m1 : (sh - x.f1) * x.f2 ≤ (sh - x.f1) * 100 := Int.mul_le_mul_of_nonneg_left g4 (by omega)
        have e2 : (x.f1 - sh) * x.f2 = -((sh - x.f1) * x.f2) := by rw [← Int.neg_mul]; congr 1; omega
        rw [if_neg c]
        refine ⟨by omega, by omega, fun c2 => by omega, fun _ => by omega⟩
    obtain ⟨b1, b2, b3, b4⟩ := hb
    have hd := rdiv100 (x := (x.f1 - sh) * x.f2) (d := if x.f1 ≥ sh then x.f1 - sh else sh - x.f1) (by split <;> omega) b1 b2
    have hbig : -10000 ≤ (x.f1 - sh) * x.f2 ∧ (x.f1 - sh) * x.f2 ≤ 10000 := by split at b1 <;> split at b2 <;> omega
    rw [w64 (x := x.f1 - sh) (by omega) (by omega), w64 (x := (x.f1 - sh) * x.f2) (by omega) (by omega), l01Div_eq (by omega) (by omega) (by omega) (by omega), nearest_eq (by omega) (by omega) (by omega) (by omega)]
    simp only [Option.bind_some]
    obtain ⟨d1, d2, d3, d4⟩ := hd
    have hv : 0 ≤ sh + rdiv ((x.f1 - sh) * x.f2) 100 ∧ sh + rdiv ((x.f1 - sh) * x.f2) 100 ≤ 100 := by
      by_cases c : x.f1 ≥ sh
      · have := d3 (b3 c)
        rw [if_pos c] at d2
        omega
      · have := d4 (b4 (by omega))
        rw [if_neg c] at d1
        omega
    rw [w64 (x := sh + rdiv ((x.f1 - sh) * x.f2) 100) (by omega) (by omega)]
    exact ⟨_, rfl, rfl, hv.1, hv.2⟩
  · have n1 : ¬ x.f0 = 1 := by omega
    have n2 : ¬ x.f0 = 2 := by omega
    rw [if_neg n1, if_neg n2, if_neg n1, if_neg n2, Int.tdiv_eq_ediv_of_nonneg g1, w64 (x := x.f1 / 10) (by omega) (by omega), w64 (x := sh - x.f1 / 10) (by omega) (by omega)]
    unfold spec_l00Max.f mx
    by_cases c : 0 > sh - x.f1 / 10
    · exact ⟨0, by rw [if_pos c]; rfl, by rw [if_pos (by omega)], by omega, by omega⟩
    · exact ⟨sh - x.f1 / 10, by rw [if_neg c]; rfl, by rw [if_neg (by omega)], by omega, by omega⟩

/-- the code of a species and a shade -/
theorem shadeCode_eq (a : ByteArray) (sh : Int) : ∃ c, (∀ k, 11 ≤ k → spec_l21Ask.f k a sh = some c) ∧ impl_shadeCode.f a sh = some c ∧
    (c = 0 → 0 ≤ sh ∧ sh ≤ 100 ∧ ∃ s h w : Int, impl_SpeciesData.f a = some (s, h, w, 0) ∧ 33 ≤ h ∧ h ≤ 85 ∧ ∀ k, 11 ≤ k → spec_l21Hardness.f k a = some h) := by
  unfold spec_l21Ask.f impl_shadeCode.f impl_isSpecies.f impl_speciesShade.f
  rcases species a with ⟨i, h, s, w, i0, i1, h0, h1, _, _, hf, hd, ht⟩ | ⟨hf, hd⟩
  · rw [hd]
    simp only [Option.bind_some, within_eq, l00In_eq]
    by_cases g : 0 ≤ sh ∧ sh ≤ 100
    · refine ⟨0, fun k hk => ?_, by simp [g], fun _ => ⟨g.1, g.2, s, h, w, rfl, h0, h1, fun k hk => hard_eq hk i0 i1 hf ht⟩⟩
      rw [hf k hk]; simp [g, show ¬ i < 0 by omega]
    · refine ⟨2, fun k hk => ?_, by simp [g], fun h => by omega⟩
      rw [hf k hk]; simp [g, show ¬ i < 0 by omega]
  · rw [hd]
    refine ⟨3, fun k hk => ?_, by simp, fun h => by omega⟩
    rw [hf k hk]; simp

theorem FnExactStepShade : laws_FnExactStepShade.Pure := by
  intro a sh x0 x1 x2 ha _ _
  refine ⟨11, ?_⟩
  unfold laws_FnExactStepShade.f
  by_cases hs : (a.size : Int) > 1048576
  · simp [hs]
  have n0 : ¬ (a.size : Int) > 1048576 := hs
  simp only [n0, if_false]
  unfold laws_toStep.f spec_StepShade.f impl_StepShade.f
  simp only [Option.bind_some]
  have vx := vs_spec (⟨x0, x1, x2⟩ : S38)
  rw [vx.1, vx.2.1]
  obtain ⟨c, c1, c2, c3⟩ := shadeCode_eq a sh
  rw [c1 11 (Nat.le_refl _), c2]
  simp only [Option.bind_some]
  cases hv : vs (⟨x0, x1, x2⟩ : S38) with
  | false => simp
  | true =>
    by_cases h0 : c = 0
    · obtain ⟨s0, s1, s, h, w, hd, b0, b1, hh⟩ := c3 h0
      obtain ⟨v, v1, v2, _, _⟩ := shade_eq (i := 0) hd b0 b1 ⟨x0, x1, x2⟩ hv sh ⟨s0, s1⟩
      simp [h0, hh 11 (Nat.le_refl _), v1, v2]
    · simp [h0]

end Go.Proofs.Yteijbdngbmciaaa.Pure

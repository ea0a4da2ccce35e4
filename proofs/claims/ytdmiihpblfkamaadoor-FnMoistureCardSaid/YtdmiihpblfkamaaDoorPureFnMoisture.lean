/- FnMoisture: more humid air makes wood moister, the least humidity is enough, a board swells as it shrinks, and wider boards swell more; no condition but that the listed table reads as the card ties it. -/
import Derived.Test.YtdmiihpblfkamaaDoorGFnMoisturex5
import Derived.OpenShut
import Derived.Laws.BitsLemmas
namespace Go.Proofs.YtdmiihpblfkamaaDoor.Pure
open Go.RowKit Go.Proofs.YtdmiihpblfkamaaDoor.GFnMoisture Go.Proofs.YtdmiihpblfkamaaDoorW.PrintWords Go.Proofs.YtdmiihpblfkamaaDoorW.PrintLast
set_option linter.unusedSimpArgs false
set_option linter.unusedVariables false

theorem w64 {x : Int} (h0 : -9223372036854775808 ≤ x) (h1 : x ≤ 9223372036854775807) : wrap64 x = x := by
  unfold wrap64; omega

theorem within_eq (a b c : Int) : impl_within.f a b c = some (decide (b ≤ a ∧ a ≤ c)) := by
  unfold impl_within.f
  by_cases h : a ≥ b
  · rw [if_pos h]; simp [h]
  · rw [if_neg h]; simp; omega

theorem rdi (xs : List Int) (i : Nat) (h : i < xs.length) : rd xs (i : Int) = xs[i] := by
  unfold rd; simp [List.getD, h]

/-- the nearest quotient, halves away from 0 -/
def rdiv (a b : Int) : Int := if a < 0 then -((b - 2 * a) / (2 * b)) else (2 * a + b) / (2 * b)

theorem half_up {x b : Int} (hb : 0 < b) : (2 * x + b) / (2 * b) = if x % b ≥ b - x % b then x / b + 1 else x / b := by
  have hx := Int.mul_ediv_add_emod x b
  have hr0 := Int.emod_nonneg x (show b ≠ 0 by omega)
  have hr1 := Int.emod_lt_of_pos x hb
  generalize hq : x / b = q at *
  generalize hr : x % b = r at *
  have key : ∀ c : Int, c * (2 * b) ≤ 2 * x + b → 2 * x + b < (c + 1) * (2 * b) → (2 * x + b) / (2 * b) = c := by
    intro c h1 h2
    apply Int.le_antisymm
    · exact Int.lt_add_one_iff.1 ((Int.ediv_lt_iff_lt_mul (by omega)).2 h2)
    · exact (Int.le_ediv_iff_mul_le (by omega)).2 h1
  have e0 : q * (2 * b) = 2 * (b * q) := by rw [Int.mul_comm q, Int.mul_assoc]
  have e1 : (q + 1) * (2 * b) = 2 * (b * q) + 2 * b := by rw [Int.add_mul, e0]; omega
  have e2 : (q + 1 + 1) * (2 * b) = 2 * (b * q) + 2 * b + 2 * b := by rw [Int.add_mul, e1]; omega
  generalize b * q = p at *
  split
  · apply key
    · rw [e1]; omega
    · rw [e2]; omega
  · apply key
    · rw [e0]; omega
    · rw [e1]; omega

theorem nearest_eq {a b : Int} (ha : -1000000000000000000 ≤ a) (ha2 : a ≤ 1000000000000000000) (hb : 0 < b) (hb2 : b ≤ 1000000000000) : impl_nearest.f a b = some (rdiv a b) := by
  have hm : mx b (wrap64 (-b)) = b := by rw [w64 (by omega) (by omega)]; unfold mx; rw [if_neg (by omega)]
  unfold impl_nearest.f rdiv
  rw [if_neg (by omega), hm, if_neg (by omega)]
  by_cases h : a < 0
  · have hx : mx a (wrap64 (-a)) = -a := by rw [w64 (by omega) (by omega)]; unfold mx; rw [if_pos (by omega)]
    have hh := half_up (x := -a) hb
    have d0 : 0 ≤ (-a) / b := Int.ediv_nonneg (by omega) (by omega)
    have d1 : (-a) / b ≤ -a := Int.ediv_le_self _ (by omega)
    have hr0 := Int.emod_nonneg (-a) (show b ≠ 0 by omega)
    have hr1 := Int.emod_lt_of_pos (-a) hb
    rw [hx, if_pos h, show b - 2 * a = 2 * -a + b by omega, hh, Int.tmod_eq_emod_of_nonneg (by omega), Int.tdiv_eq_ediv_of_nonneg (by omega), w64 (x := b - -a % b) (by omega) (by omega), w64 (x := -a / b) (by omega) (by omega)]
    have hc : (decide (a < 0) != decide (b < 0)) = true := by simp [h]; omega
    by_cases g : -a % b ≥ b - -a % b
    · rw [if_pos g, if_pos hc, if_pos g, w64 (x := -a / b + 1) (by omega) (by omega), w64 (by omega) (by omega)]
    · rw [if_neg g, if_pos hc, if_neg g, w64 (by omega) (by omega)]
  · have hx : mx a (wrap64 (-a)) = a := by rw [w64 (by omega) (by omega)]; unfold mx; rw [if_neg (by omega)]
    have hh := half_up (x := a) hb
    have d0 : 0 ≤ a / b := Int.ediv_nonneg (by omega) (by omega)
    have d1 : a / b ≤ a := Int.ediv_le_self _ (by omega)
    have hr0 := Int.emod_nonneg a (show b ≠ 0 by omega)
    have hr1 := Int.emod_lt_of_pos a hb
    rw [hx, if_neg h, hh, Int.tmod_eq_emod_of_nonneg (by omega), Int.tdiv_eq_ediv_of_nonneg (by omega), w64 (x := b - a % b) (by omega) (by omega), w64 (x := a / b) (by omega) (by omega)]
    have hc : ¬ (decide (a < 0) != decide (b < 0)) = true := by simp [h]; omega
    by_cases g : a % b ≥ b - a % b
    · rw [if_pos g, if_neg hc, if_pos g, w64 (x := a / b + 1) (by omega) (by omega)]
    · rw [if_neg g, if_neg hc, if_neg g]

theorem rdiv_bounds {a b m : Int} (hb : 0 < b) (h0 : -m ≤ a) (h1 : a ≤ m) : -(m + 1) ≤ rdiv a b ∧ rdiv a b ≤ m + 1 := by
  unfold rdiv
  have aux : ∀ x : Int, 0 ≤ x → x ≤ m → 0 ≤ (2 * x + b) / (2 * b) ∧ (2 * x + b) / (2 * b) ≤ m + 1 := by
    intro x hx hxm
    rw [half_up hb]
    have d0 : 0 ≤ x / b := Int.ediv_nonneg (by omega) (by omega)
    have d1 : x / b ≤ x := Int.ediv_le_self _ (by omega)
    split <;> omega
  split
  · have := aux (-a) (by omega) (by omega)
    rw [show b - 2 * a = 2 * -a + b by omega]
    omega
  · have := aux a (by omega) (by omega)
    omega

theorem u64wrap (n : Int) : IntKind.u64.wrap n = n % 18446744073709551616 := by simp [IntKind.wrap, IntKind.bits, IntKind.signed]
theorem and255 {x : Int} (h0 : 0 ≤ x) (h1 : x < 18446744073709551616) : Go.bits .and .u64 x 255 = x % 256 :=
  bits_mask .u64 64 (by decide) (fun n h0 h1 => by rw [u64wrap]; omega) 8 (by decide) x h0 h1

theorem top_bits (y : Int) : 0 ≤ wrap64 (Go.bits .and .u64 (IntKind.u64.wrap y / 1099511627776) 255) ∧ wrap64 (Go.bits .and .u64 (IntKind.u64.wrap y / 1099511627776) 255) ≤ 255 := by
  rw [u64wrap, and255 (by omega) (by omega), w64 (by omega) (by omega)]
  omega

theorem next_gen (l : List Int) (hw : ∀ n ∈ l, (Lit.int .u8 n).wf = true) (i z : Int) (hi : 0 ≤ i ∧ i ≤ 1000) : ∃ x z', spec_l00Src_next.f l i z = some (x, i + 1, z') ∧ 0 ≤ x ∧ x ≤ 255 := by
  unfold spec_l00Src_next.f
  rw [w64 (x := i + 1) (by omega) (by omega)]
  by_cases h : i < (l.length : Int)
  · rw [if_pos h, if_pos hi.1, if_pos (by omega)]
    obtain ⟨j, rfl⟩ := Int.eq_ofNat_of_zero_le hi.1
    have b := Go.bounds_u8 (hw (l[j]'(by omega)) (List.getElem_mem _))
    rw [rdi l j (by omega)]
    rw [w64 (x := l[j]'(by omega)) (by omega) (by omega)]
    exact ⟨_, _, rfl, b.1, b.2⟩
  · rw [if_neg h, if_neg (by omega)]
    exact ⟨_, _, rfl, (top_bits _).1, (top_bits _).2⟩

theorem pick_gen (l : List Int) (hw : ∀ n ∈ l, (Lit.int .u8 n).wf = true) (i z : Int) (hi : 0 ≤ i ∧ i ≤ 900) (n : Int) (hn : 2 ≤ n ∧ n ≤ 10000) : ∃ v i' z', spec_l00Src_pick.f l i z n = some (v, i', z') ∧ 0 ≤ v ∧ v < n ∧ 0 ≤ i' ∧ i' ≤ i + 2 := by
  unfold spec_l00Src_pick.f
  rw [if_neg (by omega)]
  obtain ⟨x, z1, e, x0, x1⟩ := next_gen l hw i z (by omega)
  rw [e]
  simp only [Option.bind_some]
  by_cases h : n > 200
  · obtain ⟨y, z2, e2, y0, y1⟩ := next_gen l hw (i + 1) z1 (by omega)
    rw [if_pos h, e2]
    simp only [Option.bind_some]
    rw [if_neg (by omega), w64 (x := x * 256) (by omega) (by omega), w64 (x := x * 256 + y) (by omega) (by omega), Int.tmod_eq_emod_of_nonneg (by omega)]
    exact ⟨_, _, _, rfl, Int.emod_nonneg _ (by omega), Int.emod_lt_of_pos _ (by omega), by omega, by omega⟩
  · rw [if_neg h, if_neg (by omega), Int.tmod_eq_emod_of_nonneg x0]
    exact ⟨_, _, _, rfl, Int.emod_nonneg _ (by omega), Int.emod_lt_of_pos _ (by omega), by omega, by omega⟩

theorem among_gen (l : List Int) (hw : ∀ n ∈ l, (Lit.int .u8 n).wf = true) (i z : Int) (hi : 0 ≤ i ∧ i ≤ 900) (xs : List Int) (hx : 2 ≤ xs.length ∧ xs.length ≤ 100) : ∃ v i' z', spec_l00Src_among.f l i z xs = some (v, i', z') ∧ v ∈ xs ∧ 0 ≤ i' ∧ i' ≤ i + 2 := by
  unfold spec_l00Src_among.f
  obtain ⟨v, i', z', e, v0, v1, j0, j1⟩ := pick_gen l hw i z hi (xs.length : Int) (by omega)
  rw [e]
  simp only [Option.bind_some]
  rw [if_pos v0, if_pos v1]
  obtain ⟨j, rfl⟩ := Int.eq_ofNat_of_zero_le v0
  rw [rdi xs j (by omega)]
  exact ⟨_, _, _, rfl, List.getElem_mem _, j0, j1⟩

theorem text_gen (l : List Int) (hw : ∀ n ∈ l, (Lit.int .u8 n).wf = true) (i z : Int) (hi : 0 ≤ i ∧ i ≤ 900) (xs : List ByteArray) (hx : 2 ≤ xs.length ∧ xs.length ≤ 100) : ∃ v i' z', spec_l00Src_text.f l i z xs = some (v, i', z') ∧ 0 ≤ i' ∧ i' ≤ i + 2 := by
  unfold spec_l00Src_text.f
  obtain ⟨v, i', z', e, v0, v1, j0, j1⟩ := pick_gen l hw i z hi (xs.length : Int) (by omega)
  rw [e]
  simp only [Option.bind_some]
  rw [if_pos v0, if_pos v1]
  exact ⟨_, _, _, rfl, j0, j1⟩

theorem moist_gen (l : List Int) (hw : ∀ n ∈ l, (Lit.int .u8 n).wf = true) (i z : Int) (hi : 0 ≤ i ∧ i ≤ 800) : ∃ v i' z', spec_l20DrawMoisture.f l i z = some (v, i', z') ∧ -1 ≤ v ∧ v ≤ 281 ∧ 0 ≤ i' ∧ i' ≤ i + 4 := by
  unfold spec_l20DrawMoisture.f spec_l00Src_one.f
  obtain ⟨v, i1, z1, e, v0, v1, j0, j1⟩ := pick_gen l hw i z (by omega) 9 (by omega)
  rw [e]
  simp only [Option.bind_some]
  by_cases h : (v == 0) = true
  · obtain ⟨u, i2, z2, e2, u0, k0, k1⟩ := among_gen l hw i1 z1 (by omega) [-1, 0, 280, 281] (by simp)
    rw [if_pos h, e2]
    simp only [Option.bind_some]
    refine ⟨_, _, _, rfl, ?_, ?_, k0, by omega⟩ <;> (simp at u0; omega)
  · obtain ⟨u, i2, z2, e2, u0, u1, k0, k1⟩ := pick_gen l hw i1 z1 (by omega) 281 (by omega)
    rw [if_neg h, e2]
    simp only [Option.bind_some]
    exact ⟨_, _, _, rfl, by omega, by omega, k0, by omega⟩

theorem one_gen (l : List Int) (hw : ∀ n ∈ l, (Lit.int .u8 n).wf = true) : ∃ w s i' z', spec_l20DrawOne.f l 0 0 = some (w, s, i', z') ∧ 0 ≤ w ∧ w ≤ 20001 ∧ 0 ≤ i' ∧ i' ≤ 20 := by
  unfold spec_l20DrawOne.f
  obtain ⟨v, i1, z1, e, v0, v1, j0, j1⟩ := pick_gen l hw 0 0 (by omega) 3000 (by omega)
  rw [e]
  simp only [Option.bind_some]
  obtain ⟨s, i2, z2, e2, k0, k1⟩ := text_gen l hw i1 z1 (by omega) _ (show 2 ≤ ([(⟨#[111, 97, 107]⟩ : ByteArray), (⟨#[97, 115, 104]⟩ : ByteArray), (⟨#[98, 101, 101, 99, 104]⟩ : ByteArray), (⟨#[109, 97, 112, 108, 101]⟩ : ByteArray), (⟨#[119, 97, 108, 110, 117, 116]⟩ : ByteArray)] : List ByteArray).length ∧ _ ≤ 100 from by simp)
  rw [e2]
  simp only [Option.bind_some]
  obtain ⟨c, i3, z3, e3, c0, c1, m0, m1⟩ := pick_gen l hw i2 z2 (by omega) 40 (by omega)
  rw [e3]
  simp only [Option.bind_some]
  by_cases h0 : c = 0
  · obtain ⟨u, i4, z4, e4, u0, n0, n1⟩ := among_gen l hw i3 z3 (by omega) [0, 1, 20000, 20001] (by simp)
    rw [if_pos h0, e4]
    simp only [Option.bind_some]
    refine ⟨_, _, _, _, rfl, ?_, ?_, n0, by omega⟩ <;> (simp at u0; omega)
  · rw [if_neg h0]
    by_cases h1 : c = 1
    · obtain ⟨u, i4, z4, e4, n0, n1⟩ := text_gen l hw i3 z3 (by omega) _ (show 2 ≤ ([(⟨#[112, 105, 110, 101]⟩ : ByteArray), (⟨#[]⟩ : ByteArray)] : List ByteArray).length ∧ _ ≤ 100 from by simp)
      rw [if_pos h1, e4]
      simp only [Option.bind_some]
      rw [w64 (x := 100 + v) (by omega) (by omega)]
      exact ⟨_, _, _, _, rfl, by omega, by omega, n0, by omega⟩
    · rw [if_neg h1, w64 (x := 100 + v) (by omega) (by omega)]
      exact ⟨_, _, _, _, rfl, by omega, by omega, m0, by omega⟩

theorem swell_gen (l : List Int) (hw : ∀ n ∈ l, (Lit.int .u8 n).wf = true) : ∃ w s a b, spec_DrawSwellOf.f l = some (w, s, a, b) ∧ 0 ≤ w ∧ w ≤ 20001 ∧ -1 ≤ a ∧ a ≤ 281 ∧ -1 ≤ b ∧ b ≤ 281 := by
  unfold spec_DrawSwellOf.f spec_l00From.f
  simp only [Option.bind_some]
  obtain ⟨w, s, i1, z1, e, w0, w1, j0, j1⟩ := one_gen l hw
  rw [e]
  simp only [Option.bind_some]
  obtain ⟨a, i2, z2, e2, a0, a1, k0, k1⟩ := moist_gen l hw i1 z1 (by omega)
  rw [e2]
  simp only [Option.bind_some]
  obtain ⟨b, i3, z3, e3, b0, b1, _, _⟩ := moist_gen l hw i2 z2 (by omega)
  rw [e3]
  exact ⟨_, _, _, _, rfl, w0, w1, a0, a1, b0, b1⟩

theorem hum_gen (l : List Int) (hw : ∀ n ∈ l, (Lit.int .u8 n).wf = true) : ∃ v, spec_DrawHumidityFor.f l = some v ∧ -1 ≤ v ∧ v ≤ 281 := by
  unfold spec_DrawHumidityFor.f spec_l00From.f
  simp only [Option.bind_some]
  obtain ⟨a, i2, z2, e2, a0, a1, _, _⟩ := moist_gen l hw 0 0 (by omega)
  rw [e2]
  exact ⟨_, rfl, a0, a1⟩

theorem b10At_gen (l : List Int) (hw : ∀ n ∈ l, (Lit.int .u8 n).wf = true) (m : Int) (hm : 2 ≤ m) : ∃ v, laws_b10At.f l 0 m = some v ∧ 0 ≤ v ∧ v < m := by
  unfold laws_b10At.f
  rw [if_neg (by omega)]
  by_cases h : (0 : Int) < (l.length : Int)
  · have b := Go.bounds_u8 (hw (l[0]'(by omega)) (List.getElem_mem _))
    have r : rd l 0 = l[0]'(by omega) := rdi l 0 (by omega)
    rw [if_pos h, if_pos (by omega), if_neg (by omega), r, w64 (by omega) (by omega), Int.tmod_eq_emod_of_nonneg b.1]
    exact ⟨_, rfl, Int.emod_nonneg _ (by omega), Int.emod_lt_of_pos _ (by omega)⟩
  · rw [if_neg h, if_neg (by omega), w64 (x := 0 * 37) (by omega) (by omega), w64 (by omega) (by omega), Int.tmod_eq_emod_of_nonneg (by omega)]
    exact ⟨_, rfl, Int.emod_nonneg _ (by omega), Int.emod_lt_of_pos _ (by omega)⟩

abbrev tabM : List Int := [0, 0, 30, 60, 50, 90, 65, 120, 80, 160, 100, 280]
def mo (x : Int) : Int := (impl_moisture.f 40 x tabM).getD 0
theorem mo_all : (List.range 101).all (fun i => (impl_moisture.f 40 (i : Int) tabM).isSome && decide (0 ≤ mo i) && decide (mo i ≤ 280)) = true := by decide +kernel
theorem mo_up : (List.range 100).all (fun i => decide (mo (i : Int) ≤ mo ((i + 1 : Nat) : Int))) = true := by decide +kernel
theorem mo100 : mo 100 = 280 := by decide +kernel
theorem mo_eq (x : Int) (hx : 0 ≤ x ∧ x ≤ 100) (k : Nat) (hk : 40 ≤ k) : impl_moisture.f k x tabM = some (mo x) ∧ 0 ≤ mo x ∧ mo x ≤ 280 := by
  obtain ⟨i, rfl⟩ := Int.eq_ofNat_of_zero_le hx.1
  have h := List.all_eq_true.1 mo_all i (List.mem_range.2 (by omega))
  simp only [Bool.and_eq_true, decide_eq_true_eq] at h
  refine ⟨?_, h.1.2, h.2⟩
  cases e : impl_moisture.f 40 (i : Int) tabM with
  | none => rw [e] at h; simp at h
  | some v =>
    have : mo (i : Int) = v := by unfold mo; rw [e]; rfl
    rw [this]
    exact at_rounds (g := fun k => impl_moisture.f k (i : Int) tabM) (fun k => impl_moisture.mono _ _ k) (k := 40) hk e
theorem mo_mono (x : Int) (hx : 0 ≤ x ∧ x ≤ 99) : mo x ≤ mo (x + 1) := by
  obtain ⟨i, rfl⟩ := Int.eq_ofNat_of_zero_le hx.1
  have h := List.all_eq_true.1 mo_up i (List.mem_range.2 (by omega))
  simpa using h

theorem mOf_eq (x : Int) (hx : 0 ≤ x ∧ x ≤ 100) (k : Nat) (hk : 40 ≤ k) : impl_MoistureOf.f k x tabM = some (mo x, 0) := by
  unfold impl_MoistureOf.f
  rw [within_eq, decide_eq_true hx]
  simp [(mo_eq x hx k hk).1]

theorem hum_loop (want : Int) (hw : want ≤ 280) : ∀ (n : Nat) (x : Int), x + n = 100 → 0 ≤ x → (x = 0 ∨ mo (x - 1) < want) →
    ∃ r, (∀ k, n + 50 < k → impl_HumidityFor.l0 k want x tabM = some (r, 0)) ∧ 0 ≤ r ∧ r ≤ 100 ∧ want ≤ mo r ∧ (r = 0 ∨ mo (r - 1) < want) := by
  intro n
  induction n with
  | zero =>
    intro x hx x0 hp
    obtain rfl : x = 100 := by omega
    refine ⟨100, fun k hk => ?_, by omega, by omega, by rw [mo100]; exact hw, hp⟩
    obtain ⟨k, rfl⟩ : ∃ m, k = m + 1 := ⟨k - 1, by omega⟩
    rw [impl_HumidityFor.l0, (mo_eq 100 (by omega) k (by omega)).1]
    simp only [Option.bind_some]
    rw [if_neg (by rw [mo100]; omega)]
  | succ n ih =>
    intro x hx x0 hp
    by_cases c : mo x < want
    · obtain ⟨r, h1, h2⟩ := ih (x + 1) (by omega) (by omega) (.inr (by rw [show x + 1 - 1 = x by omega]; exact c))
      refine ⟨r, fun k hk => ?_, h2⟩
      obtain ⟨k, rfl⟩ : ∃ m, k = m + 1 := ⟨k - 1, by omega⟩
      rw [impl_HumidityFor.l0, (mo_eq x (by omega) k (by omega)).1]
      simp only [Option.bind_some]
      rw [if_pos c, w64 (x := x + 1) (by omega) (by omega)]
      exact h1 k (by omega)
    · refine ⟨x, fun k hk => ?_, x0, by omega, by omega, hp⟩
      obtain ⟨k, rfl⟩ : ∃ m, k = m + 1 := ⟨k - 1, by omega⟩
      rw [impl_HumidityFor.l0, (mo_eq x (by omega) k (by omega)).1]
      simp only [Option.bind_some]
      rw [if_neg c]

theorem sp_impl (a : ByteArray) : (∃ s h w : Int, impl_SpeciesData.f a = some (s, h, w, 0) ∧ 200 ≤ w ∧ w ≤ 500) ∨ impl_SpeciesData.f a = some (0, 0, 0, 3) := by
  generalize hr : impl_SpeciesData.f a = r
  unfold impl_SpeciesData.f at hr
  repeat' split at hr
  all_goals subst hr
  all_goals first | exact .inr rfl | exact .inl ⟨_, _, _, rfl, by decide, by decide⟩

theorem rdiv_neg {a b : Int} (hb : 0 < b) : rdiv (-a) b = -rdiv a b := by
  unfold rdiv
  by_cases h : a < 0
  · rw [if_neg (by omega), if_pos h, show 2 * -a + b = b - 2 * a by omega]; omega
  · by_cases h0 : a = 0
    · subst h0
      have : b / (2 * b) = 0 := Int.ediv_eq_zero_of_lt (by omega) (by omega)
      simp [this]
    · rw [if_pos (by omega), if_neg h, show b - 2 * -a = 2 * a + b by omega]

theorem rdiv_mono {a c b : Int} (hb : 0 < b) (h0 : 0 ≤ a) (h : a ≤ c) : 0 ≤ rdiv a b ∧ rdiv a b ≤ rdiv c b := by
  unfold rdiv
  rw [if_neg (by omega), if_neg (by omega)]
  exact ⟨Int.ediv_nonneg (by omega) (by omega), Int.ediv_le_ediv (by omega) (by omega)⟩

/-- what SwellOf returns -/
theorem swell_of (w : Int) (s : ByteArray) (hw : 0 ≤ w ∧ w ≤ 30000) (a b : Int) : (∃ c : Int, c ≠ 0 ∧ impl_SwellOf.f w s a b = some (0, c) ∧ impl_SwellOf.f w s b a = some (0, c)) ∨
    ∃ u : Int, 200 ≤ u ∧ u ≤ 500 ∧ impl_SpeciesData.f s = some ((impl_SpeciesData.f s).get!.1, (impl_SpeciesData.f s).get!.2.1, u, 0) ∧ (1 ≤ w ∧ w ≤ 20000) ∧ (0 ≤ a ∧ a ≤ 280) ∧ (0 ≤ b ∧ b ≤ 280) ∧ impl_SwellOf.f w s a b = some (rdiv (w * u * (b - a)) 1000000, 0) ∧ impl_SwellOf.f w s b a = some (rdiv (w * u * (a - b)) 1000000, 0) := by
  unfold impl_SwellOf.f impl_validBoard.f impl_speciesShade.f impl_areMoistures.f impl_swell.f
  rcases sp_impl s with ⟨q, h, u, e, u0, u1⟩ | e
  · rw [e]
    simp only [Option.bind_some, within_eq]
    by_cases hw1 : 1 ≤ w ∧ w ≤ 20000
    · by_cases ha : 0 ≤ a ∧ a ≤ 280
      · by_cases hb : 0 ≤ b ∧ b ≤ 280
        · right
          refine ⟨u, u0, u1, rfl, hw1, ha, hb, ?_, ?_⟩
          all_goals
            have p0 : 0 ≤ w * u := Int.mul_nonneg (by omega) (by omega)
            have p1 : w * u ≤ 20000 * 500 := Int.mul_le_mul hw1.2 u1 (by omega) (by omega)
          · have q0 : -(10000000 * 280) ≤ w * u * (b - a) ∧ w * u * (b - a) ≤ 10000000 * 280 := by
              constructor
              · have := Int.mul_le_mul_of_nonneg_left (show -280 ≤ b - a by omega) p0; omega
              · have := Int.mul_le_mul_of_nonneg_left (show b - a ≤ 280 by omega) p0; omega
            rw [w64 (x := w * u) (by omega) (by omega), w64 (x := b - a) (by omega) (by omega), w64 (x := w * u * (b - a)) (by omega) (by omega), nearest_eq (by omega) (by omega) (by omega) (by omega)]
            simp [hw1, ha, hb]
          · have q0 : -(10000000 * 280) ≤ w * u * (a - b) ∧ w * u * (a - b) ≤ 10000000 * 280 := by
              constructor
              · have := Int.mul_le_mul_of_nonneg_left (show -280 ≤ a - b by omega) p0; omega
              · have := Int.mul_le_mul_of_nonneg_left (show a - b ≤ 280 by omega) p0; omega
            rw [w64 (x := w * u) (by omega) (by omega), w64 (x := a - b) (by omega) (by omega), w64 (x := w * u * (a - b)) (by omega) (by omega), nearest_eq (by omega) (by omega) (by omega) (by omega)]
            simp [hw1, ha, hb]
        · exact .inl ⟨2, by omega, by simp [hw1, ha, hb], by simp [hw1, ha, hb]⟩
      · exact .inl ⟨2, by omega, by simp [hw1, ha], by simp [hw1, ha]⟩
    · exact .inl ⟨1, by omega, by simp [hw1], by simp [hw1]⟩
  · rw [e]
    exact .inl ⟨1, by omega, by simp, by simp⟩

theorem abs_eq (x : Int) (h : -9000000000000000000 ≤ x ∧ x ≤ 9000000000000000000) : laws_b10Abs.f x = some (if x < 0 then -x else x) := by
  unfold laws_b10Abs.f
  by_cases c : x < 0
  · rw [if_pos c, if_pos c, w64 (by omega) (by omega)]
  · rw [if_neg c, if_neg c]

/-- a board swells as it shrinks, and a wider one not less -/
theorem swell_facts (w t u d : Int) (hw : 1 ≤ w) (ht : 0 ≤ t) (hwt : w + t ≤ 20000) (hu : 200 ≤ u ∧ u ≤ 500) (hd : -280 ≤ d ∧ d ≤ 280) :
    (-3000000000 ≤ rdiv (w * u * d) 1000000 ∧ rdiv (w * u * d) 1000000 ≤ 3000000000) ∧ (-3000000000 ≤ rdiv ((w + t) * u * d) 1000000 ∧ rdiv ((w + t) * u * d) 1000000 ≤ 3000000000) ∧
    (0 < rdiv (w * u * d) 1000000 → 0 < d) ∧
    (if rdiv (w * u * d) 1000000 < 0 then -rdiv (w * u * d) 1000000 else rdiv (w * u * d) 1000000) ≤ (if rdiv ((w + t) * u * d) 1000000 < 0 then -rdiv ((w + t) * u * d) 1000000 else rdiv ((w + t) * u * d) 1000000) := by
  have p0 : 0 ≤ w * u := Int.mul_nonneg (by omega) (by omega)
  have p2 : w * u ≤ (w + t) * u := Int.mul_le_mul_of_nonneg_right (by omega) (by omega)
  have p1 : (w + t) * u ≤ 20000 * 500 := Int.mul_le_mul hwt hu.2 (by omega) (by omega)
  generalize w * u = p at *
  generalize (w + t) * u = q at *
  have b : ∀ x : Int, 0 ≤ x → x ≤ 10000000 → -2800000000 ≤ x * d ∧ x * d ≤ 2800000000 := by
    intro x h0 h1
    have a1 := Int.mul_le_mul_of_nonneg_left (show -280 ≤ d by omega) h0
    have a2 := Int.mul_le_mul_of_nonneg_left (show d ≤ 280 by omega) h0
    omega
  have b1 := b p p0 (by omega)
  have b2 := b q (by omega) (by omega)
  have r1 := rdiv_bounds (b := 1000000) (m := 2800000000) (by omega) b1.1 b1.2
  have r2 := rdiv_bounds (b := 1000000) (m := 2800000000) (by omega) b2.1 b2.2
  refine ⟨⟨by omega, by omega⟩, ⟨by omega, by omega⟩, ?_⟩
  by_cases h : 0 ≤ d
  · have x0 : 0 ≤ p * d := Int.mul_nonneg p0 h
    have x1 : p * d ≤ q * d := Int.mul_le_mul_of_nonneg_right p2 h
    have m := rdiv_mono (b := 1000000) (by omega) x0 x1
    refine ⟨fun hp => ?_, ?_⟩
    · by_cases hz : d = 0
      · subst hz
        rw [Int.mul_zero] at hp
        exact absurd hp (by decide)
      · omega
    · rw [if_neg (by omega), if_neg (by omega)]; exact m.2
  · have x0 : 0 ≤ p * (-d) := Int.mul_nonneg p0 (by omega)
    have x1 : p * (-d) ≤ q * (-d) := Int.mul_le_mul_of_nonneg_right p2 (by omega)
    have m := rdiv_mono (b := 1000000) (by omega) x0 x1
    have n1 : rdiv (p * -d) 1000000 = -rdiv (p * d) 1000000 := by rw [Int.mul_neg, rdiv_neg (by omega)]
    have n2 : rdiv (q * -d) 1000000 = -rdiv (q * d) 1000000 := by rw [Int.mul_neg, rdiv_neg (by omega)]
    rw [n1, n2] at m
    refine ⟨fun hp => by omega, ?_⟩
    split <;> split <;> omega

theorem j3_eq (l m : List Int) (hw : ∀ n ∈ l, (Lit.int .u8 n).wf = true) (hm : ∀ n ∈ m, (Lit.int .u8 n).wf = true) (k : Nat) : laws_FnMoisture.j3 (k + 1 + 1) l m = some true := by
  obtain ⟨w, s, a, b, e, w0, w1, a0, a1, b0, b1⟩ := swell_gen l hw
  obtain ⟨t, et, t0, t1⟩ := b10At_gen m hm 200 (by omega)
  rw [laws_FnMoisture.j3, e]
  simp only [Option.bind_some]
  rw [et]
  simp only [Option.bind_some]
  rw [w64 (x := w + t) (by omega) (by omega)]
  rcases swell_of w s (by omega) a b with ⟨c, hc, e1, e2⟩ | ⟨u, u0, u1, es, hw1, ha, hb, e1, e2⟩
  · obtain ⟨v3, c3, e3⟩ : ∃ v3 c3, impl_SwellOf.f (w + t) s a b = some (v3, c3) := by
      rcases swell_of (w + t) s (by omega) a b with ⟨c, _, h, _⟩ | ⟨u, _, _, _, _, _, _, h, _⟩
      · exact ⟨_, _, h⟩
      · exact ⟨_, _, h⟩
    rw [e1, e2]
    simp only [Option.bind_some, e3, if_true, laws_FnMoisture.j4]
    rw [show ((0 : Int) != wrap64 (-0)) = false from by decide +kernel, if_neg (by simp), if_neg hc]
  · rw [e1, e2]
    have hx : w * u * (a - b) = -(w * u * (b - a)) := by rw [← Int.mul_neg]; congr 1; omega
    simp only [Option.bind_some, if_true]
    have F0 := swell_facts w 0 u (b - a) hw1.1 (by omega) (by omega) ⟨u0, u1⟩ (by omega)
    rw [hx, rdiv_neg (by omega), w64 (x := -(-rdiv (w * u * (b - a)) 1000000)) (by omega) (by omega), Int.neg_neg, bne_self_eq_false]
    rcases swell_of (w + t) s (by omega) a b with ⟨c3, hc3, e3, _⟩ | ⟨u', _, _, es', hw2, _, _, e3, _⟩
    · rw [e3]
      simp only [Option.bind_some, laws_FnMoisture.j4, Bool.false_eq_true, if_false, if_true]
      by_cases hv : rdiv (w * u * (b - a)) 1000000 ≤ 0
      · rw [if_pos hv, if_neg hc3]
      · have := F0.2.2.1 (by omega)
        rw [if_neg hv, if_pos (by omega), if_neg hc3]
    · have hu : u' = u := by
        rw [es] at es'
        simpa using es'.symm
      subst hu
      have F := swell_facts w t u' (b - a) hw1.1 t0 hw2.2 ⟨u0, u1⟩ (by omega)
      rw [e3]
      simp only [Option.bind_some, laws_FnMoisture.j4, Bool.false_eq_true, if_false, if_true]
      rw [abs_eq _ (by omega), abs_eq _ (by omega)]
      simp only [Option.bind_some]
      by_cases hv : rdiv (w * u' * (b - a)) 1000000 ≤ 0
      · rw [if_pos hv]; congr 1; exact decide_eq_true F.2.2.2
      · have := F.2.2.1 (by omega)
        rw [if_neg hv, if_pos (by omega)]; congr 1; exact decide_eq_true F.2.2.2

theorem FnMoisture : laws_FnMoisture.Pure := by
  intro l m ⟨_, hl⟩ ⟨_, hm⟩
  obtain ⟨k, hk⟩ : ∃ k : Nat, k = 400 := ⟨_, rfl⟩
  refine ⟨k + 1 + 1 + 1 + 1 + 1, ?_⟩
  have j0 : ∀ b : Bool, laws_FnMoisture.j0 (k + 1 + 1 + 1 + 1 + 1) l m b tabM = some true := by
    intro c
    cases c with
    | true => simp [laws_FnMoisture.j0]
    | false =>
      obtain ⟨t, et, t0, t1⟩ := b10At_gen l hl 100 (by omega)
      obtain ⟨want, ew, w0, w1⟩ := hum_gen m hm
      have hmono := mo_mono t (by omega)
      rw [laws_FnMoisture.j0, if_neg (by simp), et]
      simp only [Option.bind_some]
      rw [w64 (x := t + 1) (by omega) (by omega), mOf_eq t (by omega) _ (by omega), mOf_eq (t + 1) (by omega) _ (by omega), ew]
      simp only [Option.bind_some, if_true]
      rw [decide_eq_false (show ¬ mo (t + 1) < mo t by omega)]
      unfold impl_HumidityFor.f
      rw [within_eq]
      simp only [Option.bind_some]
      by_cases hw : 0 ≤ want ∧ want ≤ 280
      · obtain ⟨r, hr, r0, r1, r2, r3⟩ := hum_loop want hw.2 100 0 (by omega) (by omega) (.inl rfl)
        rw [decide_eq_true hw, if_pos rfl, hr _ (by omega)]
        simp only [Option.bind_some]
        rw [laws_FnMoisture.j1, if_neg (by simp), if_pos rfl, mOf_eq r ⟨r0, r1⟩ _ (by omega)]
        simp only [Option.bind_some, if_true]
        rw [decide_eq_false (show ¬ mo r < want by omega), laws_FnMoisture.j2, if_neg (by simp)]
        by_cases hz : r > 0
        · rw [if_pos hz, w64 (x := r - 1) (by omega) (by omega), mOf_eq (r - 1) (by omega) _ (by omega)]
          simp only [Option.bind_some, if_true]
          rw [if_neg (by omega)]
          exact j3_eq l m hl hm _
        · rw [if_neg hz]
          exact j3_eq l m hl hm _
      · rw [decide_eq_false hw, if_neg (by simp)]
        simp only [Option.bind_some]
        rw [laws_FnMoisture.j1, if_neg (by simp), if_neg (by omega)]
        exact j3_eq l m hl hm (k + 1)
  unfold laws_FnMoisture.f laws_b10Long.f
  simp only [Option.bind_some]
  split
  · exact j0 _
  · exact j0 _

end Go.Proofs.YtdmiihpblfkamaaDoor.Pure

/- FnExactHumidityFor: the program's HumidityFor returns what the reference's returns, for all arguments; no condition but that the listed table reads as the card ties it. -/
import Derived.Test.YtdmiihpblfkamaaDoorGFnExactHumidityForx4
namespace Go.Proofs.YtdmiihpblfkamaaDoor.Pure
open Go.RowKit Go.Proofs.YtdmiihpblfkamaaDoor.GFnExactHumidityFor Go.Proofs.YtdmiihpblfkamaaDoorW.PrintWords Go.Proofs.YtdmiihpblfkamaaDoorW.PrintLast
set_option linter.unusedSimpArgs false
set_option linter.unusedVariables false

theorem w64 {x : Int} (h0 : -9223372036854775808 ≤ x) (h1 : x ≤ 9223372036854775807) : wrap64 x = x := by
  unfold wrap64; omega

theorem within_eq (a b c : Int) : impl_within.f a b c = some (decide (b ≤ a ∧ a ≤ c)) := by
  unfold impl_within.f
  by_cases h : a ≥ b
  · rw [if_pos h]; simp [h]
  · rw [if_neg h]; simp; omega

theorem l00In_eq (a b c : Int) : spec_l00In.f a b c = some (decide (b ≤ a ∧ a ≤ c)) := by
  unfold spec_l00In.f
  by_cases h : a ≥ b
  · rw [if_pos h]; simp [h]
  · rw [if_neg h]; simp; omega

abbrev tabM : List Int := [0, 0, 30, 60, 50, 90, 65, 120, 80, 160, 100, 280]
def moistOk (i : Nat) : Bool := match spec_l20At.f 40 (i : Int), impl_moisture.f 40 (i : Int) tabM with
  | some v, some u => decide (v = u) && decide (0 ≤ v) && decide (v ≤ 280)
  | _, _ => false
/-- the 101 humidities, each tried by the kernel -/
theorem moist_all : (List.range 101).all moistOk = true := by decide +kernel
def mo (x : Int) : Int := (spec_l20At.f 40 x).getD 0

theorem mo_eq (x : Int) (hx : 0 ≤ x ∧ x ≤ 100) (k : Nat) (hk : 40 ≤ k) : spec_l20At.f k x = some (mo x) ∧ impl_moisture.f k x tabM = some (mo x) ∧ 0 ≤ mo x ∧ mo x ≤ 280 := by
  obtain ⟨i, rfl⟩ := Int.eq_ofNat_of_zero_le hx.1
  have h := List.all_eq_true.1 moist_all i (List.mem_range.2 (by omega))
  unfold moistOk at h
  unfold mo
  cases e1 : spec_l20At.f 40 (i : Int) with
  | none => rw [e1] at h; cases h
  | some v =>
    cases e2 : impl_moisture.f 40 (i : Int) tabM with
    | none => rw [e1, e2] at h; cases h
    | some u =>
      rw [e1, e2] at h
      simp only [Bool.and_eq_true, decide_eq_true_eq] at h
      obtain ⟨⟨rfl, h0⟩, h1⟩ := h
      refine ⟨?_, ?_, h0, h1⟩
      · exact at_rounds (g := fun k => spec_l20At.f k (i : Int)) (fun k => spec_l20At.mono _ k) (k := 40) hk e1
      · exact at_rounds (g := fun k => impl_moisture.f k (i : Int) tabM) (fun k => impl_moisture.mono _ _ k) (k := 40) hk e2

theorem hum_loops (want : Int) (hw : want ≤ mo 100) : ∀ (n : Nat) (x : Int), x + n = 100 → 0 ≤ x →
    ∃ r, ∀ k, n + 50 < k → spec_HumidityFor.l0 k want x = some r ∧ impl_HumidityFor.l0 k want x tabM = some r := by
  intro n
  induction n with
  | zero =>
    intro x hx x0
    obtain rfl : x = 100 := by omega
    refine ⟨(100, 0), fun k hk => ?_⟩
    obtain ⟨k, rfl⟩ : ∃ m, k = m + 1 := ⟨k - 1, by omega⟩
    obtain ⟨e1, e2, _, _⟩ := mo_eq 100 (by omega) k (by omega)
    rw [spec_HumidityFor.l0, impl_HumidityFor.l0, e1, e2]
    simp only [Option.bind_some]
    rw [if_neg (by omega), if_neg (by omega)]
    exact ⟨rfl, rfl⟩
  | succ n ih =>
    intro x hx x0
    obtain ⟨r, hr⟩ := ih (x + 1) (by omega) (by omega)
    by_cases c : mo x < want
    · refine ⟨r, fun k hk => ?_⟩
      obtain ⟨k, rfl⟩ : ∃ m, k = m + 1 := ⟨k - 1, by omega⟩
      obtain ⟨e1, e2, _, _⟩ := mo_eq x (by omega) k (by omega)
      obtain ⟨q1, q2⟩ := hr k (by omega)
      rw [spec_HumidityFor.l0, impl_HumidityFor.l0, e1, e2]
      simp only [Option.bind_some]
      rw [if_pos c, if_pos c, w64 (x := x + 1) (by omega) (by omega)]
      exact ⟨q1, q2⟩
    · refine ⟨(x, 0), fun k hk => ?_⟩
      obtain ⟨k, rfl⟩ : ∃ m, k = m + 1 := ⟨k - 1, by omega⟩
      obtain ⟨e1, e2, _, _⟩ := mo_eq x (by omega) k (by omega)
      rw [spec_HumidityFor.l0, impl_HumidityFor.l0, e1, e2]
      simp only [Option.bind_some]
      rw [if_neg c, if_neg c]
      exact ⟨rfl, rfl⟩

theorem mo100 : mo 100 = 280 := by decide +kernel

theorem FnExactHumidityFor : laws_FnExactHumidityFor.Pure := by
  intro a _
  refine ⟨400, ?_⟩
  unfold laws_FnExactHumidityFor.f spec_HumidityFor.f impl_HumidityFor.f spec_l20Moisture.f
  rw [within_eq, l00In_eq]
  simp only [Option.bind_some]
  by_cases h : 0 ≤ a ∧ a ≤ 280
  · obtain ⟨r, hr⟩ := hum_loops a (by rw [mo100]; omega) 100 0 (by omega) (by omega)
    obtain ⟨e1, e2⟩ := hr 400 (by omega)
    simp only [decide_eq_true h, if_true, e1]
    rw [show impl_HumidityFor.l0 400 a 0 [0, 0, 30, 60, 50, 90, 65, 120, 80, 160, 100, 280] = some r from e2]
    simp
  · simp [h]

end Go.Proofs.YtdmiihpblfkamaaDoor.Pure

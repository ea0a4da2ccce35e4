/- FnExactDaysToSettle: the program's DaysToSettle returns what the reference's returns, for all arguments; no condition. -/
import Derived.Test.YtdmiihpblfkamaaPFnExactDaysToSettlex1
namespace Go.Proofs.Ytdmiihpblfkamaa.Pure
open Go.RowKit Go.Proofs.Ytdmiihpblfkamaa.PFnExactDaysToSettle Go.Proofs.YtdmiihpblfkamaaW.PrintWords Go.Proofs.YtdmiihpblfkamaaW.PrintLast

theorem w64 {x : Int} (h0 : -9223372036854775808 ≤ x) (h1 : x ≤ 9223372036854775807) : wrap64 x = x := by
  unfold wrap64; omega

theorem within_eq (a b c : Int) : impl_within.f a b c = some (decide (b ≤ a ∧ a ≤ c)) := by
  unfold impl_within.f
  by_cases h : a ≥ b
  · rw [if_pos h]; simp [h]
  · rw [if_neg h]; simp; omega

theorem l00In_eq (a b c : Int) : spec_l00In.f a b c = some (decide (b ≤ a ∧ a ≤ c)) := by
  unfold spec_l00In.f
  by_cases h : a ≥ b
  · rw [if_pos h]; simp [h]
  · rw [if_neg h]; simp; omega

theorem step_bounds {d b : Int} (hd : 1 ≤ d) (hb : 1 ≤ b) : 1 ≤ (d + b - 1) / b ∧ (d + b - 1) / b ≤ d := by
  constructor
  · rw [Int.le_ediv_iff_mul_le (by omega)]; omega
  · have : (d + b - 1) / b < d + 1 := by
      rw [Int.ediv_lt_iff_lt_mul (by omega)]
      have := Int.mul_nonneg (show (0 : Int) ≤ d by omega) (show (0 : Int) ≤ b - 1 by omega)
      rw [Int.mul_sub] at this
      rw [Int.add_mul]
      omega
    omega

theorem loops {tol thick b : Int} (ht : 1 ≤ tol) (hb1 : 1 ≤ b) (hb2 : b ≤ 100) (hb : wrap64 (2 + wrap64 (Int.tdiv thick 50)) = b) :
    ∀ (n : Nat) (d days : Int) (k : Nat), d ≤ n → 0 ≤ d → d ≤ 280 → 0 ≤ days → days + n ≤ 1000 → n < k →
      ∃ r, spec_DaysToSettle.l0 k tol d b days = some (r, 0) ∧ impl_DaysToSettle.l0 k tol thick days d = some (r, 0) := by
  intro n
  induction n with
  | zero =>
    intro d days k h0 h1 h2 h3 h4 hk
    obtain ⟨k, rfl⟩ : ∃ m, k = m + 1 := ⟨k - 1, by omega⟩
    refine ⟨days, ?_, ?_⟩
    · simp only [spec_DaysToSettle.l0]; rw [if_neg (by omega)]
    · simp only [impl_DaysToSettle.l0]; rw [if_neg (by omega)]
  | succ n ih =>
    intro d days k h0 h1 h2 h3 h4 hk
    obtain ⟨k, rfl⟩ : ∃ m, k = m + 1 := ⟨k - 1, by omega⟩
    simp only [spec_DaysToSettle.l0, impl_DaysToSettle.l0]
    by_cases h : d > tol
    · rw [if_pos h, if_neg (by omega), if_pos h]
      obtain ⟨hq1, hq2⟩ := step_bounds (d := d) (b := b) (by omega) hb1
      obtain ⟨r, e1, e2⟩ := ih (d - (d + b - 1) / b) (days + 1) k (by omega) (by omega) (by omega) (by omega) (by omega) (by omega)
      refine ⟨r, ?_, ?_⟩
      · rw [w64 (x := d + b) (by omega) (by omega), w64 (x := d + b - 1) (by omega) (by omega), Int.tdiv_eq_ediv_of_nonneg (by omega),
          w64 (x := (d + b - 1) / b) (by omega) (by omega), w64 (x := d - (d + b - 1) / b) (by omega) (by omega), w64 (x := days + 1) (by omega) (by omega)]
        exact e1
      · rw [hb]
        unfold impl_upDiv.f
        rw [if_neg (by omega)]
        simp only [Option.bind_some]
        rw [w64 (x := d + b) (by omega) (by omega), w64 (x := d + b - 1) (by omega) (by omega), Int.tdiv_eq_ediv_of_nonneg (by omega),
          w64 (x := (d + b - 1) / b) (by omega) (by omega), w64 (x := d - (d + b - 1) / b) (by omega) (by omega), w64 (x := days + 1) (by omega) (by omega)]
        exact e2
    · exact ⟨days, by rw [if_neg h], by rw [if_neg h]⟩

theorem FnExactDaysToSettle : laws_FnExactDaysToSettle.Pure := by
  intro a0 a1 a2 a3 w0 w1 w2 w3
  clear w0 w1 w2 w3
  refine ⟨1000, ?_⟩
  unfold laws_FnExactDaysToSettle.f spec_DaysToSettle.f impl_DaysToSettle.f spec_l20Moisture.f impl_areMoistures.f
  simp only [within_eq, l00In_eq, Option.bind_some, decide_eq_true_eq]
  by_cases g0 : 0 ≤ a0 ∧ a0 ≤ 280
  · by_cases g1 : 0 ≤ a1 ∧ a1 ≤ 280
    · by_cases g2 : 1 ≤ a2 ∧ a2 ≤ 280
      · by_cases g3 : 1 ≤ a3 ∧ a3 ≤ 1000
        · have hq : Int.tdiv a3 50 = a3 / 50 := Int.tdiv_eq_ediv_of_nonneg (by omega)
          obtain ⟨r, e1, e2⟩ := loops (tol := a2) (thick := a3) (b := 2 + a3 / 50) (by omega) (by omega) (by omega)
            (by rw [hq, w64 (x := a3 / 50) (by omega) (by omega), w64 (by omega) (by omega)]) 280 (if a0 > a1 then a0 - a1 else a1 - a0) 0 999 (by split <;> omega) (by split <;> omega) (by split <;> omega) (by omega) (by omega) (by omega)
          have hs : spec_DaysToSettle.j0 1000 a0 a1 a2 a3 false = some (r, 0) := by
            simp only [spec_DaysToSettle.j0]
            rw [if_neg (by simp)]
            unfold spec_l00Max.f
            rw [hq, w64 (x := a3 / 50) (by omega) (by omega), w64 (x := 2 + a3 / 50) (by omega) (by omega), w64 (x := a0 - a1) (by omega) (by omega), w64 (x := a1 - a0) (by omega) (by omega), ← e1]
            by_cases h : a0 > a1
            · rw [if_pos h, if_pos (by omega)]; rfl
            · rw [if_neg h]
              by_cases h2 : a0 - a1 > a1 - a0
              · omega
              · rw [if_neg h2]; rfl
          have hi : impl_DaysToSettle.j0 1000 a0 a1 a2 a3 false = some (r, 0) := by
            simp only [impl_DaysToSettle.j0]
            rw [if_neg (by simp)]
            unfold impl_absolute.f mx
            rw [w64 (x := a0 - a1) (by omega) (by omega), w64 (x := -(a0 - a1)) (by omega) (by omega), ← e2]
            by_cases h : a0 > a1
            · rw [if_pos h, if_neg (by omega)]; rfl
            · rw [if_neg h]
              by_cases h2 : a0 - a1 < -(a0 - a1)
              · rw [if_pos h2, show -(a0 - a1) = a1 - a0 by omega]; rfl
              · rw [if_neg h2, show a0 - a1 = a1 - a0 by omega]; rfl
          simp [g0, g1, g2, g3, hs, hi]
        · simp [g0, g1, g2, g3, spec_DaysToSettle.j0, impl_DaysToSettle.j0]
      · simp [g0, g1, g2, spec_DaysToSettle.j0, impl_DaysToSettle.j0]
    · simp [g0, g1, spec_DaysToSettle.j0, impl_DaysToSettle.j0]
  · simp [g0, spec_DaysToSettle.j0, impl_DaysToSettle.j0]

end Go.Proofs.Ytdmiihpblfkamaa.Pure

/- FnExactValidStep: the program's ValidStep returns what the reference's returns, for all arguments; no condition. -/
import Derived.Test.YtdmiihpblfkamaaGFnExactValidStepx1
namespace Go.Proofs.Ytdmiihpblfkamaa.Pure
open Go.RowKit Go.Proofs.Ytdmiihpblfkamaa.GFnExactValidStep Go.Proofs.YtdmiihpblfkamaaW.PrintWords Go.Proofs.YtdmiihpblfkamaaW.PrintLast

theorem w64 {x : Int} (h0 : -9223372036854775808 ≤ x) (h1 : x ≤ 9223372036854775807) : wrap64 x = x := by
  unfold wrap64; omega

theorem within_eq (a b c : Int) : impl_within.f a b c = some (decide (b ≤ a ∧ a ≤ c)) := by
  unfold impl_within.f
  by_cases h : a ≥ b
  · rw [if_pos h]; simp [h]
  · rw [if_neg h]; simp; omega

theorem l00In_eq (a b c : Int) : spec_l00In.f a b c = some (decide (b ≤ a ∧ a ≤ c)) := by
  unfold spec_l00In.f
  by_cases h : a ≥ b
  · rw [if_pos h]; simp [h]
  · rw [if_neg h]; simp; omega

theorem FnExactValidStep : laws_FnExactValidStep.Pure := by
  intro a b c _
  have r : rd_T25 [(⟨a, b, c⟩ : S25)] 0 = ⟨a, b, c⟩ := rfl
  unfold laws_FnExactValidStep.f laws_toStep.f spec_ValidStep.f impl_ValidStep.f spec_l21Step.f spec_l21Heat.f
  simp only [Option.bind_some, within_eq, l00In_eq, r, List.length_cons, List.length_nil]
  rw [if_pos (by decide)]
  by_cases h1 : a = 1
  · subst h1
    by_cases g1 : 100 ≤ b ∧ b ≤ 300 <;> by_cases g2 : 0 ≤ c ∧ c ≤ 600 <;> simp [g1, g2]
  · by_cases h2 : a = 2
    · subst h2
      by_cases g1 : 0 ≤ b ∧ b ≤ 100 <;> by_cases g2 : 0 ≤ c ∧ c ≤ 100 <;> simp [g1, g2]
    · by_cases h3 : a = 3
      · subst h3
        by_cases g1 : 0 ≤ b ∧ b ≤ 600 <;> by_cases g2 : c = 0 <;> simp [g1, g2]
      · simp [h1, h2, h3]

end Go.Proofs.Ytdmiihpblfkamaa.Pure

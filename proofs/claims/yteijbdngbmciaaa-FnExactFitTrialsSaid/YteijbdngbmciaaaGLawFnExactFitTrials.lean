-- Written by the session's own program (gen.py) out of the translation's print. Lean checks it.
import Derived.Test.YteijbdngbmciaaaRows
import Derived.Test.YteijbdngbmciaaaGFnExactFitTrialsx6
import Derived.Test.YteijbdngbmciaaaPureFnExactFitTrials
import Derived.Test.YteijbdngbmciaaaXOpen
import Derived.WalkKit
import Derived.ProofKit
import Derived.OpenShut
import Derived.ShutString
import Derived.ChangeOld
import Derived.Below
import Derived.SizedLaws
namespace Go.Proofs.Yteijbdngbmciaaa.fnExactFitTrials
open Go.ChangeShapes Go.WideShapes Go.ChangeAt Go.RowKit Go.Proofs.YteijbdngbmciaaaX Go.Proofs.Yteijbdngbmciaaa.GFnExactFitTrials
open Go.Proofs.YteijbdngbmciaaaW.PrintWords
open Go.ChangeMaps (open_string shut_string)
set_option linter.unusedVariables false
theorem own : ownKnob Try.prog.godebug = none := by kernel_rfl
theorem laidOut : laidOutB Try.prog = true := by kernel_rfl
set_option maxRecDepth 100000 in
theorem op75 : OpK Try.prog 75 k75 G75 :=
  op_struct (fun x : S75 => (x.f0, x.f1, x.f2, x.f3)) (fun v => ⟨v.1, v.2.1, v.2.2.1, v.2.2.2⟩) (fun _ => rfl) Try.underlying75 (by kernel_rfl) (opT_cons (off := 0) (off2 := 1) rfl (by kernel_rfl) rfl (op_string Try.underlying9) (opT_cons (off := 1) (off2 := 2) rfl (by kernel_rfl) rfl (op_int Try.underlying2) (opT_cons (off := 2) (off2 := 3) rfl (by kernel_rfl) rfl (op_int Try.underlying2) (opT_one (off := 3) rfl (by kernel_rfl) (op_int Try.underlying2)))))
set_option maxRecDepth 100000 in
theorem lifted (os : Os) (started : os.Started) (H : Type) (enc : TypeId × Value → H) :
    ReturnsInHanded {} Try.checked os 6 .any (Rows.fnExactFitTrialsSpec.pre6 enc Try.prog Try.f6 Rows.fnExactFitTrialsRow.domain false) (Rows.fnExactFitTrialsSpec.post enc Try.prog Try.f6 false true false false) := by
  refine returnsInHanded_of_change_sized (C := Try.checked) own started (by kernel_rfl) Try.func6
    (ChangeSpec.witness6 (enc := enc) (C := Try.checked) false ⟨#[], #[.slice none 0 0], []⟩ 8 (by kernel_rfl) (by kernel_rfl) (by kernel_rfl) (by kernel_rfl)) ?_
  intro W base args ds gs before hval0 hW hcnd hsz0 _
  have hval : ∀ (j : Nat) t v, Try.f6.params[j]? = some t → args[j]? = some v → Value.okWide Try.prog W .any base t v := hval0
  have hW' := hW
  obtain ⟨p, q, hA0, hV, rfl, hfz, hnd⟩ := hW
  have hA : DataW.TrodAll enc Try.prog W 0 (fun _ => true) true Try.f6.params.toList args.toList ds p := hA0
  rw [Try.params6] at hA hval
  obtain ⟨v0, vs0, d0, ds0, p0, q0, hargs, rfl, rfl, h0, r0⟩ := trodAll_cons hA
  obtain ⟨rfl, rfl, rfl⟩ := trodAll_nil r0
  obtain rfl : args = #[v0] := by cases args; simp_all
  obtain ⟨rfl, rfl⟩ := trodVars_none hV
  obtain ⟨b0, len0, cap0, rfl⟩ := okWide_slice Try.underlying41 (hval 0 41 v0 rfl rfl)
  have k0 := h0
  have lt0 : ∀ x ∈ p0, x.block < W.heap.size := by obtain ⟨m, hm⟩ := k0; exact DataW.trod_lt m _ _ _ hm
  obtain ⟨m0, hf0⟩ := h0
  obtain ⟨x0, hK0, hG0⟩ := (op_slice Try.underlying41 (by kernel_rfl) op75) _ _ _ _ _ _ _ hf0
  obtain ⟨A0, c0, e0, hl0, hC0⟩ := hK0
  obtain ⟨rfl, rfl, rfl⟩ : b0 = A0 ∧ len0 = x0.length ∧ cap0 = c0 := by
    have e_ : Value.slice b0 len0 cap0 = Value.slice A0 x0.length c0 := (List.cons.inj e0).1
    injection e_ with e1_ e2_ e3_
    exact ⟨e1_, e2_, e3_⟩
  clear hA0 hval0 hsz0
  obtain ⟨k, h⟩ := Pure.FnExactFitTrials x0 hG0
  refine (laws_FnExactFitTrials.calls k _ _ x0 true W hC0 hl0 h).mono ?_
  rintro e W' ⟨he, bel0⟩
  have bel : Below W.heap.size W W' := bel0
  subst he
  exact ⟨_, rfl, _, _, _, [], _, [], hW', trodAll_mk1 (shut_bool Try.underlying4 _), (trodAll_cons_mk (Below.trod laidOut (by kernel_rfl) (of_decide_eq_true (by kernel_rfl)) k0 bel lt0) trodAll_mk0), rfl, bel.frame _, fun h => by cases h⟩
theorem over : Rows.fnExactFitTrialsRow.holds Try.pinned (OpenSpec.ofChange Rows.fnExactFitTrialsSpec) :=
  OpenClaim.holds_of_wide 6 Try.f6 rfl rfl rfl rfl rfl rfl rfl ⟨rfl, rfl, rfl, rfl, rfl⟩ rfl rfl rfl rfl rfl (by kernel_rfl) Try.func6 (by kernel_rfl)
    (of_decide_eq_true (by kernel_rfl)) (by unfold Func.isWrapper; first | (rw [if_pos (by decide +kernel)]; kernel_rfl) | (rw [if_neg (by decide +kernel)]; exact ⟨rfl, rfl⟩))
    (fun os started H enc _ => lifted os started H enc)
theorem proved : Rows.FnExactFitTrialsSaid := over
#print axioms proved
end Go.Proofs.Yteijbdngbmciaaa.fnExactFitTrials
namespace Go.Proofs.Yteijbdngbmciaaa
/-- The row, under a short name, for the claim. -/
theorem fnExactFitTrials_holds : Rows.FnExactFitTrialsSaid := fnExactFitTrials.proved
end Go.Proofs.Yteijbdngbmciaaa

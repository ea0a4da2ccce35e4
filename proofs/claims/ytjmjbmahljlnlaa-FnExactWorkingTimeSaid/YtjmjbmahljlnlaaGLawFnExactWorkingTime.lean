-- Written by the session's own program (gen.py) out of the translation's print. Lean checks it.
import Derived.Test.YtjmjbmahljlnlaaRows
import Derived.Test.YtjmjbmahljlnlaaGFnExactWorkingTimex5
import Derived.Test.YtjmjbmahljlnlaaPureFnExactWorkingTime
import Derived.Test.YtjmjbmahljlnlaaXOpen
import Derived.WalkKit
import Derived.ProofKit
import Derived.OpenShut
import Derived.ShutString
import Derived.ChangeOld
import Derived.Below
import Derived.SizedLaws
namespace Go.Proofs.Ytjmjbmahljlnlaa.fnExactWorkingTime
open Go.ChangeShapes Go.WideShapes Go.ChangeAt Go.RowKit Go.Proofs.YtjmjbmahljlnlaaX Go.Proofs.Ytjmjbmahljlnlaa.GFnExactWorkingTime
open Go.Proofs.YtjmjbmahljlnlaaW.PrintWords
open Go.ChangeMaps (open_string shut_string)
set_option linter.unusedVariables false
theorem own : ownKnob Try.prog.godebug = none := by kernel_rfl
theorem laidOut : laidOutB Try.prog = true := by kernel_rfl
set_option maxRecDepth 100000 in
theorem op26 : OpK Try.prog 26 k26 G26 :=
  op_struct (fun x : S26 => (x.f0, x.f1, x.f2, x.f3)) (fun v => ⟨v.1, v.2.1, v.2.2.1, v.2.2.2⟩) (fun _ => rfl) Try.underlying26 (by kernel_rfl) (opT_cons (off := 0) (off2 := 1) rfl (by kernel_rfl) rfl (op_string Try.underlying9) (opT_cons (off := 1) (off2 := 2) rfl (by kernel_rfl) rfl (op_int Try.underlying2) (opT_cons (off := 2) (off2 := 3) rfl (by kernel_rfl) rfl (op_int Try.underlying2) (opT_one (off := 3) rfl (by kernel_rfl) (op_int Try.underlying2)))))
set_option maxRecDepth 100000 in
theorem lifted (os : Os) (started : os.Started) (H : Type) (enc : TypeId × Value → H) :
    ReturnsInHanded {} Try.checked os 7 .any (Rows.fnExactWorkingTimeSpec.pre6 enc Try.prog Try.f7 Rows.fnExactWorkingTimeRow.domain false) (Rows.fnExactWorkingTimeSpec.post enc Try.prog Try.f7 false true false false) := by
  refine returnsInHanded_of_change_sized (C := Try.checked) own started (by kernel_rfl) Try.func7
    (ChangeSpec.witness6 (enc := enc) (C := Try.checked) false ⟨#[], #[.slice none 0 0], []⟩ 8 (by kernel_rfl) (by kernel_rfl) (by kernel_rfl) (by kernel_rfl)) ?_
  intro W base args ds gs before hval0 hW hcnd hsz0 _
  have hval : ∀ (j : Nat) t v, Try.f7.params[j]? = some t → args[j]? = some v → Value.okWide Try.prog W .any base t v := hval0
  have hW' := hW
  obtain ⟨p, q, hA0, hV, rfl, hfz, hnd⟩ := hW
  have hA : DataW.TrodAll enc Try.prog W 0 (fun _ => true) true Try.f7.params.toList args.toList ds p := hA0
  rw [Try.params7] at hA hval
  obtain ⟨v0, vs0, d0, ds0, p0, q0, hargs, rfl, rfl, h0, r0⟩ := trodAll_cons hA
  obtain ⟨rfl, rfl, rfl⟩ := trodAll_nil r0
  obtain rfl : args = #[v0] := by cases args; simp_all
  obtain ⟨rfl, rfl⟩ := trodVars_none hV
  obtain ⟨b0, len0, cap0, rfl⟩ := okWide_slice Try.underlying34 (hval 0 34 v0 rfl rfl)
  have k0 := h0
  have lt0 : ∀ x ∈ p0, x.block < W.heap.size := by obtain ⟨m, hm⟩ := k0; exact DataW.trod_lt m _ _ _ hm
  obtain ⟨m0, hf0⟩ := h0
  obtain ⟨x0, hK0, hG0⟩ := (op_slice Try.underlying34 (by kernel_rfl) op26) _ _ _ _ _ _ _ hf0
  obtain ⟨A0, c0, e0, hl0, hC0⟩ := hK0
  obtain ⟨rfl, rfl, rfl⟩ : b0 = A0 ∧ len0 = x0.length ∧ cap0 = c0 := by
    have e_ : Value.slice b0 len0 cap0 = Value.slice A0 x0.length c0 := (List.cons.inj e0).1
    injection e_ with e1_ e2_ e3_
    exact ⟨e1_, e2_, e3_⟩
  clear hA0 hval0 hsz0
  obtain ⟨k, h⟩ := Pure.FnExactWorkingTime x0 hG0
  refine (laws_FnExactWorkingTime.calls k _ _ x0 true W hC0 hl0 h).mono ?_
  rintro e W' ⟨he, bel0⟩
  have bel : Below W.heap.size W W' := bel0
  subst he
  exact ⟨_, rfl, _, _, _, [], _, [], hW', trodAll_mk1 (shut_bool Try.underlying4 _), (trodAll_cons_mk (Below.trod laidOut (by kernel_rfl) (of_decide_eq_true (by kernel_rfl)) k0 bel lt0) trodAll_mk0), rfl, bel.frame _, fun h => by cases h⟩
theorem over : Rows.fnExactWorkingTimeRow.holds Try.pinned (OpenSpec.ofChange Rows.fnExactWorkingTimeSpec) :=
  OpenClaim.holds_of_wide 7 Try.f7 rfl rfl rfl rfl rfl rfl rfl ⟨rfl, rfl, rfl, rfl, rfl⟩ rfl rfl rfl rfl rfl (by kernel_rfl) Try.func7 (by kernel_rfl)
    (of_decide_eq_true (by kernel_rfl)) (by unfold Func.isWrapper; first | (rw [if_pos (by decide +kernel)]; kernel_rfl) | (rw [if_neg (by decide +kernel)]; exact ⟨rfl, rfl⟩))
    (fun os started H enc _ => lifted os started H enc)
theorem proved : Rows.FnExactWorkingTimeSaid := over
#print axioms proved
end Go.Proofs.Ytjmjbmahljlnlaa.fnExactWorkingTime
namespace Go.Proofs.Ytjmjbmahljlnlaa
/-- The row, under a short name, for the claim. -/
theorem fnExactWorkingTime_holds : Rows.FnExactWorkingTimeSaid := fnExactWorkingTime.proved
end Go.Proofs.Ytjmjbmahljlnlaa

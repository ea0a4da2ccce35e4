-- Written by the session's own program (gen.py) out of the translation's print. Lean checks it.
import Derived.Test.YtdmiihpblfkamaaRows
import Derived.Test.YtdmiihpblfkamaaGFnExactSameRecipex4
import Derived.Test.YtdmiihpblfkamaaPureFnExactSameRecipe
import Derived.Test.YtdmiihpblfkamaaXOpen
import Derived.WalkKit
import Derived.ProofKit
import Derived.OpenShut
import Derived.ShutString
import Derived.ChangeOld
import Derived.Below
import Derived.SizedLaws
namespace Go.Proofs.Ytdmiihpblfkamaa.fnExactSameRecipe
open Go.ChangeShapes Go.WideShapes Go.ChangeAt Go.RowKit Go.Proofs.YtdmiihpblfkamaaX Go.Proofs.Ytdmiihpblfkamaa.GFnExactSameRecipe
open Go.Proofs.YtdmiihpblfkamaaW.PrintWords
open Go.ChangeMaps (open_string shut_string)
set_option linter.unusedVariables false
theorem own : ownKnob Try.prog.godebug = none := by kernel_rfl
theorem laidOut : laidOutB Try.prog = true := by kernel_rfl
set_option maxRecDepth 100000 in
theorem op23 : OpK Try.prog 23 k23 G23 :=
  op_struct (fun x : S23 => (x.f0, x.f1, x.f2)) (fun v => ⟨v.1, v.2.1, v.2.2⟩) (fun _ => rfl) Try.underlying23 (by kernel_rfl) (opT_cons (off := 0) (off2 := 1) rfl (by kernel_rfl) rfl (op_int Try.underlying2) (opT_cons (off := 1) (off2 := 2) rfl (by kernel_rfl) rfl (op_int Try.underlying2) (opT_one (off := 2) rfl (by kernel_rfl) (op_int Try.underlying2))))
set_option maxRecDepth 100000 in
theorem op35 : OpK Try.prog 35 k35 G35 :=
  op_struct (fun x : S35 => (x.f0, x.f1)) (fun v => ⟨v.1, v.2⟩) (fun _ => rfl) Try.underlying35 (by kernel_rfl) (opT_cons (off := 0) (off2 := 1) rfl (by kernel_rfl) rfl (op_string Try.underlying9) (opT_one (off := 1) rfl (by kernel_rfl) (op_slice Try.underlying33 (by kernel_rfl) op23)))
set_option maxRecDepth 100000 in
theorem lifted (os : Os) (started : os.Started) (H : Type) (enc : TypeId × Value → H) :
    ReturnsInHanded {} Try.checked os 7 .any (Rows.fnExactSameRecipeSpec.pre6 enc Try.prog Try.f7 Rows.fnExactSameRecipeRow.domain false) (Rows.fnExactSameRecipeSpec.post enc Try.prog Try.f7 false true false false) := by
  refine returnsInHanded_of_change_sized (C := Try.checked) own started (by kernel_rfl) Try.func7
    (ChangeSpec.witness6 (enc := enc) (C := Try.checked) false ⟨#[], #[.agg #[(.string ⟨#[]⟩), (.slice none 0 0)], .agg #[(.string ⟨#[]⟩), (.slice none 0 0)]], []⟩ 8 (by kernel_rfl) (by kernel_rfl) (by kernel_rfl) (by kernel_rfl)) ?_
  intro W base args ds gs before hval0 hW hcnd hsz0 _
  have hval : ∀ (j : Nat) t v, Try.f7.params[j]? = some t → args[j]? = some v → Value.okWide Try.prog W .any base t v := hval0
  have hW' := hW
  obtain ⟨p, q, hA0, hV, rfl, hfz, hnd⟩ := hW
  have hA : DataW.TrodAll enc Try.prog W 0 (fun _ => true) true Try.f7.params.toList args.toList ds p := hA0
  rw [Try.params7] at hA hval
  obtain ⟨v0, vs0, d0, ds0, p0, q0, hargs, rfl, rfl, h0, r0⟩ := trodAll_cons hA
  obtain ⟨v1, vs1, d1, ds1, p1, q1, rfl, rfl, rfl, h1, r1⟩ := trodAll_cons r0
  obtain ⟨rfl, rfl, rfl⟩ := trodAll_nil r1
  obtain rfl : args = #[v0, v1] := by cases args; simp_all
  obtain ⟨rfl, rfl⟩ := trodVars_none hV
  obtain ⟨cs0, rfl, hn0⟩ := okWide_struct Try.underlying35 (hval 0 35 v0 rfl rfl)
  have k0 := h0
  have lt0 : ∀ x ∈ p0, x.block < W.heap.size := by obtain ⟨m, hm⟩ := k0; exact DataW.trod_lt m _ _ _ hm
  obtain ⟨m0, hf0⟩ := h0
  obtain ⟨x0, hK0, hG0⟩ := op35 _ _ _ _ _ _ _ hf0
  obtain ⟨A0_1, c0_1, e0, hl0_1, hC0_1⟩ := k35_open hK0
  obtain rfl : cs0 = #[.string x0.f0, .slice A0_1 x0.f1.length c0_1] := Array.ext' e0
  obtain ⟨cs1, rfl, hn1⟩ := okWide_struct Try.underlying35 (hval 1 35 v1 rfl rfl)
  have k1 := h1
  have lt1 : ∀ x ∈ p1, x.block < W.heap.size := by obtain ⟨m, hm⟩ := k1; exact DataW.trod_lt m _ _ _ hm
  obtain ⟨m1, hf1⟩ := h1
  obtain ⟨x1, hK1, hG1⟩ := op35 _ _ _ _ _ _ _ hf1
  obtain ⟨A1_1, c1_1, e1, hl1_1, hC1_1⟩ := k35_open hK1
  obtain rfl : cs1 = #[.string x1.f0, .slice A1_1 x1.f1.length c1_1] := Array.ext' e1
  clear hA0 hval0 hsz0
  obtain ⟨k, h⟩ := Pure.FnExactSameRecipe x0.f0 x0.f1 x1.f0 x1.f1 hG0 hG1
  refine (laws_FnExactSameRecipe.calls k x0.f0 _ _ x0.f1 x1.f0 _ _ x1.f1 true W hC0_1 hl0_1 hC1_1 hl1_1 h).mono ?_
  rintro e W' ⟨he, bel0⟩
  have bel : Below W.heap.size W W' := bel0
  subst he
  exact ⟨_, rfl, _, _, _, [], _, [], hW', trodAll_mk1 (shut_bool Try.underlying4 _), (trodAll_cons_mk (Below.trod laidOut (by kernel_rfl) (of_decide_eq_true (by kernel_rfl)) k0 bel lt0) (trodAll_cons_mk (Below.trod laidOut (by kernel_rfl) (of_decide_eq_true (by kernel_rfl)) k1 bel lt1) trodAll_mk0)), rfl, bel.frame _, fun h => by cases h⟩
theorem over : Rows.fnExactSameRecipeRow.holds Try.pinned (OpenSpec.ofChange Rows.fnExactSameRecipeSpec) :=
  OpenClaim.holds_of_wide 7 Try.f7 rfl rfl rfl rfl rfl rfl rfl ⟨rfl, rfl, rfl, rfl, rfl⟩ rfl rfl rfl rfl rfl (by kernel_rfl) Try.func7 (by kernel_rfl)
    (of_decide_eq_true (by kernel_rfl)) (by unfold Func.isWrapper; first | (rw [if_pos (by decide +kernel)]; kernel_rfl) | (rw [if_neg (by decide +kernel)]; exact ⟨rfl, rfl⟩))
    (fun os started H enc _ => lifted os started H enc)
theorem proved : Rows.FnExactSameRecipeSaid := over
#print axioms proved
end Go.Proofs.Ytdmiihpblfkamaa.fnExactSameRecipe
namespace Go.Proofs.Ytdmiihpblfkamaa
/-- The row, under a short name, for the claim. -/
theorem fnExactSameRecipe_holds : Rows.FnExactSameRecipeSaid := fnExactSameRecipe.proved
end Go.Proofs.Ytdmiihpblfkamaa

-- Written by the session's own program (gen.py) out of the translation's print. Lean checks it.
import Derived.Test.YteijbdngbmciaaaRows
import Derived.Test.YteijbdngbmciaaaGFnExactRecipeShadesx8
import Derived.Test.YteijbdngbmciaaaPureFnExactRecipeShades
import Derived.Test.YteijbdngbmciaaaXOpen
import Derived.WalkKit
import Derived.ProofKit
import Derived.OpenShut
import Derived.ShutString
import Derived.ChangeOld
import Derived.Below
import Derived.SizedLaws
namespace Go.Proofs.Yteijbdngbmciaaa.fnExactRecipeShades
open Go.ChangeShapes Go.WideShapes Go.ChangeAt Go.RowKit Go.Proofs.YteijbdngbmciaaaX Go.Proofs.Yteijbdngbmciaaa.GFnExactRecipeShades
open Go.Proofs.YteijbdngbmciaaaW.PrintWords
open Go.ChangeMaps (open_string shut_string)
set_option linter.unusedVariables false
theorem own : ownKnob Try.prog.godebug = none := by kernel_rfl
theorem laidOut : laidOutB Try.prog = true := by kernel_rfl
set_option maxRecDepth 100000 in
theorem op36 : OpK Try.prog 36 k36 G36 :=
  op_struct (fun x : S36 => (x.f0, x.f1, x.f2)) (fun v => ⟨v.1, v.2.1, v.2.2⟩) (fun _ => rfl) Try.underlying36 (by kernel_rfl) (opT_cons (off := 0) (off2 := 1) rfl (by kernel_rfl) rfl (op_int Try.underlying2) (opT_cons (off := 1) (off2 := 2) rfl (by kernel_rfl) rfl (op_int Try.underlying2) (opT_one (off := 2) rfl (by kernel_rfl) (op_int Try.underlying2))))
set_option maxRecDepth 100000 in
theorem op24 : OpK Try.prog 24 k24 G24 :=
  op_struct (fun x : S24 => (x.f0, x.f1)) (fun v => ⟨v.1, v.2⟩) (fun _ => rfl) Try.underlying24 (by kernel_rfl) (opT_cons (off := 0) (off2 := 1) rfl (by kernel_rfl) rfl (op_string Try.underlying9) (opT_one (off := 1) rfl (by kernel_rfl) (op_slice Try.underlying22 (by kernel_rfl) op36)))
set_option maxRecDepth 100000 in
theorem lifted (os : Os) (started : os.Started) (H : Type) (enc : TypeId × Value → H) :
    ReturnsInHanded {} Try.checked os 8 .any (Rows.fnExactRecipeShadesSpec.pre6 enc Try.prog Try.f8 Rows.fnExactRecipeShadesRow.domain false) (Rows.fnExactRecipeShadesSpec.post enc Try.prog Try.f8 false true false false) := by
  refine returnsInHanded_of_change_sized (C := Try.checked) own started (by kernel_rfl) Try.func8
    (ChangeSpec.witness6 (enc := enc) (C := Try.checked) false ⟨#[], #[.string ⟨#[]⟩, .int .i64 0, .agg #[(.string ⟨#[]⟩), (.slice none 0 0)]], []⟩ 8 (by kernel_rfl) (by kernel_rfl) (by kernel_rfl) (by kernel_rfl)) ?_
  intro W base args ds gs before hval0 hW hcnd hsz0 _
  have hval : ∀ (j : Nat) t v, Try.f8.params[j]? = some t → args[j]? = some v → Value.okWide Try.prog W .any base t v := hval0
  have hW' := hW
  obtain ⟨p, q, hA0, hV, rfl, hfz, hnd⟩ := hW
  have hA : DataW.TrodAll enc Try.prog W 0 (fun _ => true) true Try.f8.params.toList args.toList ds p := hA0
  rw [Try.params8] at hA hval
  obtain ⟨v0, vs0, d0, ds0, p0, q0, hargs, rfl, rfl, h0, r0⟩ := trodAll_cons hA
  obtain ⟨v1, vs1, d1, ds1, p1, q1, rfl, rfl, rfl, h1, r1⟩ := trodAll_cons r0
  obtain ⟨v2, vs2, d2, ds2, p2, q2, rfl, rfl, rfl, h2, r2⟩ := trodAll_cons r1
  obtain ⟨rfl, rfl, rfl⟩ := trodAll_nil r2
  obtain rfl : args = #[v0, v1, v2] := by cases args; simp_all
  obtain ⟨rfl, rfl⟩ := trodVars_none hV
  obtain ⟨a0, rfl, rfl, rfl, w0⟩ := open_string Try.underlying9 (hval 0 9 v0 rfl rfl) h0
  obtain ⟨a1, rfl, rfl, rfl, w1⟩ := open_int Try.underlying2 (hval 1 2 v1 rfl rfl) h1
  obtain ⟨cs2, rfl, hn2⟩ := okWide_struct Try.underlying24 (hval 2 24 v2 rfl rfl)
  have k2 := h2
  have lt2 : ∀ x ∈ p2, x.block < W.heap.size := by obtain ⟨m, hm⟩ := k2; exact DataW.trod_lt m _ _ _ hm
  obtain ⟨m2, hf2⟩ := h2
  obtain ⟨x2, hK2, hG2⟩ := op24 _ _ _ _ _ _ _ hf2
  obtain ⟨A2_1, c2_1, e2, hl2_1, hC2_1⟩ := k24_open hK2
  obtain rfl : cs2 = #[.string x2.f0, .slice A2_1 x2.f1.length c2_1] := Array.ext' e2
  clear hA0 hval0 hsz0
  obtain ⟨k, h⟩ := Pure.FnExactRecipeShades a0 a1 x2.f0 x2.f1 w0 w1 hG2
  refine (laws_FnExactRecipeShades.calls k a0 a1 x2.f0 _ _ x2.f1 true W hC2_1 hl2_1 h).mono ?_
  rintro e W' ⟨he, bel0⟩
  have bel : Below W.heap.size W W' := bel0
  subst he
  exact ⟨_, rfl, _, _, _, [], _, [], hW', trodAll_mk1 (shut_bool Try.underlying4 _), (trodAll_cons_mk (shut_string Try.underlying9 w0) (trodAll_cons_mk (shut_int Try.underlying2 w1) (trodAll_cons_mk (Below.trod laidOut (by kernel_rfl) (of_decide_eq_true (by kernel_rfl)) k2 bel lt2) trodAll_mk0))), rfl, bel.frame _, fun h => by cases h⟩
theorem over : Rows.fnExactRecipeShadesRow.holds Try.pinned (OpenSpec.ofChange Rows.fnExactRecipeShadesSpec) :=
  OpenClaim.holds_of_wide 8 Try.f8 rfl rfl rfl rfl rfl rfl rfl ⟨rfl, rfl, rfl, rfl, rfl⟩ rfl rfl rfl rfl rfl (by kernel_rfl) Try.func8 (by kernel_rfl)
    (of_decide_eq_true (by kernel_rfl)) (by unfold Func.isWrapper; first | (rw [if_pos (by decide +kernel)]; kernel_rfl) | (rw [if_neg (by decide +kernel)]; exact ⟨rfl, rfl⟩))
    (fun os started H enc _ => lifted os started H enc)
theorem proved : Rows.FnExactRecipeShadesSaid := over
#print axioms proved
end Go.Proofs.Yteijbdngbmciaaa.fnExactRecipeShades
namespace Go.Proofs.Yteijbdngbmciaaa
/-- The row, under a short name, for the claim. -/
theorem fnExactRecipeShades_holds : Rows.FnExactRecipeShadesSaid := fnExactRecipeShades.proved
end Go.Proofs.Yteijbdngbmciaaa

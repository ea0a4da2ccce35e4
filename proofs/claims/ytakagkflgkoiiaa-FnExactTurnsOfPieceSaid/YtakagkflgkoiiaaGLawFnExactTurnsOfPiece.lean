-- Written by the session's own program (gen.py) out of the translation's print. Lean checks it.
import Derived.Test.YtakagkflgkoiiaaRows
import Derived.Test.YtakagkflgkoiiaaGFnExactTurnsOfPiecex17
import Derived.Test.YtakagkflgkoiiaaPureFnExactTurnsOfPiece
import Derived.Test.YtakagkflgkoiiaaXOpen
import Derived.WalkKit
import Derived.ProofKit
import Derived.OpenShut
import Derived.ShutString
import Derived.ChangeOld
import Derived.Below
import Derived.SizedLaws
namespace Go.Proofs.Ytakagkflgkoiiaa.fnExactTurnsOfPiece
open Go.ChangeShapes Go.WideShapes Go.ChangeAt Go.RowKit Go.Proofs.YtakagkflgkoiiaaX Go.Proofs.Ytakagkflgkoiiaa.GFnExactTurnsOfPiece
open Go.Proofs.YtakagkflgkoiiaaW.PrintWords
open Go.ChangeMaps (open_string shut_string)
set_option linter.unusedVariables false
theorem own : ownKnob Try.prog.godebug = none := by kernel_rfl
theorem laidOut : laidOutB Try.prog = true := by kernel_rfl
set_option maxRecDepth 100000 in
theorem op123 : OpK Try.prog 123 k123 G123 :=
  op_struct (fun x : S123 => (x.f0, x.f1)) (fun v => ⟨v.1, v.2⟩) (fun _ => rfl) Try.underlying123 (by kernel_rfl) (opT_cons (off := 0) (off2 := 1) rfl (by kernel_rfl) rfl (op_int Try.underlying2) (opT_one (off := 1) rfl (by kernel_rfl) (op_int Try.underlying2)))
set_option maxRecDepth 100000 in
theorem op47 : OpK Try.prog 47 k47 G47 :=
  op_struct (fun x : S47 => (x.f0, x.f1, x.f2, x.f3)) (fun v => ⟨v.1, v.2.1, v.2.2.1, v.2.2.2⟩) (fun _ => rfl) Try.underlying47 (by kernel_rfl) (opT_cons (off := 0) (off2 := 1) rfl (by kernel_rfl) rfl (op_string Try.underlying9) (opT_cons (off := 1) (off2 := 2) rfl (by kernel_rfl) rfl (op_slice Try.underlying45 (by kernel_rfl) op123) (opT_cons (off := 2) (off2 := 3) rfl (by kernel_rfl) rfl (op_int Try.underlying2) (opT_one (off := 3) rfl (by kernel_rfl) (op_bool Try.underlying4)))))
set_option maxRecDepth 100000 in
theorem lifted (os : Os) (started : os.Started) (H : Type) (enc : TypeId × Value → H) :
    ReturnsInHanded {} Try.checked os 9 .any (Rows.fnExactTurnsOfPieceSpec.pre6 enc Try.prog Try.f9 Rows.fnExactTurnsOfPieceRow.domain false) (Rows.fnExactTurnsOfPieceSpec.post enc Try.prog Try.f9 false true false false) := by
  refine returnsInHanded_of_change_sized (C := Try.checked) own started (by kernel_rfl) Try.func9
    (ChangeSpec.witness6 (enc := enc) (C := Try.checked) false ⟨#[], #[.agg #[(.string ⟨#[]⟩), (.slice none 0 0), (.int .i64 0), (.bool false)]], []⟩ 8 (by kernel_rfl) (by kernel_rfl) (by kernel_rfl) (by kernel_rfl)) ?_
  intro W base args ds gs before hval0 hW hcnd hsz0 _
  have hval : ∀ (j : Nat) t v, Try.f9.params[j]? = some t → args[j]? = some v → Value.okWide Try.prog W .any base t v := hval0
  have hW' := hW
  obtain ⟨p, q, hA0, hV, rfl, hfz, hnd⟩ := hW
  have hA : DataW.TrodAll enc Try.prog W 0 (fun _ => true) true Try.f9.params.toList args.toList ds p := hA0
  rw [Try.params9] at hA hval
  obtain ⟨v0, vs0, d0, ds0, p0, q0, hargs, rfl, rfl, h0, r0⟩ := trodAll_cons hA
  obtain ⟨rfl, rfl, rfl⟩ := trodAll_nil r0
  obtain rfl : args = #[v0] := by cases args; simp_all
  obtain ⟨rfl, rfl⟩ := trodVars_none hV
  obtain ⟨cs0, rfl, hn0⟩ := okWide_struct Try.underlying47 (hval 0 47 v0 rfl rfl)
  have k0 := h0
  have lt0 : ∀ x ∈ p0, x.block < W.heap.size := by obtain ⟨m, hm⟩ := k0; exact DataW.trod_lt m _ _ _ hm
  obtain ⟨m0, hf0⟩ := h0
  obtain ⟨x0, hK0, hG0⟩ := op47 _ _ _ _ _ _ _ hf0
  obtain ⟨A0_1, c0_1, e0, hl0_1, hC0_1⟩ := k47_open hK0
  obtain rfl : cs0 = #[.string x0.f0, .slice A0_1 x0.f1.length c0_1, .int .i64 x0.f2, .bool x0.f3] := Array.ext' e0
  clear hA0 hval0 hsz0
  obtain ⟨k, h⟩ := Pure.FnExactTurnsOfPiece x0.f0 x0.f1 x0.f2 x0.f3 hG0
  refine (laws_FnExactTurnsOfPiece.calls k x0.f0 _ _ x0.f1 x0.f2 x0.f3 true W hC0_1 hl0_1 h).mono ?_
  rintro e W' ⟨he, bel0⟩
  have bel : Below W.heap.size W W' := bel0
  subst he
  exact ⟨_, rfl, _, _, _, [], _, [], hW', trodAll_mk1 (shut_bool Try.underlying4 _), (trodAll_cons_mk (Below.trod laidOut (by kernel_rfl) (of_decide_eq_true (by kernel_rfl)) k0 bel lt0) trodAll_mk0), rfl, bel.frame _, fun h => by cases h⟩
theorem over : Rows.fnExactTurnsOfPieceRow.holds Try.pinned (OpenSpec.ofChange Rows.fnExactTurnsOfPieceSpec) :=
  OpenClaim.holds_of_wide 9 Try.f9 rfl rfl rfl rfl rfl rfl rfl ⟨rfl, rfl, rfl, rfl, rfl⟩ rfl rfl rfl rfl rfl (by kernel_rfl) Try.func9 (by kernel_rfl)
    (of_decide_eq_true (by kernel_rfl)) (by unfold Func.isWrapper; first | (rw [if_pos (by decide +kernel)]; kernel_rfl) | (rw [if_neg (by decide +kernel)]; exact ⟨rfl, rfl⟩))
    (fun os started H enc _ => lifted os started H enc)
theorem proved : Rows.FnExactTurnsOfPieceSaid := over
#print axioms proved
end Go.Proofs.Ytakagkflgkoiiaa.fnExactTurnsOfPiece
namespace Go.Proofs.Ytakagkflgkoiiaa
/-- The row, under a short name, for the claim. -/
theorem fnExactTurnsOfPiece_holds : Rows.FnExactTurnsOfPieceSaid := fnExactTurnsOfPiece.proved
end Go.Proofs.Ytakagkflgkoiiaa

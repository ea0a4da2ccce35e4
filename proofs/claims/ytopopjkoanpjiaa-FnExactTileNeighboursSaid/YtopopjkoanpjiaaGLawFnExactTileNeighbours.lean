-- Written by the session's own program (gen.py) out of the translation's print. Lean checks it.
import Derived.Test.YtopopjkoanpjiaaRows
import Derived.Test.YtopopjkoanpjiaaGFnExactTileNeighboursx10
import Derived.Test.YtopopjkoanpjiaaPureFnExactTileNeighbours
import Derived.Test.YtopopjkoanpjiaaXOpen
import Derived.WalkKit
import Derived.ProofKit
import Derived.OpenShut
import Derived.ShutString
import Derived.ChangeOld
import Derived.Below
import Derived.SizedLaws
namespace Go.Proofs.Ytopopjkoanpjiaa.fnExactTileNeighbours
open Go.ChangeShapes Go.WideShapes Go.ChangeAt Go.RowKit Go.Proofs.YtopopjkoanpjiaaX Go.Proofs.Ytopopjkoanpjiaa.GFnExactTileNeighbours
open Go.Proofs.YtopopjkoanpjiaaW.PrintWords
open Go.ChangeMaps (open_string shut_string)
set_option linter.unusedVariables false
theorem own : ownKnob Try.prog.godebug = none := by kernel_rfl
theorem laidOut : laidOutB Try.prog = true := by kernel_rfl
set_option maxRecDepth 100000 in
theorem op24 : OpK Try.prog 24 k24 G24 :=
  op_struct (fun x : S24 => (x.f0, x.f1, x.f2)) (fun v => ⟨v.1, v.2.1, v.2.2⟩) (fun _ => rfl) Try.underlying24 (by kernel_rfl) (opT_cons (off := 0) (off2 := 1) rfl (by kernel_rfl) rfl (op_int Try.underlying2) (opT_cons (off := 1) (off2 := 2) rfl (by kernel_rfl) rfl (op_int Try.underlying2) (opT_one (off := 2) rfl (by kernel_rfl) (op_slice Try.underlying22 (by kernel_rfl) (op_int Try.underlying2)))))
set_option maxRecDepth 100000 in
theorem lifted (os : Os) (started : os.Started) (H : Type) (enc : TypeId × Value → H) :
    ReturnsInHanded {} Try.checked os 3 .any (Rows.fnExactTileNeighboursSpec.pre6 enc Try.prog Try.f3 Rows.fnExactTileNeighboursRow.domain false) (Rows.fnExactTileNeighboursSpec.post enc Try.prog Try.f3 false true false false) := by
  refine returnsInHanded_of_change_sized (C := Try.checked) own started (by kernel_rfl) Try.func3
    (ChangeSpec.witness6 (enc := enc) (C := Try.checked) false ⟨#[], #[.agg #[(.int .i64 0), (.int .i64 0), (.slice none 0 0)], .int .i64 0], []⟩ 8 (by kernel_rfl) (by kernel_rfl) (by kernel_rfl) (by kernel_rfl)) ?_
  intro W base args ds gs before hval0 hW hcnd hsz0 _
  have hval : ∀ (j : Nat) t v, Try.f3.params[j]? = some t → args[j]? = some v → Value.okWide Try.prog W .any base t v := hval0
  have hW' := hW
  obtain ⟨p, q, hA0, hV, rfl, hfz, hnd⟩ := hW
  have hA : DataW.TrodAll enc Try.prog W 0 (fun _ => true) true Try.f3.params.toList args.toList ds p := hA0
  rw [Try.params3] at hA hval
  obtain ⟨v0, vs0, d0, ds0, p0, q0, hargs, rfl, rfl, h0, r0⟩ := trodAll_cons hA
  obtain ⟨v1, vs1, d1, ds1, p1, q1, rfl, rfl, rfl, h1, r1⟩ := trodAll_cons r0
  obtain ⟨rfl, rfl, rfl⟩ := trodAll_nil r1
  obtain rfl : args = #[v0, v1] := by cases args; simp_all
  obtain ⟨rfl, rfl⟩ := trodVars_none hV
  obtain ⟨cs0, rfl, hn0⟩ := okWide_struct Try.underlying24 (hval 0 24 v0 rfl rfl)
  have k0 := h0
  have lt0 : ∀ x ∈ p0, x.block < W.heap.size := by obtain ⟨m, hm⟩ := k0; exact DataW.trod_lt m _ _ _ hm
  obtain ⟨m0, hf0⟩ := h0
  obtain ⟨x0, hK0, hG0⟩ := op24 _ _ _ _ _ _ _ hf0
  obtain ⟨A0_2, c0_2, e0, hl0_2, hC0_2⟩ := k24_open hK0
  obtain rfl : cs0 = #[.int .i64 x0.f0, .int .i64 x0.f1, .slice A0_2 x0.f2.length c0_2] := Array.ext' e0
  obtain ⟨a1, rfl, rfl, rfl, w1⟩ := open_int Try.underlying2 (hval 1 2 v1 rfl rfl) h1
  clear hA0 hval0 hsz0
  obtain ⟨k, h⟩ := Pure.FnExactTileNeighbours x0.f0 x0.f1 x0.f2 a1 hG0 w1
  refine (laws_FnExactTileNeighbours.calls k x0.f0 x0.f1 _ _ x0.f2 a1 true W hC0_2 hl0_2 h).mono ?_
  rintro e W' ⟨he, bel0⟩
  have bel : Below W.heap.size W W' := bel0
  subst he
  exact ⟨_, rfl, _, _, _, [], _, [], hW', trodAll_mk1 (shut_bool Try.underlying4 _), (trodAll_cons_mk (Below.trod laidOut (by kernel_rfl) (of_decide_eq_true (by kernel_rfl)) k0 bel lt0) (trodAll_cons_mk (shut_int Try.underlying2 w1) trodAll_mk0)), rfl, bel.frame _, fun h => by cases h⟩
theorem over : Rows.fnExactTileNeighboursRow.holds Try.pinned (OpenSpec.ofChange Rows.fnExactTileNeighboursSpec) :=
  OpenClaim.holds_of_wide 3 Try.f3 rfl rfl rfl rfl rfl rfl rfl ⟨rfl, rfl, rfl, rfl, rfl⟩ rfl rfl rfl rfl rfl (by kernel_rfl) Try.func3 (by kernel_rfl)
    (of_decide_eq_true (by kernel_rfl)) (by unfold Func.isWrapper; first | (rw [if_pos (by decide +kernel)]; kernel_rfl) | (rw [if_neg (by decide +kernel)]; exact ⟨rfl, rfl⟩))
    (fun os started H enc _ => lifted os started H enc)
theorem proved : Rows.FnExactTileNeighboursSaid := over
#print axioms proved
end Go.Proofs.Ytopopjkoanpjiaa.fnExactTileNeighbours
namespace Go.Proofs.Ytopopjkoanpjiaa
/-- The row, under a short name, for the claim. -/
theorem fnExactTileNeighbours_holds : Rows.FnExactTileNeighboursSaid := fnExactTileNeighbours.proved
end Go.Proofs.Ytopopjkoanpjiaa

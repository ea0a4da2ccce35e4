-- Written by the session's own program (gen.py) out of the translation's print. Lean checks it.
import Derived.Test.YtakagkflgkoiiaaRows
import Derived.Test.YtakagkflgkoiiaaGFnExactIsCoverx26
import Derived.Test.YtakagkflgkoiiaaPureFnExactIsCover
import Derived.Test.YtakagkflgkoiiaaXOpen
import Derived.WalkKit
import Derived.ProofKit
import Derived.OpenShut
import Derived.ShutString
import Derived.ChangeOld
import Derived.Below
import Derived.SizedLaws
namespace Go.Proofs.Ytakagkflgkoiiaa.fnExactIsCover
open Go.ChangeShapes Go.WideShapes Go.ChangeAt Go.RowKit Go.Proofs.YtakagkflgkoiiaaX Go.Proofs.Ytakagkflgkoiiaa.GFnExactIsCover
open Go.Proofs.YtakagkflgkoiiaaW.PrintWords
open Go.ChangeMaps (open_string shut_string)
set_option linter.unusedVariables false
theorem own : ownKnob Try.prog.godebug = none := by kernel_rfl
theorem laidOut : laidOutB Try.prog = true := by kernel_rfl
set_option maxRecDepth 100000 in
theorem op24 : OpK Try.prog 24 k24 G24 :=
  op_struct (fun x : S24 => (x.f0, x.f1, x.f2)) (fun v => ⟨v.1, v.2.1, v.2.2⟩) (fun _ => rfl) Try.underlying24 (by kernel_rfl) (opT_cons (off := 0) (off2 := 1) rfl (by kernel_rfl) rfl (op_int Try.underlying2) (opT_cons (off := 1) (off2 := 2) rfl (by kernel_rfl) rfl (op_int Try.underlying2) (opT_one (off := 2) rfl (by kernel_rfl) (op_slice Try.underlying22 (by kernel_rfl) (op_int Try.underlying2)))))
set_option maxRecDepth 100000 in
theorem op123 : OpK Try.prog 123 k123 G123 :=
  op_struct (fun x : S123 => (x.f0, x.f1)) (fun v => ⟨v.1, v.2⟩) (fun _ => rfl) Try.underlying123 (by kernel_rfl) (opT_cons (off := 0) (off2 := 1) rfl (by kernel_rfl) rfl (op_int Try.underlying2) (opT_one (off := 1) rfl (by kernel_rfl) (op_int Try.underlying2)))
set_option maxRecDepth 100000 in
theorem op47 : OpK Try.prog 47 k47 G47 :=
  op_struct (fun x : S47 => (x.f0, x.f1, x.f2, x.f3)) (fun v => ⟨v.1, v.2.1, v.2.2.1, v.2.2.2⟩) (fun _ => rfl) Try.underlying47 (by kernel_rfl) (opT_cons (off := 0) (off2 := 1) rfl (by kernel_rfl) rfl (op_string Try.underlying9) (opT_cons (off := 1) (off2 := 2) rfl (by kernel_rfl) rfl (op_slice Try.underlying45 (by kernel_rfl) op123) (opT_cons (off := 2) (off2 := 3) rfl (by kernel_rfl) rfl (op_int Try.underlying2) (opT_one (off := 3) rfl (by kernel_rfl) (op_bool Try.underlying4)))))
set_option maxRecDepth 100000 in
theorem op111 : OpK Try.prog 111 k111 G111 :=
  op_struct (fun x : S111 => (x.f0, x.f1, x.f2, x.f3)) (fun v => ⟨v.1, v.2.1, v.2.2.1, v.2.2.2⟩) (fun _ => rfl) Try.underlying111 (by kernel_rfl) (opT_cons (off := 0) (off2 := 1) rfl (by kernel_rfl) rfl (op_int Try.underlying2) (opT_cons (off := 1) (off2 := 2) rfl (by kernel_rfl) rfl (op_int Try.underlying2) (opT_cons (off := 2) (off2 := 3) rfl (by kernel_rfl) rfl (op_int Try.underlying2) (opT_one (off := 3) rfl (by kernel_rfl) (op_int Try.underlying2)))))
set_option maxRecDepth 100000 in
theorem lifted (os : Os) (started : os.Started) (H : Type) (enc : TypeId × Value → H) :
    ReturnsInHanded {} Try.checked os 12 .any (Rows.fnExactIsCoverSpec.pre6 enc Try.prog Try.f12 Rows.fnExactIsCoverRow.domain false) (Rows.fnExactIsCoverSpec.post enc Try.prog Try.f12 false true false false) := by
  refine returnsInHanded_of_change_sized (C := Try.checked) own started (by kernel_rfl) Try.func12
    (ChangeSpec.witness6 (enc := enc) (C := Try.checked) false ⟨#[], #[.agg #[(.int .i64 0), (.int .i64 0), (.slice none 0 0)], .slice none 0 0, .slice none 0 0], []⟩ 8 (by kernel_rfl) (by kernel_rfl) (by kernel_rfl) (by kernel_rfl)) ?_
  intro W base args ds gs before hval0 hW hcnd hsz0 _
  have hval : ∀ (j : Nat) t v, Try.f12.params[j]? = some t → args[j]? = some v → Value.okWide Try.prog W .any base t v := hval0
  have hW' := hW
  obtain ⟨p, q, hA0, hV, rfl, hfz, hnd⟩ := hW
  have hA : DataW.TrodAll enc Try.prog W 0 (fun _ => true) true Try.f12.params.toList args.toList ds p := hA0
  rw [Try.params12] at hA hval
  obtain ⟨v0, vs0, d0, ds0, p0, q0, hargs, rfl, rfl, h0, r0⟩ := trodAll_cons hA
  obtain ⟨v1, vs1, d1, ds1, p1, q1, rfl, rfl, rfl, h1, r1⟩ := trodAll_cons r0
  obtain ⟨v2, vs2, d2, ds2, p2, q2, rfl, rfl, rfl, h2, r2⟩ := trodAll_cons r1
  obtain ⟨rfl, rfl, rfl⟩ := trodAll_nil r2
  obtain rfl : args = #[v0, v1, v2] := by cases args; simp_all
  obtain ⟨rfl, rfl⟩ := trodVars_none hV
  obtain ⟨cs0, rfl, hn0⟩ := okWide_struct Try.underlying24 (hval 0 24 v0 rfl rfl)
  have k0 := h0
  have lt0 : ∀ x ∈ p0, x.block < W.heap.size := by obtain ⟨m, hm⟩ := k0; exact DataW.trod_lt m _ _ _ hm
  obtain ⟨m0, hf0⟩ := h0
  obtain ⟨x0, hK0, hG0⟩ := op24 _ _ _ _ _ _ _ hf0
  obtain ⟨A0_2, c0_2, e0, hl0_2, hC0_2⟩ := k24_open hK0
  obtain rfl : cs0 = #[.int .i64 x0.f0, .int .i64 x0.f1, .slice A0_2 x0.f2.length c0_2] := Array.ext' e0
  obtain ⟨b1, len1, cap1, rfl⟩ := okWide_slice Try.underlying38 (hval 1 38 v1 rfl rfl)
  have k1 := h1
  have lt1 : ∀ x ∈ p1, x.block < W.heap.size := by obtain ⟨m, hm⟩ := k1; exact DataW.trod_lt m _ _ _ hm
  obtain ⟨m1, hf1⟩ := h1
  obtain ⟨x1, hK1, hG1⟩ := (op_slice Try.underlying38 (by kernel_rfl) op47) _ _ _ _ _ _ _ hf1
  obtain ⟨A1, c1, e1, hl1, hC1⟩ := hK1
  obtain ⟨rfl, rfl, rfl⟩ : b1 = A1 ∧ len1 = x1.length ∧ cap1 = c1 := by
    have e_ : Value.slice b1 len1 cap1 = Value.slice A1 x1.length c1 := (List.cons.inj e1).1
    injection e_ with e1_ e2_ e3_
    exact ⟨e1_, e2_, e3_⟩
  obtain ⟨b2, len2, cap2, rfl⟩ := okWide_slice Try.underlying65 (hval 2 65 v2 rfl rfl)
  have k2 := h2
  have lt2 : ∀ x ∈ p2, x.block < W.heap.size := by obtain ⟨m, hm⟩ := k2; exact DataW.trod_lt m _ _ _ hm
  obtain ⟨m2, hf2⟩ := h2
  obtain ⟨x2, hK2, hG2⟩ := (op_slice Try.underlying65 (by kernel_rfl) op111) _ _ _ _ _ _ _ hf2
  obtain ⟨A2, c2, e2, hl2, hC2⟩ := hK2
  obtain ⟨rfl, rfl, rfl⟩ : b2 = A2 ∧ len2 = x2.length ∧ cap2 = c2 := by
    have e_ : Value.slice b2 len2 cap2 = Value.slice A2 x2.length c2 := (List.cons.inj e2).1
    injection e_ with e1_ e2_ e3_
    exact ⟨e1_, e2_, e3_⟩
  clear hA0 hval0 hsz0
  obtain ⟨k, h⟩ := Pure.FnExactIsCover x0.f0 x0.f1 x0.f2 x1 x2 hG0 hG1 hG2
  refine (laws_FnExactIsCover.calls k x0.f0 x0.f1 _ _ x0.f2 _ _ x1 _ _ x2 true W hC0_2 hl0_2 hC1 hl1 hC2 hl2 h).mono ?_
  rintro e W' ⟨he, bel0⟩
  have bel : Below W.heap.size W W' := bel0
  subst he
  exact ⟨_, rfl, _, _, _, [], _, [], hW', trodAll_mk1 (shut_bool Try.underlying4 _), (trodAll_cons_mk (Below.trod laidOut (by kernel_rfl) (of_decide_eq_true (by kernel_rfl)) k0 bel lt0) (trodAll_cons_mk (Below.trod laidOut (by kernel_rfl) (of_decide_eq_true (by kernel_rfl)) k1 bel lt1) (trodAll_cons_mk (Below.trod laidOut (by kernel_rfl) (of_decide_eq_true (by kernel_rfl)) k2 bel lt2) trodAll_mk0))), rfl, bel.frame _, fun h => by cases h⟩
theorem over : Rows.fnExactIsCoverRow.holds Try.pinned (OpenSpec.ofChange Rows.fnExactIsCoverSpec) :=
  OpenClaim.holds_of_wide 12 Try.f12 rfl rfl rfl rfl rfl rfl rfl ⟨rfl, rfl, rfl, rfl, rfl⟩ rfl rfl rfl rfl rfl (by kernel_rfl) Try.func12 (by kernel_rfl)
    (of_decide_eq_true (by kernel_rfl)) (by unfold Func.isWrapper; first | (rw [if_pos (by decide +kernel)]; kernel_rfl) | (rw [if_neg (by decide +kernel)]; exact ⟨rfl, rfl⟩))
    (fun os started H enc _ => lifted os started H enc)
theorem proved : Rows.FnExactIsCoverSaid := over
#print axioms proved
end Go.Proofs.Ytakagkflgkoiiaa.fnExactIsCover
namespace Go.Proofs.Ytakagkflgkoiiaa
/-- The row, under a short name, for the claim. -/
theorem fnExactIsCover_holds : Rows.FnExactIsCoverSaid := fnExactIsCover.proved
end Go.Proofs.Ytakagkflgkoiiaa

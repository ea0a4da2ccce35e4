/- The law FnExactPictureTurns returns true for every input, and the input reads as it did; no condition. -/
import Derived.Test.YtmklecafnhdnmaaGreatC04
import Derived.Test.YtmklecafnhdnmaaGreatD01
import Derived.Test.YtmklecafnhdnmaaGreatRows
import Derived.Test.YtmklecafnhdnmaaGreatB06
import Derived.WalkKit
import Derived.ProofKit
import Derived.OpenShut
import Derived.ShutString
import Derived.ChangeOld
import Derived.Below
import Derived.SizedLaws
set_option linter.all false
section
/- The pure law holds of every input within the model's bounds; no condition. -/
namespace Go.Proofs.YtmklecafnhdnmaaGreatV
open Go Go.RowKit
theorem ml {n : Nat} (h : n ≤ maxLen) : n ≤ 9223372036854775807 := Nat.le_trans h (by decide)
theorem pure_law (a0 a1 : Int) (a2 : List (Int × Int)) (a3 : List (ByteArray × List Int)) (a4 : List (ByteArray × Int × Int)) (_h0 : Good (.int .i64) a0) (_h1 : Good (.int .i64) a1) (h2 : Good (.sl (.pair (.int .i64) (.int .i64))) a2) (h3 : Good (.sl (.pair .str (.sl (.int .i64)))) a3) (h4 : Good (.sl (.pair .str (.pair (.int .i64) (.int .i64)))) a4) :
    ∃ k, laws_FnExactPictureTurns k (a0, a1, a2, a3, a4) = some true :=
  ⟨1048578, law_eq (ml h2.1) (ml h3.1) (fun f hf => ⟨ml (h3.2 f hf).1, ml (h3.2 f hf).2.1⟩) (ml h4.1) (fun f hf => ml (h4.2 f hf).1) (by decide)⟩
end Go.Proofs.YtmklecafnhdnmaaGreatV
end

section
/- The law FnExactPictureTurns returns true for every input, and the input reads as it did; no condition. -/
namespace Go.Proofs.YtmklecafnhdnmaaGreatV
open Go Go.RowKit Go.ChangeShapes Go.WideShapes Go.Proofs
theorem oc_point : OpC Tryz.prog 106 (.pair (.int .i64) (.int .i64)) := oc_struct Tryz.underlying106 (by kernel_rfl) (of_cons (off2 := 1) rfl (by kernel_rfl) rfl (oc_int Tryz.underlying2) (of_one rfl (by kernel_rfl) (oc_int Tryz.underlying2)))
theorem oc_face : OpC Tryz.prog 99 (.pair .str (.sl (.int .i64))) := oc_struct Tryz.underlying99 (by kernel_rfl) (of_cons (off2 := 1) rfl (by kernel_rfl) rfl (oc_string Tryz.underlying9) (of_one rfl (by kernel_rfl) (oc_slice (by decide) Tryz.underlying30 (by kernel_rfl) (oc_int Tryz.underlying2))))
theorem oc_veneer : OpC Tryz.prog 67 (.pair .str (.pair (.int .i64) (.int .i64))) := oc_struct Tryz.underlying67 (by kernel_rfl) (of_cons (off2 := 1) rfl (by kernel_rfl) rfl (oc_string Tryz.underlying9) (of_cons (off2 := 2) rfl (by kernel_rfl) rfl (oc_int Tryz.underlying2) (of_one rfl (by kernel_rfl) (oc_int Tryz.underlying2))))
theorem oc_drawing : OpC Tryz.prog 25 (.pair (.int .i64) (.pair (.int .i64) (.pair (.sl (.pair (.int .i64) (.int .i64))) (.sl (.pair .str (.sl (.int .i64))))))) :=
  oc_struct Tryz.underlying25 (by kernel_rfl) (of_cons (off2 := 1) rfl (by kernel_rfl) rfl (oc_int Tryz.underlying2) (of_cons (off2 := 2) rfl (by kernel_rfl) rfl (oc_int Tryz.underlying2) (of_cons (off2 := 3) rfl (by kernel_rfl) rfl (oc_slice (by decide) Tryz.underlying22 (by kernel_rfl) oc_point) (of_one rfl (by kernel_rfl) (oc_slice (by decide) Tryz.underlying23 (by kernel_rfl) oc_face)))))
theorem oc_picture : OpC Tryz.prog 28 (.pair (.pair (.int .i64) (.pair (.int .i64) (.pair (.sl (.pair (.int .i64) (.int .i64))) (.sl (.pair .str (.sl (.int .i64))))))) (.sl (.pair .str (.pair (.int .i64) (.int .i64))))) :=
  oc_struct Tryz.underlying28 (by kernel_rfl) (of_cons (off2 := 4) rfl (by kernel_rfl) rfl oc_drawing (of_one rfl (by kernel_rfl) (oc_slice (by decide) Tryz.underlying26 (by kernel_rfl) oc_veneer)))
theorem rep_cells {w : World} {S : Nat → Prop} {a0 a1 : Int} {a2 : List (Int × Int)} {a3 : List (ByteArray × List Int)} {a4 : List (ByteArray × Int × Int)} {us : List Value} (hl : us.length = 5)
    (h : FzC w S (.pair (.pair (.int .i64) (.pair (.int .i64) (.pair (.sl (.pair (.int .i64) (.int .i64))) (.sl (.pair .str (.sl (.int .i64))))))) (.sl (.pair .str (.pair (.int .i64) (.int .i64))))) us.toArray 0 ((a0, a1, a2, a3), a4)) :
    RepL w S [] [.int .i64 a0, .int .i64 a1, .fz (.pair (.int .i64) (.int .i64)) a2, .fz (.pair .str (.sl (.int .i64))) a3, .fz (.pair .str (.pair (.int .i64) (.int .i64))) a4] us := by
  match us, hl with
  | [u0, u1, u2, u3, u4], _ =>
    obtain ⟨⟨h0, h1, h2, h3⟩, h4⟩ := h
    obtain ⟨v2, e2, h2⟩ := FzC_cell h2
    obtain ⟨v3, e3, h3⟩ := FzC_cell h3
    obtain ⟨v4, e4, h4⟩ := FzC_cell h4
    have f0 : some u0 = some (Value.int .i64 a0) := h0
    have f1 : some u1 = some (Value.int .i64 a1) := h1
    have f2 : some u2 = some v2 := e2
    have f3 : some u3 = some v3 := e3
    have f4 : some u4 = some v4 := e4
    injection f0 with f0
    injection f1 with f1
    injection f2 with f2
    injection f3 with f3
    injection f4 with f4
    subst f0; subst f1; subst f2; subst f3; subst f4
    exact ⟨rfl, rfl, h2, h3, h4, trivial⟩
theorem own : ownKnob Tryz.prog.godebug = none := by kernel_rfl
theorem laidOut : laidOutB Tryz.prog = true := by kernel_rfl
theorem law_walk (a0 a1 : Int) (a2 : List (Int × Int)) (a3 : List (ByteArray × List Int)) (a4 : List (ByteArray × Int × Int)) (hg : ∃ k, laws_FnExactPictureTurns k (a0, a1, a2, a3, a4) = some true) (W : World) (us : List Value)
    (h : RepL W (fun b => b < W.heap.size) [] [.int .i64 a0, .int .i64 a1, .fz (.pair (.int .i64) (.int .i64)) a2, .fz (.pair .str (.sl (.int .i64))) a3, .fz (.pair .str (.pair (.int .i64) (.int .i64))) a4] us) :
    Calls Tryz.prog 3 #[.agg us.toArray] W fun e W' => e = .returned (.bool true) ∧ Below W.heap.size W W' := by
  obtain ⟨k, hk⟩ := hg
  have hcall : ∀ (R : Type) (K : TV → List CV → Option R), I3.call (laws_FnExactPictureTurns k) [.agg [.int .i64 a0, .int .i64 a1, .fz (.pair (.int .i64) (.int .i64)) a2, .fz (.pair .str (.sl (.int .i64))) a3, .fz (.pair .str (.pair (.int .i64) (.int .i64))) a4]] K = K (.c (.bool true)) [] := by
    intro R K
    have e : I3.call (laws_FnExactPictureTurns k) [.agg [.int .i64 a0, .int .i64 a1, .fz (.pair (.int .i64) (.int .i64)) a2, .fz (.pair .str (.sl (.int .i64))) a3, .fz (.pair .str (.pair (.int .i64) (.int .i64))) a4]] K = (laws_FnExactPictureTurns k (a0, a1, a2, a3, a4)).bind fun y => K (.c (.bool y)) [] := by kernel_rfl
    rw [e, hk]; rfl
  have hc := law_call k [.agg [.int .i64 a0, .int .i64 a1, .fz (.pair (.int .i64) (.int .i64)) a2, .fz (.pair .str (.sl (.int .i64))) a3, .fz (.pair .str (.pair (.int .i64) (.int .i64))) a4]] (.c (.bool true)) [] (fun {R} K => hcall R K)
    W [.agg us.toArray] (fun b => b < W.heap.size) [] ⟨⟨us, rfl, h⟩, trivial⟩ trivial (by simp [allB]) (by simp [allB]) (fun b hb => ⟨hb, by simp [allB]⟩)
  refine hc.mono fun e W' h2 => ?_
  obtain ⟨v, rfl, hK, _, g, hv, _⟩ := h2
  have hv : v = .bool true := hv
  subst hv
  exact ⟨rfl, hK.os, hK.tape, hK.output, hK.size, fun b hb => hK.block b hb (by simp [allB])⟩
set_option maxRecDepth 100000 in
theorem lifted (os : Os) (started : os.Started) (H : Type) (enc : TypeId × Value → H) :
    ReturnsInHanded {} Tryz.checked os 3 .any (YtmklecafnhdnmaaGreat.Rows.fnExactPictureTurnsSpec.pre6 enc Tryz.prog Tryz.f3 YtmklecafnhdnmaaGreat.Rows.fnExactPictureTurnsRow.domain false) (YtmklecafnhdnmaaGreat.Rows.fnExactPictureTurnsSpec.post enc Tryz.prog Tryz.f3 false true false false) := by
  refine returnsInHanded_of_change_sized (C := Tryz.checked) own started (by kernel_rfl) Tryz.func3
    (ChangeSpec.witness6 (enc := enc) (C := Tryz.checked) false ⟨#[], #[.agg #[(.int .i64 0), (.int .i64 0), (.slice none 0 0), (.slice none 0 0), (.slice none 0 0)]], []⟩ 8 (by kernel_rfl) (by kernel_rfl) (by kernel_rfl) (by kernel_rfl)) ?_
  intro W base args ds gs before hval0 hW hcnd hsz0 _
  have hval : ∀ (j : Nat) t v, Tryz.f3.params[j]? = some t → args[j]? = some v → Value.okWide Tryz.prog W .any base t v := hval0
  have hW' := hW
  obtain ⟨p, q, hA0, hV, rfl, hfz, hnd⟩ := hW
  have hA : DataW.TrodAll enc Tryz.prog W 0 (fun _ => true) true Tryz.f3.params.toList args.toList ds p := hA0
  rw [Tryz.params3] at hA hval
  obtain ⟨v0, vs0, d0, ds0, p0, q0, hargs, rfl, rfl, h0, r0⟩ := trodAll_cons hA
  obtain ⟨rfl, rfl, rfl⟩ := trodAll_nil r0
  obtain rfl : args = #[v0] := by cases args; simp_all
  obtain ⟨rfl, rfl⟩ := trodVars_none hV
  obtain ⟨cs0, rfl, hn0⟩ := okWide_struct Tryz.underlying28 (hval 0 28 v0 rfl rfl)
  have k0 := h0
  have lt0 : ∀ x ∈ p0, x.block < W.heap.size := by obtain ⟨m, hm⟩ := k0; exact DataW.trod_lt m _ _ _ hm
  obtain ⟨m0, hf0⟩ := h0
  obtain ⟨hl5, ⟨⟨a0, a1, a2, a3⟩, a4⟩, hfc, ⟨g0, g1, g2, g3⟩, g4⟩ := oc_picture _ _ _ _ _ _ _ hf0
  have hrep := rep_cells hl5 hfc
  clear hA0 hval0 hsz0
  have hcs : (Value.agg cs0).cells.toList = cs0.toList := rfl
  rw [hcs] at hrep
  refine (law_walk a0 a1 a2 a3 a4 (pure_law a0 a1 a2 a3 a4 g0 g1 g2 g3 g4) W cs0.toList hrep).mono ?_
  rintro e W' ⟨he, bel⟩
  subst he
  exact ⟨_, rfl, _, _, _, [], _, [], hW', trodAll_mk1 (shut_bool Tryz.underlying4 _), (trodAll_cons_mk (Below.trod laidOut (by kernel_rfl) (of_decide_eq_true (by kernel_rfl)) k0 bel lt0) trodAll_mk0), rfl, bel.frame _, fun h => by cases h⟩
theorem over : YtmklecafnhdnmaaGreat.Rows.fnExactPictureTurnsRow.holds YtmklecafnhdnmaaGreat.Tryz.pinned (OpenSpec.ofChange YtmklecafnhdnmaaGreat.Rows.fnExactPictureTurnsSpec) :=
  OpenClaim.holds_of_wide 3 Tryz.f3 rfl rfl rfl rfl rfl rfl rfl ⟨rfl, rfl, rfl, rfl, rfl⟩ rfl rfl rfl rfl rfl (by kernel_rfl) Tryz.func3 (by kernel_rfl)
    (of_decide_eq_true (by kernel_rfl)) (by unfold Func.isWrapper; first | (rw [if_pos (by decide +kernel)]; kernel_rfl) | (rw [if_neg (by decide +kernel)]; exact ⟨rfl, rfl⟩))
    (fun os started H enc _ => lifted os started H enc)
end Go.Proofs.YtmklecafnhdnmaaGreatV
namespace Go.Proofs.YtmklecafnhdnmaaGreat
/-- The row, under a short name, for the claim. -/
theorem fnExactPictureTurns_holds : Rows.FnExactPictureTurnsSaid := Go.Proofs.YtmklecafnhdnmaaGreatV.over
end Go.Proofs.YtmklecafnhdnmaaGreat
end

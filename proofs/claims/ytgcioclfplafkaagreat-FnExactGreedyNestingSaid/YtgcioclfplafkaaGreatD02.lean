/- The law FnExactGreedyNesting returns true for every input, and the input reads as it did; no condition. -/
import Derived.Test.YtgcioclfplafkaaGreatC07
import Derived.Test.YtgcioclfplafkaaGreatD01
import Derived.Test.YtgcioclfplafkaaGreatRows
import Derived.Test.YtgcioclfplafkaaGreatB07
import Derived.WalkKit
import Derived.ProofKit
import Derived.OpenShut
import Derived.ShutString
import Derived.ChangeOld
import Derived.Below
import Derived.SizedLaws
set_option linter.all false
section
namespace Go.Proofs.YtgcioclfplafkaaGreatV
open Go Go.RowKit
theorem ml {n : Nat} (h : n ≤ maxLen) : n ≤ 9223372036854775807 := Nat.le_trans h (by decide)
abbrev cBox : CT := .pair (.int .i64) (.pair (.int .i64) (.pair (.int .i64) (.int .i64)))
abbrev cLeaf : CT := .pair .str (.pair .str (.pair (.int .i64) (.pair .str (.pair (.int .i64) (.pair (.int .i64) (.pair (.int .i64) (.pair (.int .i64) (.sl cBox))))))))
theorem pure_law (a0 a1 : Int) (a2 : List (Int × Int)) (a3 : List (ByteArray × List Int)) (a4 : List (ByteArray × Int × Int)) (a5 : List Lf) (b0 b1 b2 b3 a6 : Int) (h2 : Good (.sl (.pair (.int .i64) (.int .i64))) a2) (h3 : Good (.sl (.pair .str (.sl (.int .i64)))) a3) (h4 : Good (.sl (.pair .str (.pair (.int .i64) (.int .i64)))) a4) (h5 : Good (.sl cLeaf) a5) :
  ∃ k, laws_FnExactGreedyNesting k (a0, a1, a2, a3, a4, a5, b0, b1, b2, b3, a6) = some true := by
 refine ⟨1000000000001, law_eq (ml h2.1) (ml h3.1) (fun f hf => ⟨ml (h3.2 f hf).1, ml (h3.2 f hf).2.1⟩) (ml h4.1) (fun f hf => ml (h4.2 f hf).1) (ml h5.1) (fun f hf => ?_) (by decide) (by decide)⟩
 obtain ⟨g1, g2, g3, g4, g5, g6, g7, g8, g9⟩ := h5.2 f hf
 exact ⟨ml g1, ml g2, ml g4, ml g9.1⟩
theorem of_asc3 {P : Program} {fs : List Field} {off : Nat} {a b c d : CT} (h : OpF P fs off (.pair (.pair a (.pair b c)) d)) : OpF P fs off (.pair a (.pair b (.pair c d))) := by
 intro H enc w spare n cs xs hl hc hf
 obtain ⟨⟨⟨x, y, z⟩, u⟩, ⟨⟨h1, h2, h3⟩, h4⟩, ⟨g1, g2, g3⟩, g4⟩ := h H enc w spare n cs xs hl (by simp only [CT.size] at hc ⊢; omega) hf
 refine ⟨(x, y, z, u), ⟨h1, h2, h3, ?_⟩, g1, g2, g3, g4⟩
 have e : off + (CT.pair a (.pair b c)).size = off + a.size + b.size + c.size := by simp only [CT.size]; omega
 rw [e] at h4
 exact h4
end Go.Proofs.YtgcioclfplafkaaGreatV
end
section
namespace Go.Proofs.YtgcioclfplafkaaGreatV
open Go Go.RowKit Go.ChangeShapes Go.WideShapes Go.Proofs
theorem oc_point : OpC Tryz.prog 153 (.pair (.int .i64) (.int .i64)) := oc_struct Tryz.underlying153 (by kernel_rfl) (of_cons (off2 := 1) rfl (by kernel_rfl) rfl (oc_int Tryz.underlying2) (of_one rfl (by kernel_rfl) (oc_int Tryz.underlying2)))
theorem oc_face : OpC Tryz.prog 140 (.pair .str (.sl (.int .i64))) := oc_struct Tryz.underlying140 (by kernel_rfl) (of_cons (off2 := 1) rfl (by kernel_rfl) rfl (oc_string Tryz.underlying9) (of_one rfl (by kernel_rfl) (oc_slice (by decide) Tryz.underlying138 (by kernel_rfl) (oc_int Tryz.underlying2))))
theorem oc_veneer : OpC Tryz.prog 60 (.pair .str (.pair (.int .i64) (.int .i64))) := oc_struct Tryz.underlying60 (by kernel_rfl) (of_cons (off2 := 1) rfl (by kernel_rfl) rfl (oc_string Tryz.underlying9) (of_cons (off2 := 2) rfl (by kernel_rfl) rfl (oc_int Tryz.underlying2) (of_one rfl (by kernel_rfl) (oc_int Tryz.underlying2))))
theorem oc_drawing : OpC Tryz.prog 25 (.pair (.int .i64) (.pair (.int .i64) (.pair (.sl (.pair (.int .i64) (.int .i64))) (.sl (.pair .str (.sl (.int .i64))))))) :=
 oc_struct Tryz.underlying25 (by kernel_rfl) (of_cons (off2 := 1) rfl (by kernel_rfl) rfl (oc_int Tryz.underlying2) (of_cons (off2 := 2) rfl (by kernel_rfl) rfl (oc_int Tryz.underlying2) (of_cons (off2 := 3) rfl (by kernel_rfl) rfl (oc_slice (by decide) Tryz.underlying22 (by kernel_rfl) oc_point) (of_one rfl (by kernel_rfl) (oc_slice (by decide) Tryz.underlying23 (by kernel_rfl) oc_face)))))
theorem oc_picture : OpC Tryz.prog 28 (.pair (.pair (.int .i64) (.pair (.int .i64) (.pair (.sl (.pair (.int .i64) (.int .i64))) (.sl (.pair .str (.sl (.int .i64))))))) (.sl (.pair .str (.pair (.int .i64) (.int .i64))))) :=
 oc_struct Tryz.underlying28 (by kernel_rfl) (of_cons (off2 := 4) rfl (by kernel_rfl) rfl oc_drawing (of_one rfl (by kernel_rfl) (oc_slice (by decide) Tryz.underlying26 (by kernel_rfl) oc_veneer)))
theorem oc_box : OpC Tryz.prog 156 cBox :=
 oc_struct Tryz.underlying156 (by kernel_rfl) (of_cons (off2 := 1) rfl (by kernel_rfl) rfl (oc_int Tryz.underlying2) (of_cons (off2 := 2) rfl (by kernel_rfl) rfl (oc_int Tryz.underlying2) (of_cons (off2 := 3) rfl (by kernel_rfl) rfl (oc_int Tryz.underlying2) (of_one rfl (by kernel_rfl) (oc_int Tryz.underlying2)))))
theorem oc_rules : OpC Tryz.prog 31 cBox :=
 oc_struct Tryz.underlying31 (by kernel_rfl) (of_cons (off2 := 1) rfl (by kernel_rfl) rfl (oc_int Tryz.underlying2) (of_cons (off2 := 2) rfl (by kernel_rfl) rfl (oc_int Tryz.underlying2) (of_cons (off2 := 3) rfl (by kernel_rfl) rfl (oc_int Tryz.underlying2) (of_one rfl (by kernel_rfl) (oc_int Tryz.underlying2)))))
theorem oc_leaf : OpC Tryz.prog 63 cLeaf :=
 oc_struct Tryz.underlying63 (by kernel_rfl) (of_cons (off2 := 1) rfl (by kernel_rfl) rfl (oc_string Tryz.underlying9) (of_cons (off2 := 2) rfl (by kernel_rfl) rfl (oc_string Tryz.underlying9) (of_cons (off2 := 3) rfl (by kernel_rfl) rfl (oc_int Tryz.underlying2)
  (of_asc3 (of_cons (off2 := 6) rfl (by kernel_rfl) rfl oc_veneer (of_cons (off2 := 7) rfl (by kernel_rfl) rfl (oc_int Tryz.underlying2) (of_cons (off2 := 8) rfl (by kernel_rfl) rfl (oc_int Tryz.underlying2) (of_one rfl (by kernel_rfl) (oc_slice (by decide) Tryz.underlying61 (by kernel_rfl) oc_box)))))))))
theorem oc_leaves : OpC Tryz.prog 29 (.sl cLeaf) := oc_slice (by decide) Tryz.underlying29 (by kernel_rfl) oc_leaf
theorem rep_cells {w : World} {S : Nat → Prop} {a0 a1 : Int} {a2 : List (Int × Int)} {a3 : List (ByteArray × List Int)} {a4 : List (ByteArray × Int × Int)} {us : List Value} (hl : us.length = 5)
  (h : FzC w S (.pair (.pair (.int .i64) (.pair (.int .i64) (.pair (.sl (.pair (.int .i64) (.int .i64))) (.sl (.pair .str (.sl (.int .i64))))))) (.sl (.pair .str (.pair (.int .i64) (.int .i64))))) us.toArray 0 ((a0, a1, a2, a3), a4)) :
  RepL w S [] [.int .i64 a0, .int .i64 a1, .fz (.pair (.int .i64) (.int .i64)) a2, .fz (.pair .str (.sl (.int .i64))) a3, .fz (.pair .str (.pair (.int .i64) (.int .i64))) a4] us := by
 match us, hl with
 | [u0, u1, u2, u3, u4], _ =>
  obtain ⟨⟨h0, h1, h2, h3⟩, h4⟩ := h
  obtain ⟨v2, e2, h2⟩ := FzC_cell h2
  obtain ⟨v3, e3, h3⟩ := FzC_cell h3
  obtain ⟨v4, e4, h4⟩ := FzC_cell h4
  have f0 : some u0 = some (Value.int .i64 a0) := h0
  have f1 : some u1 = some (Value.int .i64 a1) := h1
  have f2 : some u2 = some v2 := e2
  have f3 : some u3 = some v3 := e3
  have f4 : some u4 = some v4 := e4
  injection f0 with f0
  injection f1 with f1
  injection f2 with f2
  injection f3 with f3
  injection f4 with f4
  subst f0; subst f1; subst f2; subst f3; subst f4
  exact ⟨rfl, rfl, h2, h3, h4, trivial⟩
theorem rep_rules {w : World} {S : Nat → Prop} {b0 b1 b2 b3 : Int} {us : List Value} (hl : us.length = 4) (h : FzC w S cBox us.toArray 0 (b0, b1, b2, b3)) : RepL w S [] [.int .i64 b0, .int .i64 b1, .int .i64 b2, .int .i64 b3] us := by
 match us, hl with
 | [u0, u1, u2, u3], _ =>
  obtain ⟨h0, h1, h2, h3⟩ := h
  have f0 : some u0 = some (Value.int .i64 b0) := h0
  have f1 : some u1 = some (Value.int .i64 b1) := h1
  have f2 : some u2 = some (Value.int .i64 b2) := h2
  have f3 : some u3 = some (Value.int .i64 b3) := h3
  injection f0 with f0
  injection f1 with f1
  injection f2 with f2
  injection f3 with f3
  subst f0; subst f1; subst f2; subst f3
  exact ⟨rfl, rfl, rfl, rfl, trivial⟩
theorem own : ownKnob Tryz.prog.godebug = none := by kernel_rfl
theorem laidOut : laidOutB Tryz.prog = true := by kernel_rfl
abbrev lawArgs (a0 a1 : Int) (a2 : List (Int × Int)) (a3 : List (ByteArray × List Int)) (a4 : List (ByteArray × Int × Int)) (a5 : List Lf) (b0 b1 b2 b3 a6 : Int) : List TV :=
 [.agg [.int .i64 a0, .int .i64 a1, .fz (.pair (.int .i64) (.int .i64)) a2, .fz (.pair .str (.sl (.int .i64))) a3, .fz (.pair .str (.pair (.int .i64) (.int .i64))) a4], .c (.fz cLeaf a5), .agg [.int .i64 b0, .int .i64 b1, .int .i64 b2, .int .i64 b3], .c (.int .i64 a6)]
theorem law_walk (a0 a1 : Int) (a2 : List (Int × Int)) (a3 : List (ByteArray × List Int)) (a4 : List (ByteArray × Int × Int)) (a5 : List Lf) (b0 b1 b2 b3 a6 : Int) (hg : ∃ k, laws_FnExactGreedyNesting k (a0, a1, a2, a3, a4, a5, b0, b1, b2, b3, a6) = some true) (W : World) (us rs : List Value) (v1 : Value)
  (h : RepL W (fun b => b < W.heap.size) [] [.int .i64 a0, .int .i64 a1, .fz (.pair (.int .i64) (.int .i64)) a2, .fz (.pair .str (.sl (.int .i64))) a3, .fz (.pair .str (.pair (.int .i64) (.int .i64))) a4] us)
  (h1 : FzC W (fun b => b < W.heap.size) (.sl cLeaf) #[v1] 0 a5) (h2 : RepL W (fun b => b < W.heap.size) [] [.int .i64 b0, .int .i64 b1, .int .i64 b2, .int .i64 b3] rs) :
  Calls Tryz.prog 3 #[.agg us.toArray, v1, .agg rs.toArray, .int .i64 a6] W fun e W' => e = .returned (.bool true) ∧ Below W.heap.size W W' := by
 obtain ⟨k, hk⟩ := hg
 have hcall : ∀ (R : Type) (K : TV → List CV → Option R), I3.call (laws_FnExactGreedyNesting k) (lawArgs a0 a1 a2 a3 a4 a5 b0 b1 b2 b3 a6) K = K (.c (.bool true)) [] := by
  intro R K
  have e : I3.call (laws_FnExactGreedyNesting k) (lawArgs a0 a1 a2 a3 a4 a5 b0 b1 b2 b3 a6) K = (laws_FnExactGreedyNesting k (a0, a1, a2, a3, a4, a5, b0, b1, b2, b3, a6)).bind fun y => K (.c (.bool y)) [] := by kernel_rfl
  rw [e, hk]; rfl
 have hc := law_call k (lawArgs a0 a1 a2 a3 a4 a5 b0 b1 b2 b3 a6) (.c (.bool true)) [] (fun {R} K => hcall R K)
  W [.agg us.toArray, v1, .agg rs.toArray, .int .i64 a6] (fun b => b < W.heap.size) [] ⟨⟨us, rfl, h⟩, h1, ⟨rs, rfl, h2⟩, rfl, trivial⟩ trivial (by simp [allB]) (by simp [allB]) (fun b hb => ⟨hb, by simp [allB]⟩)
 refine hc.mono fun e W' h2 => ?_
 obtain ⟨v, rfl, hK, _, g, hv, _⟩ := h2
 have hv : v = .bool true := hv
 subst hv
 exact ⟨rfl, hK.os, hK.tape, hK.output, hK.size, fun b hb => hK.block b hb (by simp [allB])⟩
set_option maxRecDepth 100000 in
theorem lifted (os : Os) (started : os.Started) (H : Type) (enc : TypeId × Value → H) :
  ReturnsInHanded {} Tryz.checked os 3 .any (YtgcioclfplafkaaGreat.Rows.fnExactGreedyNestingSpec.pre6 enc Tryz.prog Tryz.f3 YtgcioclfplafkaaGreat.Rows.fnExactGreedyNestingRow.domain false) (YtgcioclfplafkaaGreat.Rows.fnExactGreedyNestingSpec.post enc Tryz.prog Tryz.f3 false true false false) := by
 refine returnsInHanded_of_change_sized (C := Tryz.checked) own started (by kernel_rfl) Tryz.func3
  (ChangeSpec.witness6 (enc := enc) (C := Tryz.checked) false ⟨#[], #[.agg #[(.int .i64 0), (.int .i64 0), (.slice none 0 0), (.slice none 0 0), (.slice none 0 0)], .slice none 0 0, .agg #[(.int .i64 0), (.int .i64 0), (.int .i64 0), (.int .i64 0)], .int .i64 0], []⟩ 8 (by kernel_rfl) (by kernel_rfl) (by kernel_rfl) (by kernel_rfl)) ?_
 intro W base args ds gs before hval0 hW hcnd hsz0 _
 have hval : ∀ (j : Nat) t v, Tryz.f3.params[j]? = some t → args[j]? = some v → Value.okWide Tryz.prog W .any base t v := hval0
 have hW' := hW
 obtain ⟨p, q, hA0, hV, rfl, hfz, hnd⟩ := hW
 have hA : DataW.TrodAll enc Tryz.prog W 0 (fun _ => true) true Tryz.f3.params.toList args.toList ds p := hA0
 rw [Tryz.params3] at hA hval
 obtain ⟨v0, vs0, d0, ds0, p0, q0, hargs, rfl, rfl, h0, r0⟩ := trodAll_cons hA
 obtain ⟨v1, vs1, d1, ds1, p1, q1, rfl, rfl, rfl, h1, r1⟩ := trodAll_cons r0
 obtain ⟨v2, vs2, d2, ds2, p2, q2, rfl, rfl, rfl, h2, r2⟩ := trodAll_cons r1
 obtain ⟨v3, vs3, d3, ds3, p3, q3, rfl, rfl, rfl, h3, r3⟩ := trodAll_cons r2
 obtain ⟨rfl, rfl, rfl⟩ := trodAll_nil r3
 obtain rfl : args = #[v0, v1, v2, v3] := by cases args; simp_all
 obtain ⟨rfl, rfl⟩ := trodVars_none hV
 obtain ⟨cs0, rfl, hn0⟩ := okWide_struct Tryz.underlying28 (hval 0 28 v0 rfl rfl)
 obtain ⟨c1, len1, cap1, rfl⟩ := okWide_slice Tryz.underlying29 (hval 1 29 v1 rfl rfl)
 obtain ⟨cs2, rfl, hn2⟩ := okWide_struct Tryz.underlying31 (hval 2 31 v2 rfl rfl)
 have k0 := h0
 have k1 := h1
 have k2 := h2
 have lt0 : ∀ x ∈ p0, x.block < W.heap.size := by obtain ⟨m, hm⟩ := k0; exact DataW.trod_lt m _ _ _ hm
 have lt1 : ∀ x ∈ p1, x.block < W.heap.size := by obtain ⟨m, hm⟩ := k1; exact DataW.trod_lt m _ _ _ hm
 have lt2 : ∀ x ∈ p2, x.block < W.heap.size := by obtain ⟨m, hm⟩ := k2; exact DataW.trod_lt m _ _ _ hm
 obtain ⟨m0, hf0⟩ := h0
 obtain ⟨m1, hf1⟩ := h1
 obtain ⟨m2, hf2⟩ := h2
 obtain ⟨hl5, ⟨⟨a0, a1, a2, a3⟩, a4⟩, hfc, ⟨g0, g1, g2, g3⟩, g4⟩ := oc_picture _ _ _ _ _ _ _ hf0
 obtain ⟨hl1, a5, hfc1, g5⟩ := oc_leaves _ _ _ _ _ _ _ hf1
 obtain ⟨hl4, ⟨b0, b1, b2, b3⟩, hfc2, _⟩ := oc_rules _ _ _ _ _ _ _ hf2
 obtain ⟨a6, rfl, rfl, rfl, w3⟩ := open_int Tryz.underlying2 (hval 3 2 v3 rfl rfl) h3
 have hrep := rep_cells hl5 hfc
 have hrep2 := rep_rules hl4 hfc2
 clear hA0 hval0 hsz0
 have hcs : (Value.agg cs0).cells.toList = cs0.toList := rfl
 have hcs2 : (Value.agg cs2).cells.toList = cs2.toList := rfl
 rw [hcs] at hrep
 rw [hcs2] at hrep2
 refine (law_walk a0 a1 a2 a3 a4 a5 b0 b1 b2 b3 a6 (pure_law a0 a1 a2 a3 a4 a5 b0 b1 b2 b3 a6 g2 g3 g4 g5) W cs0.toList cs2.toList _ hrep hfc1 hrep2).mono ?_
 rintro e W' ⟨he, bel⟩
 subst he
 exact ⟨_, rfl, _, _, _, [], _, [], hW', trodAll_mk1 (shut_bool Tryz.underlying4 _), (trodAll_cons_mk (Below.trod laidOut (by kernel_rfl) (of_decide_eq_true (by kernel_rfl)) k0 bel lt0) (trodAll_cons_mk (Below.trod laidOut (by kernel_rfl) (of_decide_eq_true (by kernel_rfl)) k1 bel lt1) (trodAll_cons_mk (Below.trod laidOut (by kernel_rfl) (of_decide_eq_true (by kernel_rfl)) k2 bel lt2) (trodAll_cons_mk (shut_int Tryz.underlying2 w3) trodAll_mk0)))), rfl, bel.frame _, fun h => by cases h⟩
theorem over : YtgcioclfplafkaaGreat.Rows.fnExactGreedyNestingRow.holds YtgcioclfplafkaaGreat.Tryz.pinned (OpenSpec.ofChange YtgcioclfplafkaaGreat.Rows.fnExactGreedyNestingSpec) :=
 OpenClaim.holds_of_wide 3 Tryz.f3 rfl rfl rfl rfl rfl rfl rfl ⟨rfl, rfl, rfl, rfl, rfl⟩ rfl rfl rfl rfl rfl (by kernel_rfl) Tryz.func3 (by kernel_rfl)
  (of_decide_eq_true (by kernel_rfl)) (by unfold Func.isWrapper; first | (rw [if_pos (by decide +kernel)]; kernel_rfl) | (rw [if_neg (by decide +kernel)]; exact ⟨rfl, rfl⟩))
  (fun os started H enc _ => lifted os started H enc)
end Go.Proofs.YtgcioclfplafkaaGreatV
namespace Go.Proofs.YtgcioclfplafkaaGreat
theorem fnExactGreedyNesting_holds : Rows.FnExactGreedyNestingSaid := Go.Proofs.YtgcioclfplafkaaGreatV.over
end Go.Proofs.YtgcioclfplafkaaGreat
end

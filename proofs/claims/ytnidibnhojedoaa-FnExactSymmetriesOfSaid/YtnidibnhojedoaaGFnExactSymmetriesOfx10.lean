-- Written by the session's own program (gen.py) out of the translation's print. Lean checks it.
import Derived.Test.YtnidibnhojedoaaGFnExactSymmetriesOfx0
import Derived.Test.YtnidibnhojedoaaGFnExactSymmetriesOfx8
namespace Go.Proofs.Ytnidibnhojedoaa.GFnExactSymmetriesOf
open Go.RowKit Go.Proofs.YtnidibnhojedoaaW.PrintWords Go.Proofs.YtnidibnhojedoaaW.PrintLast Go.Proofs.YtnidibnhojedoaaW.PrintMore
attribute [local go_sem] max2_int min2_int max_two min_two max_three min_three max_four min_four   -- for this text's walks alone
set_option linter.unusedVariables false
set_option linter.unusedSimpArgs false

-- NOT PRINTED: function 102 (impl_Motion_102)

-- NOT PRINTED: function 94 (impl_Motion_94)

/-! ### impl_motions: function 95 -/
mutual
def impl_motions.l0 : Nat → List (S31) → Int → Int → Int → List Int → Option ((List (S31)))
  | 0, _, _, _, _, _ => none
  | k + 1, x3, x8, x293000, x293001, x293002 => if x8 < 8 then (if (Int.tmod x8 2) = 1 then (impl_motions.j1 k x3 x8 x8 (x293000 != x293001) x293000 x293001 x293002) else (impl_motions.j1 k x3 x8 x8 false x293000 x293001 x293002)) else (some x3)
def impl_motions.j1 : Nat → List (S31) → Int → Int → Bool → Int → Int → List Int → Option ((List (S31)))
  | 0, _, _, _, _, _, _, _ => none
  | k + 1, x3, x4, x8, x20, x293000, x293001, x293002 => if x20 = true then (impl_motions.l0 k x3 (wrap64 (x8 + 1)) x293000 x293001 x293002) else (impl_motions.l1 k x3 x4 x8 x293000 0 x293000 x293001 x293002)
def impl_motions.l1 : Nat → List (S31) → Int → Int → Int → Int → Int → Int → List Int → Option ((List (S31)))
  | 0, _, _, _, _, _, _, _, _ => none
  | k + 1, x3, x4, x8, x22, x23, x293000, x293001, x293002 => if x23 < x22 then (impl_motions.l2 k x3 x4 x23 x8 x22 x23 x293001 0 x293000 x293001 x293002) else (impl_motions.l0 k x3 (wrap64 (x8 + 1)) x293000 x293001 x293002)
def impl_motions.l2 : Nat → List (S31) → Int → Int → Int → Int → Int → Int → Int → Int → Int → List Int → Option ((List (S31)))
  | 0, _, _, _, _, _, _, _, _, _, _, _ => none
  | k + 1, x3, x4, x5, x8, x22, x23, x27, x28, x293000, x293001, x293002 => if x28 < x27 then (if x3.length < 5864062014805 then (impl_motions.l2 k (x3 ++ [(⟨x4, x5, x28⟩ : S31)]) x4 x5 x8 x22 x23 x27 (wrap64 (x28 + 1)) x293000 x293001 x293002) else (none)) else (impl_motions.l1 k x3 x4 x8 x22 (wrap64 (x23 + 1)) x293000 x293001 x293002)
end
def impl_motions.f (k : Nat) (a0_0 : Int) (a0_1 : Int) (l0_2 : List Int) : Option ((List (S31))) := impl_motions.l0 k (([] : List (S31))) 0 a0_0 a0_1 l0_2
theorem impl_motions.mono_l : ∀ k, (∀ y0 y1 y2 y3 y4, LeO (impl_motions.l0 k y0 y1 y2 y3 y4) (impl_motions.l0 (k + 1) y0 y1 y2 y3 y4)) ∧ (∀ y0 y1 y2 y3 y4 y5 y6, LeO (impl_motions.j1 k y0 y1 y2 y3 y4 y5 y6) (impl_motions.j1 (k + 1) y0 y1 y2 y3 y4 y5 y6)) ∧ (∀ y0 y1 y2 y3 y4 y5 y6 y7, LeO (impl_motions.l1 k y0 y1 y2 y3 y4 y5 y6 y7) (impl_motions.l1 (k + 1) y0 y1 y2 y3 y4 y5 y6 y7)) ∧ (∀ y0 y1 y2 y3 y4 y5 y6 y7 y8 y9 y10, LeO (impl_motions.l2 k y0 y1 y2 y3 y4 y5 y6 y7 y8 y9 y10) (impl_motions.l2 (k + 1) y0 y1 y2 y3 y4 y5 y6 y7 y8 y9 y10))
  | 0 => ⟨fun _ _ _ _ _ r h => by simp [impl_motions.l0] at h, fun _ _ _ _ _ _ _ r h => by simp [impl_motions.j1] at h, fun _ _ _ _ _ _ _ _ r h => by simp [impl_motions.l1] at h, fun _ _ _ _ _ _ _ _ _ _ _ r h => by simp [impl_motions.l2] at h⟩
  | k + 1 => by
    obtain ⟨ih0, ih1, ih2, ih3⟩ := impl_motions.mono_l k
    refine ⟨?_, ?_, ?_, ?_⟩
    · intro y0 y1 y2 y3 y4
      unfold impl_motions.l0
      repeat' first
      | (with_reducible exact ih0 _ _ _ _ _)
      | (with_reducible exact ih1 _ _ _ _ _ _ _)
      | (with_reducible exact ih2 _ _ _ _ _ _ _ _)
      | (with_reducible exact ih3 _ _ _ _ _ _ _ _ _ _ _)
      | (with_reducible exact LeO.refl _)
      | (with_reducible exact LeO.none _)
      | (with_reducible refine LeO.ite ?_ ?_)
      | (with_reducible refine LeO.bind ?_ (fun _ => ?_))
      | exact ih0 _ _ _ _ _
      | exact ih1 _ _ _ _ _ _ _
      | exact ih2 _ _ _ _ _ _ _ _
      | exact ih3 _ _ _ _ _ _ _ _ _ _ _
      | exact LeO.none _
      | refine LeO.ite ?_ ?_
      | refine LeO.bind ?_ (fun _ => ?_)
    · intro y0 y1 y2 y3 y4 y5 y6
      unfold impl_motions.j1
      repeat' first
      | (with_reducible exact ih0 _ _ _ _ _)
      | (with_reducible exact ih1 _ _ _ _ _ _ _)
      | (with_reducible exact ih2 _ _ _ _ _ _ _ _)
      | (with_reducible exact ih3 _ _ _ _ _ _ _ _ _ _ _)
      | (with_reducible exact LeO.refl _)
      | (with_reducible exact LeO.none _)
      | (with_reducible refine LeO.ite ?_ ?_)
      | (with_reducible refine LeO.bind ?_ (fun _ => ?_))
      | exact ih0 _ _ _ _ _
      | exact ih1 _ _ _ _ _ _ _
      | exact ih2 _ _ _ _ _ _ _ _
      | exact ih3 _ _ _ _ _ _ _ _ _ _ _
      | exact LeO.none _
      | refine LeO.ite ?_ ?_
      | refine LeO.bind ?_ (fun _ => ?_)
    · intro y0 y1 y2 y3 y4 y5 y6 y7
      unfold impl_motions.l1
      repeat' first
      | (with_reducible exact ih0 _ _ _ _ _)
      | (with_reducible exact ih1 _ _ _ _ _ _ _)
      | (with_reducible exact ih2 _ _ _ _ _ _ _ _)
      | (with_reducible exact ih3 _ _ _ _ _ _ _ _ _ _ _)
      | (with_reducible exact LeO.refl _)
      | (with_reducible exact LeO.none _)
      | (with_reducible refine LeO.ite ?_ ?_)
      | (with_reducible refine LeO.bind ?_ (fun _ => ?_))
      | exact ih0 _ _ _ _ _
      | exact ih1 _ _ _ _ _ _ _
      | exact ih2 _ _ _ _ _ _ _ _
      | exact ih3 _ _ _ _ _ _ _ _ _ _ _
      | exact LeO.none _
      | refine LeO.ite ?_ ?_
      | refine LeO.bind ?_ (fun _ => ?_)
    · intro y0 y1 y2 y3 y4 y5 y6 y7 y8 y9 y10
      unfold impl_motions.l2
      repeat' first
      | (with_reducible exact ih0 _ _ _ _ _)
      | (with_reducible exact ih1 _ _ _ _ _ _ _)
      | (with_reducible exact ih2 _ _ _ _ _ _ _ _)
      | (with_reducible exact ih3 _ _ _ _ _ _ _ _ _ _ _)
      | (with_reducible exact LeO.refl _)
      | (with_reducible exact LeO.none _)
      | (with_reducible refine LeO.ite ?_ ?_)
      | (with_reducible refine LeO.bind ?_ (fun _ => ?_))
      | exact ih0 _ _ _ _ _
      | exact ih1 _ _ _ _ _ _ _
      | exact ih2 _ _ _ _ _ _ _ _
      | exact ih3 _ _ _ _ _ _ _ _ _ _ _
      | exact LeO.none _
      | refine LeO.ite ?_ ?_
      | refine LeO.bind ?_ (fun _ => ?_)
theorem impl_motions.mono : ∀ a0 a1 a2 k, LeO (impl_motions.f k a0 a1 a2) (impl_motions.f (k + 1) a0 a1 a2) := by
  intro a0 a1 a2 k
  obtain ⟨ih0, ih1, ih2, ih3⟩ := impl_motions.mono_l k
  unfold impl_motions.f
  repeat' first
      | (with_reducible exact ih0 _ _ _ _ _)
      | (with_reducible exact ih1 _ _ _ _ _ _ _)
      | (with_reducible exact ih2 _ _ _ _ _ _ _ _)
      | (with_reducible exact ih3 _ _ _ _ _ _ _ _ _ _ _)
      | (with_reducible exact LeO.refl _)
      | (with_reducible exact LeO.none _)
      | (with_reducible refine LeO.ite ?_ ?_)
      | (with_reducible refine LeO.bind ?_ (fun _ => ?_))
      | exact ih0 _ _ _ _ _
      | exact ih1 _ _ _ _ _ _ _
      | exact ih2 _ _ _ _ _ _ _ _
      | exact ih3 _ _ _ _ _ _ _ _ _ _ _
      | exact LeO.none _
      | refine LeO.ite ?_ ?_
      | refine LeO.bind ?_ (fun _ => ?_)
open List renaming setIfInBounds_toArray → sA, set_cons_zero → sB, set_cons_succ → sC
open Go.Proofs.YtnidibnhojedoaaW.PrintWords.Aside0 renaming mk → mkA
open Go.Proofs.YtnidibnhojedoaaX (dt_ bc_ p0_ p1_ bl_ cb_ bs0_ bs1_ bs2_ bs3_ bs4_ bs5_ bs6_ bs7_ bs8_ bs9_ bs10_ bs11_ bs12_)
set_option maxHeartbeats 8000000 in
set_option maxRecDepth 100000 in
theorem impl_motions.calls (k : Nat) (a0_0 : Int) (a0_1 : Int) (A0_2 : Option Addr) (c0_2 : Nat) (l0_2 : List Int) (r : List (S31)) (w : World) (hr0_2 : Kd.C (Kd.int .i64) w A0_2 l0_2.length l0_2) (hc0_2 : l0_2.length ≤ c0_2) (h : impl_motions.f k a0_0 a0_1 l0_2 = some r) :
 Calls Try.prog 95 #[.agg #[.int .i64 a0_0, .int .i64 a0_1, .slice A0_2 l0_2.length c0_2]] w fun e w' => ∃ v0_ : Value, e = .returned (v0_) ∧ Kd.R k31 31 w' w.heap.size (fun _ => True) v0_ r ∧ Below w.heap.size w w' := by
 have hu29 := Try.underlying29
 have hu31 := Try.underlying31
 have HR0_2 := mkA hr0_2
 have HC0_2 := mkA hc0_2
 clear hr0_2 hc0_2
 have HB := mkA (Below.refl w.heap.size w)
 have H : (impl_motions.l0 k (([] : List (S31))) 0 a0_0 a0_1 l0_2) = some r := h
 clear h
 obtain ⟨y293, hy293⟩ : ∃ y_ : List (S31), y_ = (([] : List (S31))) := ⟨_, rfl⟩
 replace H : (impl_motions.l0 k y293 0 a0_0 a0_1 l0_2) = some r := by first | (rw [hy293]; with_reducible exact H) | (have H2_ := (Option.bind_some _ _).symm.trans H; rw [hy293]; with_reducible exact H2_) | (have H2_ := (Option.bind_some _ _).symm.trans H; with_reducible exact H2_) | with_reducible exact H | (rw [hy293]; exact H) | exact H
 have Ny293 := mkA hy293
 clear hy293
 have H' := mkA H
 clear H
 go_enter Try.func95, Try.ntmps95
 go_wp2_with (first | ((with_reducible refine gate_dst (N := 1) rfl ?_); refine box_event ?hg (N := 1) ?hd (cs := #[.int .i64 a0_0, .int .i64 a0_1, .slice A0_2 l0_2.length c0_2]) (t := 29) ?hr ?_; (case hd => rfl); (case hg => rfl); (case hr => first | (go_simp; done) | (go_simp; rfl)); intro gb292 hg w2 hbox hb; have n0_ := mkA (below_step (bs0_ HB.out) hb); have n1_ := mkA (hbox); have n2_ := mkA ((by rw [hg]; exact (below_size (bs0_ HB.out)) : w.heap.size ≤ gb292)); have n3_ := mkA ((by rw [hg]; exact (below_size (bs0_ HB.out)) : w.heap.size ≤ gb292)); clear HB; have HB := n0_; have BK292 := n1_; have GW292 := n2_; have GE292 := n3_; clear n0_ n1_ n2_ n3_; clear hb hbox hg) | ((with_reducible refine gate_dst (N := 7) rfl ?_); refine Kd.R_lit k31 _ 31 ?hg (N := 7) ?hd (xs := ([] : List (S31))) (inner := []) (ok := fun _ => True) (okp := fun _ => True) ?hr ?hp (fun _ hk => hk) trivial (Below.refl _ _) (Nat.le_refl _) (by simp) ?_; (case hd => rfl); (case hg => rfl); (case hr => first | (go_simp; done) | (go_simp; rfl)); (case hp => exact (Reps.none _ _)); intro v294 w3 ho4 hb hg_ hnew_; clear hg_ hnew_; (first | rw [← Ny293.out] at ho4 | (simp only [Int.reduceToNat] at ho4; rw [← Ny293.out] at ho4)); have n0_ := mkA (Kd.R_lower ho4 (below_size (bs1_ HB.out GE292.out))); have n1_ := mkA (blk_below (g := gb292) (o := .cells #[.int .i64 a0_0, .int .i64 a0_1, .slice A0_2 l0_2.length c0_2] 29 (0, 0)) (bl_ BK292.out) hb); have n2_ := mkA (below_step (bs1_ HB.out GE292.out) hb); clear BK292; clear HB; have HO295 := n0_; have BK292 := n1_; have HB := n2_; clear n0_ n1_ n2_; clear hb ho4))
 go_loopg [3, 8] k (fun kq v3 v8 w' => ∃ (x3_1 : List (S31)) (x8_1 : Int), v8 = .int .i64 x8_1 ∧ Aside0 (impl_motions.l0 kq x3_1 x8_1 a0_0 a0_1 l0_2 = some r) ∧ Aside0 (kq ≤ k) ∧ Aside0 (Kd.R k31 31 w' w.heap.size (fun _ => True) v3 x3_1) ∧ Aside0 (w'.heap[gb292]? = some (.cells #[.int .i64 a0_0, .int .i64 a0_1, (.slice A0_2 l0_2.length c0_2)] 29 (0, 0))) ∧ Aside0 (Below w.heap.size w w'))
 case atStart => exact ⟨(y293), (0), (by first | rfl | (simp; done) | (simp [*]; done) | (simp [i64_w, i32_w]; done)), H', ⟨Nat.le_refl _⟩, ⟨by (with_reducible repeat (first | apply Kd.R_alloc | apply Kd.R_drewN | apply Kd.R_drew)); exact HO295.out⟩, ⟨by (with_reducible repeat (first | refine blk_drewN ?_ _ | refine blk_drew ?_ | refine blk_alloc ?_ _)); exact BK292.out⟩, ⟨by repeat (first | (with_reducible first | exact HB.out | apply below_alloc | apply pw_below_drewN | apply below_drew1 | refine below_set ?_ GE292.out) | exact HB.out)⟩⟩
 case round =>
  clear H'
  try clear p2
  obtain ⟨x3_1, x8_1, rfl, HA, HK1, HO_3, BK292, HB⟩ := hrel
  cases gk with
  | zero => exact absurd HA.out (by simp [impl_motions.l0])
  | succ k1 =>
   have H := HA.out
   clear HA
   simp only [impl_motions.l0] at H
   by_cases c5 : x8_1 < 8
   rotate_left
   · rw [if_neg c5] at H
     have c5b0 : decide (x8_1 < 8) = false := decide_eq_false c5
     clear c5
     obtain rfl := Option.some.inj H
     go_wp2
     go_ret
     exact ⟨_, by first | rfl | (simp [errW_none, errW_some] <;> rfl) | (simp [*, errW_none, errW_some] <;> rfl), by (with_reducible repeat (first | apply Kd.R_alloc | apply Kd.R_drewN | apply Kd.R_drew)); exact HO_3.out, by repeat (first | (with_reducible first | exact HB.out | apply below_alloc | apply pw_below_drewN | apply below_drew1 | refine below_set ?_ GE292.out) | exact HB.out)⟩

   rw [if_pos c5] at H
   have c5b0 : decide (x8_1 < 8) = true := decide_eq_true c5
   clear c5
   have HC6 := mkA H
   clear H
   go_upto_region 5 with (fail)
   go_cut [20] (fun v20 wc => ∃ (kq : Nat) (x20_5 : Bool), v20 = .bool x20_5 ∧ Aside0 (impl_motions.j1 kq x3_1 x8_1 x8_1 x20_5 a0_0 a0_1 l0_2 = some r) ∧ Aside0 (kq ≤ k1) ∧ Aside0 (Kd.R k31 31 wc w.heap.size (fun _ => True) u3 x3_1) ∧ Aside0 (wc.heap[gb292]? = some (.cells #[.int .i64 a0_0, .int .i64 a0_1, (.slice A0_2 l0_2.length c0_2)] 29 (0, 0))) ∧ Aside0 (Below w.heap.size w wc))
   case first =>
    have H := HC6.out
    clear HC6
    by_cases c7 : (Int.tmod x8_1 2) = 1
    rotate_left
    · rw [if_neg c7] at H
      have c7b0 : ((Int.tmod x8_1 2) == 1) = false := beq_eq_false_iff_ne.mpr c7
      have c7b1 : ((Int.tmod x8_1 2) != 1) = true := bne_iff_ne.mpr c7
      (first | rw [c7b0] | (simp only [i64_w, i32_w]; rw [c7b0]) | skip)
      have H' := mkA H
      clear H
      go_wp2
      go_meet
      case rel => exact ⟨_, (false), (by first | rfl | (simp; done) | (simp [*]; done) | (simp [i64_w, i32_w]; done)), H', ⟨by have := HK1.out; first | omega | exact Nat.le_refl _⟩, ⟨by (with_reducible repeat (first | apply Kd.R_alloc | apply Kd.R_drewN | apply Kd.R_drew)); exact HO_3.out⟩, ⟨by (with_reducible repeat (first | refine blk_drewN ?_ _ | refine blk_drew ?_ | refine blk_alloc ?_ _)); exact BK292.out⟩, ⟨by repeat (first | (with_reducible first | exact HB.out | apply below_alloc | apply pw_below_drewN | apply below_drew1 | refine below_set ?_ GE292.out) | exact HB.out)⟩⟩
    rw [if_pos c7] at H
    have c7b0 : ((Int.tmod x8_1 2) == 1) = true := beq_iff_eq.mpr c7
    have c7b1 : ((Int.tmod x8_1 2) != 1) = false := bne_eq_false_iff_eq.mpr c7
    clear c7
    (first | rw [c7b0] | (simp only [i64_w, i32_w]; rw [c7b0]) | skip)
    have H' := mkA H
    clear H
    have hcz8_0 : wr.cell? ⟨gb292, 0, none⟩ = some (.int .i64 a0_0) := (blk_cell BK292.out 0).trans rfl
    have hcz8_1 : wr.cell? ⟨gb292, 1, none⟩ = some (.int .i64 a0_1) := (blk_cell BK292.out 1).trans rfl
    have hcz8_2 : wr.cell? ⟨gb292, 2, none⟩ = some (.slice A0_2 l0_2.length c0_2) := (blk_cell BK292.out 2).trans rfl
    have hfz8_0 := blk_frozen BK292.out 0
    have hfz8_1 := blk_frozen BK292.out 1
    have hfz8_2 := blk_frozen BK292.out 2
    go_wp2
    go_meet
    case rel => exact ⟨_, ((a0_0 != a0_1)), (by first | rfl | (simp; done) | (simp [*]; done) | (simp [i64_w, i32_w]; done)), H', ⟨by have := HK1.out; first | omega | exact Nat.le_refl _⟩, ⟨by (with_reducible repeat (first | apply Kd.R_alloc | apply Kd.R_drewN | apply Kd.R_drew)); exact HO_3.out⟩, ⟨by (with_reducible repeat (first | refine blk_drewN ?_ _ | refine blk_drew ?_ | refine blk_alloc ?_ _)); exact BK292.out⟩, ⟨by repeat (first | (with_reducible first | exact HB.out | apply below_alloc | apply pw_below_drewN | apply below_drew1 | refine below_set ?_ GE292.out) | exact HB.out)⟩⟩
   case rest =>
    clear HC6
    try clear p2
    try clear c5
    try clear c5b0
    try clear c7
    try clear c7b0
    try clear c7b1
    try clear hcz8_0
    try clear hcz8_1
    try clear hcz8_2
    try clear hfz8_0
    try clear hfz8_1
    try clear hfz8_2
    try clear p2
    obtain ⟨kq, x20_5, rfl, HA, HJ5, HO_3, BK292, HB⟩ := hcut
    cases kq with
    | zero => exact absurd HA.out (by simp [impl_motions.j1])
    | succ kj5 =>
     have H := HA.out
     clear HA
     simp only [impl_motions.j1] at H
     by_cases c9 : x20_5 = true
     · subst c9
       have H1 : (impl_motions.l0 kj5 x3_1 (wrap64 (x8_1 + 1)) a0_0 a0_1 l0_2) = some r := by rw [if_pos rfl] at H; exact H
       clear H
       have H := H1
       clear H1
       have H' := mkA H
       clear H
       go_wp2
       go_roundg kj5
       case measure => have := HK1.out; have := HJ5.out; omega
       case rel => exact ⟨(x3_1), (wrap64 (x8_1 + 1)), (by first | rfl | (simp; done) | (simp [*]; done) | (simp [i64_w, i32_w]; done)), H', ⟨by have := HK1.out; have := HJ5.out; omega⟩, ⟨by (with_reducible repeat (first | apply Kd.R_alloc | apply Kd.R_drewN | apply Kd.R_drew)); exact HO_3.out⟩, ⟨by (with_reducible repeat (first | refine blk_drewN ?_ _ | refine blk_drew ?_ | refine blk_alloc ?_ _)); exact BK292.out⟩, ⟨by repeat (first | (with_reducible first | exact HB.out | apply below_alloc | apply pw_below_drewN | apply below_drew1 | refine below_set ?_ GE292.out) | exact HB.out)⟩⟩
     · replace c9 := Bool.eq_false_iff.mpr c9
       subst c9
       have H1 : (impl_motions.l1 kj5 x3_1 x8_1 x8_1 a0_0 0 a0_0 a0_1 l0_2) = some r := by rw [if_neg (show ¬ (false = true) by decide)] at H; exact H
       clear H
       have H := H1
       clear H1
       have H' := mkA H
       clear H
       have hcz10_0 : wc.cell? ⟨gb292, 0, none⟩ = some (.int .i64 a0_0) := (blk_cell BK292.out 0).trans rfl
       have hcz10_1 : wc.cell? ⟨gb292, 1, none⟩ = some (.int .i64 a0_1) := (blk_cell BK292.out 1).trans rfl
       have hcz10_2 : wc.cell? ⟨gb292, 2, none⟩ = some (.slice A0_2 l0_2.length c0_2) := (blk_cell BK292.out 2).trans rfl
       have hfz10_0 := blk_frozen BK292.out 0
       have hfz10_1 := blk_frozen BK292.out 1
       have hfz10_2 := blk_frozen BK292.out 2
       go_wp2
       go_loopg [3, 23] kj5 (fun kq v3 v23 w' => ∃ (x3_3 : List (S31)) (x23_3 : Int), v23 = .int .i64 x23_3 ∧ Aside0 (impl_motions.l1 kq x3_3 x8_1 x8_1 a0_0 x23_3 a0_0 a0_1 l0_2 = some r) ∧ Aside0 (kq ≤ kj5) ∧ Aside0 (Kd.R k31 31 w' w.heap.size (fun _ => True) v3 x3_3) ∧ Aside0 (w'.heap[gb292]? = some (.cells #[.int .i64 a0_0, .int .i64 a0_1, (.slice A0_2 l0_2.length c0_2)] 29 (0, 0))) ∧ Aside0 (Below w.heap.size w w'))
       case atStart => exact ⟨(x3_1), (0), (by first | rfl | (simp; done) | (simp [*]; done) | (simp [i64_w, i32_w]; done)), H', ⟨Nat.le_refl _⟩, ⟨by (with_reducible repeat (first | apply Kd.R_alloc | apply Kd.R_drewN | apply Kd.R_drew)); exact HO_3.out⟩, ⟨by (with_reducible repeat (first | refine blk_drewN ?_ _ | refine blk_drew ?_ | refine blk_alloc ?_ _)); exact BK292.out⟩, ⟨by repeat (first | (with_reducible first | exact HB.out | apply below_alloc | apply pw_below_drewN | apply below_drew1 | refine below_set ?_ GE292.out) | exact HB.out)⟩⟩
       case round =>
        clear H'
        try clear p2
        try clear c5
        try clear c5b0
        try clear p6
        try clear c7
        try clear c7b0
        try clear c7b1
        try clear c9
        try clear hcz10_0
        try clear hcz10_1
        try clear hcz10_2
        try clear hcz8_0
        try clear hcz8_1
        try clear hcz8_2
        try clear hfz10_0
        try clear hfz10_1
        try clear hfz10_2
        try clear hfz8_0
        try clear hfz8_1
        try clear hfz8_2
        try clear p2
        obtain ⟨x3_3, x23_3, rfl, HA, HK3, HO_3, BK292, HB⟩ := hrel
        cases gk with
        | zero => exact absurd HA.out (by simp [impl_motions.l1])
        | succ k3 =>
         have H := HA.out
         clear HA
         simp only [impl_motions.l1] at H
         by_cases c11 : x23_3 < a0_0
         rotate_left
         · rw [if_neg c11] at H
           have c11b0 : decide (x23_3 < a0_0) = false := decide_eq_false c11
           clear c11
           have H' := mkA H
           clear H
           go_wp2
           go_roundg k3
           case measure => have := HK1.out; have := HJ5.out; have := HK3.out; omega
           case rel => exact ⟨(x3_3), (wrap64 (x8_1 + 1)), (by first | rfl | (simp; done) | (simp [*]; done) | (simp [i64_w, i32_w]; done)), H', ⟨by have := HK1.out; have := HJ5.out; have := HK3.out; omega⟩, ⟨by (with_reducible repeat (first | apply Kd.R_alloc | apply Kd.R_drewN | apply Kd.R_drew)); exact HO_3.out⟩, ⟨by (with_reducible repeat (first | refine blk_drewN ?_ _ | refine blk_drew ?_ | refine blk_alloc ?_ _)); exact BK292.out⟩, ⟨by repeat (first | (with_reducible first | exact HB.out | apply below_alloc | apply pw_below_drewN | apply below_drew1 | refine below_set ?_ GE292.out) | exact HB.out)⟩⟩
         rw [if_pos c11] at H
         have c11b0 : decide (x23_3 < a0_0) = true := decide_eq_true c11
         clear c11
         have H' := mkA H
         clear H
         have hcz12_0 : wr.cell? ⟨gb292, 0, none⟩ = some (.int .i64 a0_0) := (blk_cell BK292.out 0).trans rfl
         have hcz12_1 : wr.cell? ⟨gb292, 1, none⟩ = some (.int .i64 a0_1) := (blk_cell BK292.out 1).trans rfl
         have hcz12_2 : wr.cell? ⟨gb292, 2, none⟩ = some (.slice A0_2 l0_2.length c0_2) := (blk_cell BK292.out 2).trans rfl
         have hfz12_0 := blk_frozen BK292.out 0
         have hfz12_1 := blk_frozen BK292.out 1
         have hfz12_2 := blk_frozen BK292.out 2
         go_wp2
         go_loopg [3, 28] k3 (fun kq v3 v28 w' => ∃ (x3_4 : List (S31)) (x28_4 : Int), v28 = .int .i64 x28_4 ∧ Aside0 (impl_motions.l2 kq x3_4 x8_1 x23_3 x8_1 a0_0 x23_3 a0_1 x28_4 a0_0 a0_1 l0_2 = some r) ∧ Aside0 (kq ≤ k3) ∧ Aside0 (Kd.R k31 31 w' w.heap.size (fun _ => True) v3 x3_4) ∧ Aside0 (w'.heap[gb292]? = some (.cells #[.int .i64 a0_0, .int .i64 a0_1, (.slice A0_2 l0_2.length c0_2)] 29 (0, 0))) ∧ Aside0 (Below w.heap.size w w'))
         case atStart => exact ⟨(x3_3), (0), (by first | rfl | (simp; done) | (simp [*]; done) | (simp [i64_w, i32_w]; done)), H', ⟨Nat.le_refl _⟩, ⟨by (with_reducible repeat (first | apply Kd.R_alloc | apply Kd.R_drewN | apply Kd.R_drew)); exact HO_3.out⟩, ⟨by (with_reducible repeat (first | refine blk_drewN ?_ _ | refine blk_drew ?_ | refine blk_alloc ?_ _)); exact BK292.out⟩, ⟨by repeat (first | (with_reducible first | exact HB.out | apply below_alloc | apply pw_below_drewN | apply below_drew1 | refine below_set ?_ GE292.out) | exact HB.out)⟩⟩
         case round =>
          clear H'
          try clear c1
          try clear p2
          try clear c5
          try clear c5b0
          try clear p6
          try clear c7
          try clear c7b0
          try clear c7b1
          try clear c9
          try clear c11
          try clear c11b0
          try clear hcz10_0
          try clear hcz10_1
          try clear hcz10_2
          try clear hcz12_0
          try clear hcz12_1
          try clear hcz12_2
          try clear hcz8_0
          try clear hcz8_1
          try clear hcz8_2
          try clear hfz10_0
          try clear hfz10_1
          try clear hfz10_2
          try clear hfz12_0
          try clear hfz12_1
          try clear hfz12_2
          try clear hfz8_0
          try clear hfz8_1
          try clear hfz8_2
          try clear p2
          try clear p6
          obtain ⟨x3_4, x28_4, rfl, HA, HK4, HO_3, BK292, HB⟩ := hrel
          cases gk with
          | zero => exact absurd HA.out (by simp [impl_motions.l2])
          | succ k4 =>
           have H := HA.out
           clear HA
           simp only [impl_motions.l2] at H
           by_cases c13 : x28_4 < a0_1
           rotate_left
           · rw [if_neg c13] at H
             have c13b0 : decide (x28_4 < a0_1) = false := decide_eq_false c13
             clear c13
             have H' := mkA H
             clear H
             go_wp2
             go_roundg k4
             case measure => have := HK1.out; have := HJ5.out; have := HK3.out; have := HK4.out; omega
             case rel => exact ⟨(x3_4), (wrap64 (x23_3 + 1)), (by first | rfl | (simp; done) | (simp [*]; done) | (simp [i64_w, i32_w]; done)), H', ⟨by have := HK1.out; have := HJ5.out; have := HK3.out; have := HK4.out; omega⟩, ⟨by (with_reducible repeat (first | apply Kd.R_alloc | apply Kd.R_drewN | apply Kd.R_drew)); exact HO_3.out⟩, ⟨by (with_reducible repeat (first | refine blk_drewN ?_ _ | refine blk_drew ?_ | refine blk_alloc ?_ _)); exact BK292.out⟩, ⟨by repeat (first | (with_reducible first | exact HB.out | apply below_alloc | apply pw_below_drewN | apply below_drew1 | refine below_set ?_ GE292.out) | exact HB.out)⟩⟩
           rw [if_pos c13] at H
           have c13b0 : decide (x28_4 < a0_1) = true := decide_eq_true c13
           clear c13
           by_cases c14 : x3_4.length < 5864062014805
           rotate_left
           · rw [if_neg c14] at H
             exact absurd H (by simp)
           rw [if_pos c14] at H
           have LMc14 := mkA c14
           clear c14
           obtain ⟨y296, hy296⟩ : ∃ y_ : List (S31), y_ = (x3_4 ++ [(⟨x8_1, x23_3, x28_4⟩ : S31)]) := ⟨_, rfl⟩
           replace H : (impl_motions.l2 k4 y296 x8_1 x23_3 x8_1 a0_0 x23_3 a0_1 (wrap64 (x28_4 + 1)) a0_0 a0_1 l0_2) = some r := by first | (rw [hy296]; with_reducible exact H) | (have H2_ := (Option.bind_some _ _).symm.trans H; rw [hy296]; with_reducible exact H2_) | (have H2_ := (Option.bind_some _ _).symm.trans H; with_reducible exact H2_) | with_reducible exact H | (rw [hy296]; exact H) | exact H
           have Ny296 := mkA hy296
           clear hy296
           have H' := mkA H
           clear H
           go_wp2_with (first | ((with_reducible refine gate_builtin (b := .append) (xs := #[.tmp 31, .tmp 36]) rfl ?_); at_builtin; refine Kd.R_append k31 (w0 := w) w.heap.size rfl (.tmp 31) (.tmp 36) 59 31 (.agg #[(.int .i64 0), (.int .i64 0), (.int .i64 0)]) 24 rfl Try.underlying59 info31 rfl (by decide) (by omega) u3 x3_4 (⟨x8_1, x23_3, x28_4⟩ : S31) [.int .i64 x8_1, .int .i64 x23_3, .int .i64 x28_4] (fun _ => True) (fun _ => False) rfl rfl ?aP (fun _ hk => hk.elim) ?aF ?aO ?aB ?aS ?aL ?_; (case aP => exact k31_mkM _ _ _ (⟨x8_1, x23_3, x28_4⟩ : S31)); (case aB => exact (bs1_ HB.out GE292.out)); (case aF => exact (fun _ _ => trivial)); (case aO => exact (by (with_reducible repeat (first | apply Kd.R_alloc | apply Kd.R_drewN | apply Kd.R_drew)); exact HO_3.out)); (case aS => exact (below_size (bs1_ HB.out GE292.out))); (case aL => have := LMc14.out; omega); intro v297 w15 ho hb hg hat; rw [← Ny296.out] at ho; have n0_ := mkA (blk_grown (g := gb292) (o := .cells #[.int .i64 a0_0, .int .i64 a0_1, .slice A0_2 l0_2.length c0_2] 29 (0, 0)) (bl_ BK292.out) hg (Kd.R_ne HO_3.out BK292.out (by decide))); have n1_ := mkA (hb); have n2_ := mkA (ho); clear BK292; clear HB; clear HO_3; have BK292 := n0_; have HB := n1_; have HO298 := n2_; clear n0_ n1_ n2_; clear ho hb hg hat))
           go_roundg k4
           case measure => have := HK1.out; have := HJ5.out; have := HK3.out; have := HK4.out; omega
           case rel => exact ⟨(y296), (wrap64 (x28_4 + 1)), (by first | rfl | (simp; done) | (simp [*]; done) | (simp [i64_w, i32_w]; done)), H', ⟨by have := HK1.out; have := HJ5.out; have := HK3.out; have := HK4.out; omega⟩, ⟨by (with_reducible repeat (first | apply Kd.R_alloc | apply Kd.R_drewN | apply Kd.R_drew)); exact HO298.out⟩, ⟨by (with_reducible repeat (first | refine blk_drewN ?_ _ | refine blk_drew ?_ | refine blk_alloc ?_ _)); exact BK292.out⟩, ⟨by repeat (first | (with_reducible first | exact HB.out | apply below_alloc | apply pw_below_drewN | apply below_drew1 | refine below_set ?_ GE292.out) | exact HB.out)⟩⟩
/-! ### impl_turnCell: function 69 -/
mutual
def impl_turnCell.j0 : Nat → Int → Int → Int → Option (Int × Int)
  | 0, _, _, _ => none
  | k + 1, x0, x1, x2 => impl_turnCell.l0 k x1 x2 (Int.tmod x0 4)
def impl_turnCell.l0 : Nat → Int → Int → Int → Option (Int × Int)
  | 0, _, _, _ => none
  | k + 1, x1, x2, x8 => if x8 > 0 then (impl_turnCell.l0 k (wrap64 ((wrap64 (-x2)) - 1)) x1 (wrap64 (x8 - 1))) else (some (x1, x2))
end
def impl_turnCell.f (k : Nat) (a0 : Int) (a1 : Int) (a2 : Int) : Option (Int × Int) := if a0 > 3 then (impl_turnCell.j0 k a0 (wrap64 ((wrap64 (-a1)) - 1)) a2) else (impl_turnCell.j0 k a0 a1 a2)
theorem impl_turnCell.mono_l : ∀ k, (∀ y0 y1 y2, LeO (impl_turnCell.j0 k y0 y1 y2) (impl_turnCell.j0 (k + 1) y0 y1 y2)) ∧ (∀ y0 y1 y2, LeO (impl_turnCell.l0 k y0 y1 y2) (impl_turnCell.l0 (k + 1) y0 y1 y2))
  | 0 => ⟨fun _ _ _ r h => by simp [impl_turnCell.j0] at h, fun _ _ _ r h => by simp [impl_turnCell.l0] at h⟩
  | k + 1 => by
    obtain ⟨ih0, ih1⟩ := impl_turnCell.mono_l k
    refine ⟨?_, ?_⟩
    · intro y0 y1 y2
      unfold impl_turnCell.j0
      repeat' first
      | (with_reducible exact ih0 _ _ _)
      | (with_reducible exact ih1 _ _ _)
      | (with_reducible exact LeO.refl _)
      | (with_reducible exact LeO.none _)
      | (with_reducible refine LeO.ite ?_ ?_)
      | (with_reducible refine LeO.bind ?_ (fun _ => ?_))
      | exact ih0 _ _ _
      | exact ih1 _ _ _
      | exact LeO.none _
      | refine LeO.ite ?_ ?_
      | refine LeO.bind ?_ (fun _ => ?_)
    · intro y0 y1 y2
      unfold impl_turnCell.l0
      repeat' first
      | (with_reducible exact ih0 _ _ _)
      | (with_reducible exact ih1 _ _ _)
      | (with_reducible exact LeO.refl _)
      | (with_reducible exact LeO.none _)
      | (with_reducible refine LeO.ite ?_ ?_)
      | (with_reducible refine LeO.bind ?_ (fun _ => ?_))
      | exact ih0 _ _ _
      | exact ih1 _ _ _
      | exact LeO.none _
      | refine LeO.ite ?_ ?_
      | refine LeO.bind ?_ (fun _ => ?_)
theorem impl_turnCell.mono : ∀ a0 a1 a2 k, LeO (impl_turnCell.f k a0 a1 a2) (impl_turnCell.f (k + 1) a0 a1 a2) := by
  intro a0 a1 a2 k
  obtain ⟨ih0, ih1⟩ := impl_turnCell.mono_l k
  unfold impl_turnCell.f
  repeat' first
      | (with_reducible exact ih0 _ _ _)
      | (with_reducible exact ih1 _ _ _)
      | (with_reducible exact LeO.refl _)
      | (with_reducible exact LeO.none _)
      | (with_reducible refine LeO.ite ?_ ?_)
      | (with_reducible refine LeO.bind ?_ (fun _ => ?_))
      | exact ih0 _ _ _
      | exact ih1 _ _ _
      | exact LeO.none _
      | refine LeO.ite ?_ ?_
      | refine LeO.bind ?_ (fun _ => ?_)
open List renaming setIfInBounds_toArray → sA, set_cons_zero → sB, set_cons_succ → sC
open Go.Proofs.YtnidibnhojedoaaW.PrintWords.Aside0 renaming mk → mkA
open Go.Proofs.YtnidibnhojedoaaX (dt_ bc_ p0_ p1_ bl_ cb_ bs0_ bs1_ bs2_ bs3_ bs4_ bs5_ bs6_ bs7_ bs8_ bs9_ bs10_ bs11_ bs12_)
set_option maxHeartbeats 8000000 in
set_option maxRecDepth 100000 in
theorem impl_turnCell.calls (k : Nat) (a0 : Int) (a1 : Int) (a2 : Int) (r1 : Int) (r2 : Int) (w : World) (h : impl_turnCell.f k a0 a1 a2 = some (r1, r2)) :
 Calls Try.prog 69 #[.int .i64 a0, .int .i64 a1, .int .i64 a2] w fun e w' => e = .returned (.tuple #[.int .i64 r1, .int .i64 r2]) ∧ Drawn0 w w' := by
 have H : (if a0 > 3 then (impl_turnCell.j0 k a0 (wrap64 ((wrap64 (-a1)) - 1)) a2) else (impl_turnCell.j0 k a0 a1 a2)) = some (r1, r2) := h
 clear h
 have HC4 := mkA H
 clear H
 go_enter Try.func69, Try.ntmps69
 go_upto_if 10 with (fail)
 go_cut [1] (fun v1 wc => ∃ (kq : Nat) (x1_3 : Int), v1 = .int .i64 x1_3 ∧ Aside0 (impl_turnCell.j0 kq a0 x1_3 a2 = some (r1, r2)) ∧ Aside0 (kq ≤ k) ∧ Drawn0 w wc)
 case first =>
  have H := HC4.out
  clear HC4
  by_cases c5 : a0 > 3
  · rw [if_pos c5] at H
    have c5b0 : decide (3 < a0) = true := decide_eq_true c5
    clear c5
    (first | rw [c5b0] | (simp only [i64_w, i32_w]; rw [c5b0]) | skip)
    have H' := mkA H
    clear H
    go_wp2
    go_meet
    case rel => exact ⟨_, (wrap64 ((wrap64 (-a1)) - 1)), (by first | rfl | (simp; done) | (simp [*]; done) | (simp [i64_w, i32_w]; done)), H', ⟨by first | omega | exact Nat.le_refl _⟩, by repeat (first | exact Drawn0.refl _ | apply Drawn0.step)⟩
  · rw [if_neg c5] at H
    have c5b0 : decide (3 < a0) = false := decide_eq_false c5
    clear c5
    (first | rw [c5b0] | (simp only [i64_w, i32_w]; rw [c5b0]) | skip)
    have H' := mkA H
    clear H
    go_wp2
    go_meet
    case rel => exact ⟨_, (a1), (by first | rfl | (simp; done) | (simp [*]; done) | (simp [i64_w, i32_w]; done)), H', ⟨by first | omega | exact Nat.le_refl _⟩, by repeat (first | exact Drawn0.refl _ | apply Drawn0.step)⟩
 case rest =>
  clear HC4
  try clear p2
  try clear c5
  try clear c5b0
  obtain ⟨kq, x1_3, rfl, HA, HJ3, ⟨mc3, rfl⟩⟩ := hcut
  cases kq with
  | zero => exact absurd HA.out (by simp [impl_turnCell.j0])
  | succ kj3 =>
   have H := HA.out
   clear HA
   simp only [impl_turnCell.j0] at H
   have H' := mkA H
   clear H
   go_wp2
   go_loopg [1, 2, 8] kj3 (fun kq v1 v2 v8 w' => ∃ (x1_2 : Int) (x2_2 : Int) (x8_2 : Int), v1 = .int .i64 x1_2 ∧ v2 = .int .i64 x2_2 ∧ v8 = .int .i64 x8_2 ∧ Aside0 (impl_turnCell.l0 kq x1_2 x2_2 x8_2 = some (r1, r2)) ∧ Aside0 (kq ≤ kj3) ∧ Drawn0 w w')
   case atStart => exact ⟨(x1_3), (a2), (Int.tmod a0 4), (by first | rfl | (simp; done) | (simp [*]; done) | (simp [i64_w, i32_w]; done)), (by first | rfl | (simp; done) | (simp [*]; done) | (simp [i64_w, i32_w]; done)), (by first | rfl | (simp; done) | (simp [*]; done) | (simp [i64_w, i32_w]; done)), H', ⟨Nat.le_refl _⟩, by repeat (first | exact Drawn0.refl _ | apply Drawn0.step)⟩
   case round =>
    clear H'
    try clear p2
    try clear c3
    try clear c5
    try clear c5b0
    try clear p2
    obtain ⟨x1_2, x2_2, x8_2, rfl, rfl, rfl, HA, HK2, ⟨m2, rfl⟩⟩ := hrel
    cases gk with
    | zero => exact absurd HA.out (by simp [impl_turnCell.l0])
    | succ k2 =>
     have H := HA.out
     clear HA
     simp only [impl_turnCell.l0] at H
     by_cases c6 : x8_2 > 0
     · rw [if_pos c6] at H
       have c6b0 : decide (0 < x8_2) = true := decide_eq_true c6
       clear c6
       have H' := mkA H
       clear H
       go_wp2
       go_roundg k2
       case measure => have := HJ3.out; have := HK2.out; omega
       case rel => exact ⟨(wrap64 ((wrap64 (-x2_2)) - 1)), (x1_2), (wrap64 (x8_2 - 1)), (by first | rfl | (simp; done) | (simp [*]; done) | (simp [i64_w, i32_w]; done)), (by first | rfl | (simp; done) | (simp [*]; done) | (simp [i64_w, i32_w]; done)), (by first | rfl | (simp; done) | (simp [*]; done) | (simp [i64_w, i32_w]; done)), H', ⟨by have := HJ3.out; have := HK2.out; omega⟩, by repeat (first | exact Drawn0.refl _ | apply Drawn0.step)⟩
     · rw [if_neg c6] at H
       have c6b0 : decide (0 < x8_2) = false := decide_eq_false c6
       clear c6
       simp only [Option.some.injEq, Prod.mk.injEq] at H
       obtain ⟨rfl, rfl⟩ := H
       go_wp2
       go_ret2
       exact ⟨by first | rfl | (simp; done) | (simp [*]; done) | (simp [i64_w, i32_w]; done), by repeat (first | exact Drawn0.refl _ | apply Drawn0.step)⟩

/-! ### impl_moveCell: function 59 -/
def impl_moveCell.f (k : Nat) (a0_0 : Int) (a0_1 : Int) (l0_2 : List Int) (a1_0 : Int) (a1_1 : Int) (a1_2 : Int) (a2 : Int) (a3 : Int) : Option (Int × Int) := (impl_turnCell.f k a1_0 a2 a3).bind fun bt301 => ((impl_rest.f (wrap64 (bt301.1 + a1_1)) a0_0).bind fun t303 => ((impl_rest.f (wrap64 (bt301.2 + a1_2)) a0_1).bind fun t304 => (some (t303, t304))))
theorem impl_moveCell.mono : ∀ a0 a1 a2 a3 a4 a5 a6 a7 k, LeO (impl_moveCell.f k a0 a1 a2 a3 a4 a5 a6 a7) (impl_moveCell.f (k + 1) a0 a1 a2 a3 a4 a5 a6 a7) := by
  intro a0 a1 a2 a3 a4 a5 a6 a7 k
  unfold impl_moveCell.f
  repeat' first
      | (with_reducible exact impl_turnCell.mono _ _ _ _)
      | (with_reducible exact LeO.refl _)
      | (with_reducible exact LeO.none _)
      | (with_reducible refine LeO.ite ?_ ?_)
      | (with_reducible refine LeO.bind ?_ (fun _ => ?_))
      | exact impl_turnCell.mono _ _ _ _
      | exact LeO.none _
      | refine LeO.ite ?_ ?_
      | refine LeO.bind ?_ (fun _ => ?_)
def impl_moveCell.T2 : Bool × List (List Nat × List Nat) := (true, [([], []), ([], []), ([1], [1]), ([0, 2], [0, 2]), ([], []), ([4], [4]), ([3, 5], [3, 5]), ([], []), ([], []), ([8], [8]), ([7, 9], [7, 9]), ([], []), ([11], [11]), ([10, 12, 6], [10, 12]), ([6, 13, 0, 1, 2, 3, 4, 5, 6], [6]), ([13, 14, 0, 1, 2, 3, 4, 5, 6, 7, 8, 9, 10, 11, 12, 13, 14], [13])])
def impl_moveCell.B2 : List Nat := [0, 0, 2, 7, 0, 16, 63, 0, 0, 256, 896, 0, 2048, 8191, 16383, 32767]
theorem impl_moveCell.tab2 : rtab .any (opsOf Try.f59 2) = impl_moveCell.T2 := by kernel_rfl
theorem impl_moveCell.bits2 : waitsOk impl_moveCell.T2.2 impl_moveCell.B2 = true := by kernel_rfl
open List renaming setIfInBounds_toArray → sA, set_cons_zero → sB, set_cons_succ → sC
open Go.Proofs.YtnidibnhojedoaaW.PrintWords.Aside0 renaming mk → mkA
open Go.Proofs.YtnidibnhojedoaaX (dt_ bc_ p0_ p1_ bl_ cb_ bs0_ bs1_ bs2_ bs3_ bs4_ bs5_ bs6_ bs7_ bs8_ bs9_ bs10_ bs11_ bs12_)
abbrev impl_moveCell.d0 : Array Bool := #[false, false, false, false, false, false, false, false, false, false, false, false, false, false, false, false]
abbrev impl_moveCell.d1 : Array Bool := #[true, false, false, false, false, false, false, false, false, false, false, false, false, false, false, false]
abbrev impl_moveCell.d2 : Array Bool := #[true, true, false, false, false, false, false, false, false, false, false, false, false, false, false, false]
abbrev impl_moveCell.d3 : Array Bool := #[true, true, false, false, true, false, false, false, false, false, false, false, false, false, false, false]
abbrev impl_moveCell.d4 : Array Bool := #[true, true, false, false, true, false, false, true, false, false, false, false, false, false, false, false]
abbrev impl_moveCell.d5 : Array Bool := #[true, true, false, false, true, false, false, true, true, false, false, false, false, false, false, false]
abbrev impl_moveCell.d6 : Array Bool := #[true, true, false, false, true, false, false, true, true, false, false, true, false, false, false, false]
abbrev impl_moveCell.d7 : Array Bool := #[true, true, true, false, true, false, false, true, true, false, false, true, false, false, false, false]
abbrev impl_moveCell.d8 : Array Bool := #[true, true, true, true, true, false, false, true, true, false, false, true, false, false, false, false]
abbrev impl_moveCell.d9 : Array Bool := #[true, true, true, true, true, true, false, true, true, false, false, true, false, false, false, false]
abbrev impl_moveCell.d10 : Array Bool := #[true, true, true, true, true, true, false, true, true, true, false, true, false, false, false, false]
abbrev impl_moveCell.d11 : Array Bool := #[true, true, true, true, true, true, false, true, true, true, true, true, false, false, false, false]
abbrev impl_moveCell.d12 : Array Bool := #[true, true, true, true, true, true, false, true, true, true, true, true, true, false, false, false]
abbrev impl_moveCell.d13 : Array Bool := #[true, true, true, true, true, true, true, true, true, true, true, true, true, false, false, false]
abbrev impl_moveCell.d14 : Array Bool := #[true, true, true, true, true, true, true, true, true, true, true, true, true, true, false, false]
abbrev impl_moveCell.d15 : Array Bool := #[true, true, true, true, true, true, true, true, true, true, true, true, true, true, true, false]
abbrev impl_moveCell.d16 : Array Bool := #[true, true, true, true, true, true, true, true, true, true, true, true, true, true, true, true]
set_option maxHeartbeats 8000000 in
set_option maxRecDepth 100000 in
theorem impl_moveCell.calls (k : Nat) (a0_0 : Int) (a0_1 : Int) (A0_2 : Option Addr) (c0_2 : Nat) (l0_2 : List Int) (a1_0 : Int) (a1_1 : Int) (a1_2 : Int) (a2 : Int) (a3 : Int) (r1 : Int) (r2 : Int) (w : World) (hr0_2 : Kd.C (Kd.int .i64) w A0_2 l0_2.length l0_2) (hc0_2 : l0_2.length ≤ c0_2) (h : impl_moveCell.f k a0_0 a0_1 l0_2 a1_0 a1_1 a1_2 a2 a3 = some (r1, r2)) :
 Calls Try.prog 59 #[.agg #[.int .i64 a0_0, .int .i64 a0_1, .slice A0_2 l0_2.length c0_2], .agg #[.int .i64 a1_0, .int .i64 a1_1, .int .i64 a1_2], .int .i64 a2, .int .i64 a3] w fun e w' => e = .returned (.tuple #[.int .i64 r1, .int .i64 r2]) ∧ Below w.heap.size w w' := by
 have hu29 := Try.underlying29
 have hu31 := Try.underlying31
 have HR0_2 := mkA hr0_2
 have HC0_2 := mkA hc0_2
 clear hr0_2 hc0_2
 have HB := mkA (Below.refl w.heap.size w)
 have H : ((impl_turnCell.f k a1_0 a2 a3).bind fun bt301 => ((impl_rest.f (wrap64 (bt301.1 + a1_1)) a0_0).bind fun t303 => ((impl_rest.f (wrap64 (bt301.2 + a1_2)) a0_1).bind fun t304 => (some (t303, t304))))) = some (r1, r2) := h
 clear h
 replace H := Option.bind_eq_some_iff.mp H
 obtain ⟨⟨t301, t302⟩, A50, H⟩ := H
 replace H : ((impl_rest.f (wrap64 (t301 + a1_1)) a0_0).bind fun t303 => ((impl_rest.f (wrap64 (t302 + a1_2)) a0_1).bind fun t304 => (some (t303, t304)))) = some (r1, r2) := H
 have A5 := mkA A50
 clear A50
 replace H := Option.bind_eq_some_iff.mp H
 obtain ⟨t303, A60, H⟩ := H
 replace H : ((impl_rest.f (wrap64 (t302 + a1_2)) a0_1).bind fun t304 => (some (t303, t304))) = some (r1, r2) := H
 have A6 := mkA A60
 clear A60
 replace H := Option.bind_eq_some_iff.mp H
 obtain ⟨t304, A70, H⟩ := H
 replace H : (some (t303, t304)) = some (r1, r2) := H
 have A7 := mkA A70
 clear A70
 simp only [Option.some.injEq, Prod.mk.injEq] at H
 obtain ⟨rfl, rfl⟩ := H
 go_enter Try.func59, Try.ntmps59
 try go_wp2_with (first | ((with_reducible refine gate_dst (N := 4) rfl ?_); refine box_event ?hg (N := 4) ?hd (cs := #[.int .i64 a0_0, .int .i64 a0_1, .slice A0_2 l0_2.length c0_2]) (t := 29) ?hr ?_; (case hd => rfl); (case hg => rfl); (case hr => first | (go_simp; done) | (go_simp; rfl)); intro gb299 hg w8 hbox hb; have n0_ := mkA (below_step (bs0_ HB.out) hb); have n1_ := mkA (hbox); have n2_ := mkA ((by rw [hg]; exact (below_size (bs0_ HB.out)) : w.heap.size ≤ gb299)); have n3_ := mkA ((by rw [hg]; exact (below_size (bs0_ HB.out)) : w.heap.size ≤ gb299)); clear HB; have HB := n0_; have BK299 := n1_; have GW299 := n2_; have GE299 := n3_; clear n0_ n1_ n2_ n3_; clear hb hbox hg) | ((with_reducible refine gate_dst (N := 5) rfl ?_); refine box_event ?hg (N := 5) ?hd (cs := #[.int .i64 a1_0, .int .i64 a1_1, .int .i64 a1_2]) (t := 31) ?hr ?_; (case hd => rfl); (case hg => rfl); (case hr => first | (go_simp; done) | (go_simp; rfl)); intro gb300 hg w9 hbox hb; have n0_ := mkA (blk_below (g := gb299) (o := .cells #[.int .i64 a0_0, .int .i64 a0_1, .slice A0_2 l0_2.length c0_2] 29 (0, 0)) (bl_ BK299.out) hb); have n1_ := mkA (below_step (bs1_ HB.out GE299.out) hb); have n2_ := mkA (hbox); have n3_ := mkA ((by rw [hg]; exact (below_size (bs1_ HB.out GE299.out)) : w.heap.size ≤ gb300)); have n4_ := mkA ((by rw [hg]; exact (below_size (bs1_ HB.out GE299.out)) : w.heap.size ≤ gb300)); have n5_ := mkA ((by rw [hg]; exact Nat.ne_of_lt (blk_lt (g := gb299) (o := .cells #[.int .i64 a0_0, .int .i64 a0_1, .slice A0_2 l0_2.length c0_2] 29 (0, 0)) (bl_ BK299.out)) : gb299 ≠ gb300)); have n6_ := mkA ((by rw [hg]; exact Nat.ne_of_gt (blk_lt (g := gb299) (o := .cells #[.int .i64 a0_0, .int .i64 a0_1, .slice A0_2 l0_2.length c0_2] 29 (0, 0)) (bl_ BK299.out)) : gb300 ≠ gb299)); clear BK299; clear HB; have BK299 := n0_; have HB := n1_; have BK300 := n2_; have GW300 := n3_; have GE300 := n4_; have NB299_300 := n5_; have NB300_299 := n6_; clear n0_ n1_ n2_ n3_ n4_ n5_ n6_; clear hb hbox hg; have hnb10 := NB300_299.out; have hnc10 := NB299_300.out; have hcz11_0 : w9.cell? ⟨gb300, 0, none⟩ = some (.int .i64 a1_0) := (blk_cell BK300.out 0).trans rfl; have hcz11_1 : w9.cell? ⟨gb300, 1, none⟩ = some (.int .i64 a1_1) := (blk_cell BK300.out 1).trans rfl; have hcz11_2 : w9.cell? ⟨gb300, 2, none⟩ = some (.int .i64 a1_2) := (blk_cell BK300.out 2).trans rfl; have hfz11_0 := blk_frozen BK300.out 0; have hfz11_1 := blk_frozen BK300.out 1; have hfz11_2 := blk_frozen BK300.out 2) | ((with_reducible refine gate_callee (f := 69) rfl ?_); refine goesL_ (some 15) rfl rfl Try.func69 (by kernel_rfl) rfl #[.int .i64 a1_0, .int .i64 a2, .int .i64 a3] rfl (by (try simp only [List.map_toArray, List.map_cons, List.map_nil]); first | done | rfl | (simp only [List.length_drop, List.length_take]; rfl)) ?_; (with_reducible refine (impl_turnCell.calls k a1_0 a2 a3 t301 t302 _ A5.out).mono ?_); rintro e w' ⟨rfl, ⟨nd, rfl⟩⟩; refine ⟨_, rfl, ?_⟩))
 (try (rw [drewN_self w9]; generalize hq_ : World.drewN w9 _ = w9; have n0_ : Aside0 (w9.heap[gb299]? = some (.cells #[.int .i64 a0_0, .int .i64 a0_1, .slice A0_2 l0_2.length c0_2] 29 (0, 0))) := ⟨by rw [← hq_]; exact (bl_ BK299.out)⟩; have n1_ : Aside0 (w9.heap[gb300]? = some (.cells #[.int .i64 a1_0, .int .i64 a1_1, .int .i64 a1_2] 31 (0, 0))) := ⟨by rw [← hq_]; exact (bl_ BK300.out)⟩; have n2_ : Aside0 (Below w.heap.size w w9) := ⟨by rw [← hq_]; exact (bs2_ HB.out GE299.out GE300.out)⟩; clear BK299 BK300 HB hq_; have BK299 := n0_; have BK300 := n1_; have HB := n2_; clear n0_ n1_ n2_))
 have n0_ := mkA (blk_drew BK299.out)
 have n1_ := mkA (blk_drew BK300.out)
 have n2_ := mkA (below_drew1 HB.out)
 clear BK299
 clear BK300
 clear HB
 have BK299 := n0_
 have BK300 := n1_
 have HB := n2_
 clear n0_ n1_ n2_
 refine start_ (n := 16) (S := fun w' => w'.cell? ⟨gb300, 0, none⟩ = some (.int .i64 a1_0) ∧ w'.cell? ⟨gb300, 1, none⟩ = some (.int .i64 a1_1) ∧ w'.cell? ⟨gb300, 2, none⟩ = some (.int .i64 a1_2) ∧ w'.cell? ⟨gb299, 0, none⟩ = some (.int .i64 a0_0) ∧ w'.cell? ⟨gb299, 1, none⟩ = some (.int .i64 a0_1) ∧ w'.cell? ⟨gb299, 2, none⟩ = some (.slice A0_2 l0_2.length c0_2)) (ds := []) impl_moveCell.d0 (by kernel_rfl) rfl rfl ⟨(blk_cell BK300.out 0).trans rfl, (blk_cell BK300.out 1).trans rfl, (blk_cell BK300.out 2).trans rfl, (blk_cell BK299.out 0).trans rfl, (blk_cell BK299.out 1).trans rfl, (blk_cell BK299.out 2).trans rfl⟩ (fun hHeld => ?_); refine with_tabW impl_moveCell.tab2 impl_moveCell.bits2 (fun HT_ HW_ => ?_)
 generalize w9.drew = w12 at BK299 BK300 HB hHeld ⊢
 refine p1_ HT_.out 0 18 impl_moveCell.d1 ?_
 refine p1_ HT_.out 1 19 impl_moveCell.d2 ?_
 refine p1_ HT_.out 4 22 impl_moveCell.d3 ?_
 refine p1_ HT_.out 7 25 impl_moveCell.d4 ?_
 refine p1_ HT_.out 8 26 impl_moveCell.d5 ?_
 refine p1_ HT_.out 11 29 impl_moveCell.d6 ?_
 refine take_ (i := 2) (N := some 20) (v := ?_) (a' := ?_) impl_moveCell.d7 rfl rfl (take_ofW HT_.out HW_.out (by kernel_rfl)) (fun _ _ _ h => h) (Or.inl ⟨by rfl, ?_⟩) hHeld ?_ ?_
 rotate_left
 · rintro w' ⟨s0, s1, s2, s3, s4, s5⟩
   go_simp
   with_reducible rfl
 rotate_left
 · simp only [Act.put, sA, sB, sC, i64_w, i32_w]
   rfl
 refine p1_ HT_.out 3 21 impl_moveCell.d8 ?_
 refine take_ (i := 5) (N := some 23) (v := ?_) (a' := ?_) impl_moveCell.d9 rfl rfl (take_ofW HT_.out HW_.out (by kernel_rfl)) (fun _ _ _ h => h) (Or.inl ⟨by rfl, ?_⟩) hHeld ?_ ?_
 rotate_left
 · rintro w' ⟨s0, s1, s2, s3, s4, s5⟩
   go_simp
   with_reducible rfl
 rotate_left
 · simp only [Act.put, sA, sB, sC, i64_w, i32_w]
   rfl
 refine take_ (i := 9) (N := some 27) (v := ?_) (a' := ?_) impl_moveCell.d10 rfl rfl (take_ofW HT_.out HW_.out (by kernel_rfl)) (fun _ _ _ h => h) (Or.inl ⟨by rfl, ?_⟩) hHeld ?_ ?_
 rotate_left
 · rintro w' ⟨s0, s1, s2, s3, s4, s5⟩
   go_simp
   with_reducible rfl
 rotate_left
 · simp only [Act.put, sA, sB, sC, i64_w, i32_w]
   rfl
 refine p1_ HT_.out 10 28 impl_moveCell.d11 ?_
 refine take_ (i := 12) (N := some 30) (v := ?_) (a' := ?_) impl_moveCell.d12 rfl rfl (take_ofW HT_.out HW_.out (by kernel_rfl)) (fun _ _ _ h => h) (Or.inl ⟨by rfl, ?_⟩) hHeld ?_ ?_
 rotate_left
 · rintro w' ⟨s0, s1, s2, s3, s4, s5⟩
   go_simp
   with_reducible rfl
 rotate_left
 · simp only [Act.put, sA, sB, sC, i64_w, i32_w]
   rfl
 refine one_ (i := 6) (N := some 24) impl_moveCell.d13 rfl rfl (one_of HT_.out (by kernel_rfl)) (by decide) (fun K hK => ?_)
 refine goes_ Try.func71 (by kernel_rfl) rfl #[.int .i64 (wrap64 (t301 + a1_1)), .int .i64 a0_0] (by rfl) rfl rfl (by (try simp only [List.map_toArray, List.map_cons, List.map_nil]); first | done | rfl | (simp only [List.length_drop, List.length_take]; rfl)) ?_
 with_reducible refine (impl_rest.calls (wrap64 (t301 + a1_1)) a0_0 t303 _ A6.out).mono ?_
 rintro e w' ⟨rfl, ⟨nd, rfl⟩⟩
 refine ⟨_, rfl, ?_⟩
 refine hK.out _ _ ⟨(blk_cell BK300.out 0).trans rfl, (blk_cell BK300.out 1).trans rfl, (blk_cell BK300.out 2).trans rfl, (blk_cell BK299.out 0).trans rfl, (blk_cell BK299.out 1).trans rfl, (blk_cell BK299.out 2).trans rfl⟩ (fun hHeld => ?_)
 clear hK K
 refine norm_ (a' := ?_) ?_ ?_
 rotate_left
 · show Act.put _ (some 24) _ = _
   simp only [Act.put, sA, sB, sC, i64_w, i32_w]
   rfl
 refine one_ (i := 13) (N := some 31) impl_moveCell.d14 rfl rfl (one_of HT_.out (by kernel_rfl)) (by decide) (fun K hK => ?_)
 refine goes_ Try.func71 (by kernel_rfl) rfl #[.int .i64 (wrap64 (t302 + a1_2)), .int .i64 a0_1] (by rfl) rfl rfl (by (try simp only [List.map_toArray, List.map_cons, List.map_nil]); first | done | rfl | (simp only [List.length_drop, List.length_take]; rfl)) ?_
 with_reducible refine (impl_rest.calls (wrap64 (t302 + a1_2)) a0_1 t304 _ A7.out).mono ?_
 rintro e w' ⟨rfl, ⟨nd, rfl⟩⟩
 refine ⟨_, rfl, ?_⟩
 refine hK.out _ _ ⟨(blk_cell BK300.out 0).trans rfl, (blk_cell BK300.out 1).trans rfl, (blk_cell BK300.out 2).trans rfl, (blk_cell BK299.out 0).trans rfl, (blk_cell BK299.out 1).trans rfl, (blk_cell BK299.out 2).trans rfl⟩ (fun hHeld => ?_)
 clear hK K
 refine norm_ (a' := ?_) ?_ ?_
 rotate_left
 · show Act.put _ (some 31) _ = _
   simp only [Act.put, sA, sB, sC, i64_w, i32_w]
   rfl
 refine p1_ HT_.out 14 8 impl_moveCell.d15 ?_
 refine p1_ HT_.out 15 9 impl_moveCell.d16 ?_
 refine done_ (done_of HT_.out (by kernel_rfl)) ?_
 try go_wp2
 go_ret2
 exact ⟨by first | rfl | (simp [errW_none, errW_some] <;> rfl) | (simp [*, errW_none, errW_some] <;> rfl), by repeat (first | (with_reducible first | exact HB.out | apply below_alloc | apply pw_below_drewN | apply below_drew1 | refine below_set ?_ GE299.out | refine below_set ?_ GE300.out) | exact HB.out)⟩

/-! ### impl_tileAt: function 64 -/
def impl_tileAt.f (a0_0 : Int) (a0_1 : Int) (l0_2 : List Int) (a1 : Int) (a2 : Int) : Option (Int) := (impl_rest.f a2 a0_1).bind fun t306 => ((impl_rest.f a1 a0_0).bind fun t307 => (if 0 ≤ (wrap64 ((wrap64 (t306 * a0_0)) + t307)) then (if (wrap64 ((wrap64 (t306 * a0_0)) + t307)) < (l0_2.length : Int) then (some (rd l0_2 (wrap64 ((wrap64 (t306 * a0_0)) + t307)))) else (none)) else (none)))
def impl_tileAt.T1 : Bool × List (List Nat × List Nat) := (true, [([], []), ([0], [0]), ([], []), ([], []), ([3], [3]), ([2, 4], [2, 4]), ([], []), ([6], [6]), ([5, 7], [5, 7]), ([], []), ([], []), ([10], [10]), ([9, 11, 5], [9, 11]), ([8, 12], [8, 12]), ([1, 13], [1, 13]), ([14], [14]), ([15, 12, 0, 1, 2, 3, 4, 5, 6, 7, 8, 9, 10, 11, 12, 13, 14, 15], [15])])
def impl_tileAt.B1 : List Nat := [0, 1, 0, 0, 8, 28, 0, 64, 252, 0, 0, 1024, 3644, 8188, 16383, 32767, 65535]
theorem impl_tileAt.tab1 : rtab .any (opsOf Try.f64 1) = impl_tileAt.T1 := by kernel_rfl
theorem impl_tileAt.bits1 : waitsOk impl_tileAt.T1.2 impl_tileAt.B1 = true := by kernel_rfl
open List renaming setIfInBounds_toArray → sA, set_cons_zero → sB, set_cons_succ → sC
open Go.Proofs.YtnidibnhojedoaaW.PrintWords.Aside0 renaming mk → mkA
open Go.Proofs.YtnidibnhojedoaaX (dt_ bc_ p0_ p1_ bl_ cb_ bs0_ bs1_ bs2_ bs3_ bs4_ bs5_ bs6_ bs7_ bs8_ bs9_ bs10_ bs11_ bs12_)
abbrev impl_tileAt.d0 : Array Bool := #[false, false, false, false, false, false, false, false, false, false, false, false, false, false, false, false, false]
abbrev impl_tileAt.d1 : Array Bool := #[true, false, false, false, false, false, false, false, false, false, false, false, false, false, false, false, false]
abbrev impl_tileAt.d2 : Array Bool := #[true, false, true, false, false, false, false, false, false, false, false, false, false, false, false, false, false]
abbrev impl_tileAt.d3 : Array Bool := #[true, false, true, true, false, false, false, false, false, false, false, false, false, false, false, false, false]
abbrev impl_tileAt.d4 : Array Bool := #[true, false, true, true, false, false, true, false, false, false, false, false, false, false, false, false, false]
abbrev impl_tileAt.d5 : Array Bool := #[true, false, true, true, false, false, true, false, false, true, false, false, false, false, false, false, false]
abbrev impl_tileAt.d6 : Array Bool := #[true, false, true, true, false, false, true, false, false, true, true, false, false, false, false, false, false]
abbrev impl_tileAt.d7 : Array Bool := #[true, true, true, true, false, false, true, false, false, true, true, false, false, false, false, false, false]
abbrev impl_tileAt.d8 : Array Bool := #[true, true, true, true, true, false, true, false, false, true, true, false, false, false, false, false, false]
abbrev impl_tileAt.d9 : Array Bool := #[true, true, true, true, true, false, true, true, false, true, true, false, false, false, false, false, false]
abbrev impl_tileAt.d10 : Array Bool := #[true, true, true, true, true, false, true, true, false, true, true, true, false, false, false, false, false]
abbrev impl_tileAt.d11 : Array Bool := #[true, true, true, true, true, true, true, true, false, true, true, true, false, false, false, false, false]
abbrev impl_tileAt.d12 : Array Bool := #[true, true, true, true, true, true, true, true, true, true, true, true, false, false, false, false, false]
abbrev impl_tileAt.d13 : Array Bool := #[true, true, true, true, true, true, true, true, true, true, true, true, true, false, false, false, false]
abbrev impl_tileAt.d14 : Array Bool := #[true, true, true, true, true, true, true, true, true, true, true, true, true, true, false, false, false]
abbrev impl_tileAt.d15 : Array Bool := #[true, true, true, true, true, true, true, true, true, true, true, true, true, true, true, false, false]
abbrev impl_tileAt.d16 : Array Bool := #[true, true, true, true, true, true, true, true, true, true, true, true, true, true, true, true, false]
abbrev impl_tileAt.d17 : Array Bool := #[true, true, true, true, true, true, true, true, true, true, true, true, true, true, true, true, true]
set_option maxHeartbeats 8000000 in
set_option maxRecDepth 100000 in
theorem impl_tileAt.calls (a0_0 : Int) (a0_1 : Int) (A0_2 : Option Addr) (c0_2 : Nat) (l0_2 : List Int) (a1 : Int) (a2 : Int) (r : Int) (w : World) (hr0_2 : Kd.C (Kd.int .i64) w A0_2 l0_2.length l0_2) (hc0_2 : l0_2.length ≤ c0_2) (h : impl_tileAt.f a0_0 a0_1 l0_2 a1 a2 = some r) :
 Calls Try.prog 64 #[.agg #[.int .i64 a0_0, .int .i64 a0_1, .slice A0_2 l0_2.length c0_2], .int .i64 a1, .int .i64 a2] w fun e w' => e = .returned (.int .i64 r) ∧ Below w.heap.size w w' := by
 have hu29 := Try.underlying29
 have HR0_2 := mkA hr0_2
 have HC0_2 := mkA hc0_2
 clear hr0_2 hc0_2
 have HB := mkA (Below.refl w.heap.size w)
 have H : ((impl_rest.f a2 a0_1).bind fun t306 => ((impl_rest.f a1 a0_0).bind fun t307 => (if 0 ≤ (wrap64 ((wrap64 (t306 * a0_0)) + t307)) then (if (wrap64 ((wrap64 (t306 * a0_0)) + t307)) < (l0_2.length : Int) then (some (rd l0_2 (wrap64 ((wrap64 (t306 * a0_0)) + t307)))) else (none)) else (none)))) = some r := h
 clear h
 replace H := Option.bind_eq_some_iff.mp H
 obtain ⟨t306, A40, H⟩ := H
 replace H : ((impl_rest.f a1 a0_0).bind fun t307 => (if 0 ≤ (wrap64 ((wrap64 (t306 * a0_0)) + t307)) then (if (wrap64 ((wrap64 (t306 * a0_0)) + t307)) < (l0_2.length : Int) then (some (rd l0_2 (wrap64 ((wrap64 (t306 * a0_0)) + t307)))) else (none)) else (none))) = some r := H
 have A4 := mkA A40
 clear A40
 replace H := Option.bind_eq_some_iff.mp H
 obtain ⟨t307, A50, H⟩ := H
 replace H : (if 0 ≤ (wrap64 ((wrap64 (t306 * a0_0)) + t307)) then (if (wrap64 ((wrap64 (t306 * a0_0)) + t307)) < (l0_2.length : Int) then (some (rd l0_2 (wrap64 ((wrap64 (t306 * a0_0)) + t307)))) else (none)) else (none)) = some r := H
 have A5 := mkA A50
 clear A50
 obtain ⟨ji6, hji6⟩ : ∃ j_ : Int, (wrap64 ((wrap64 (t306 * a0_0)) + t307)) = j_ := ⟨_, rfl⟩
 replace H : (if 0 ≤ (ji6) then (if (ji6) < (l0_2.length : Int) then (some (rd l0_2 (ji6))) else (none)) else (none)) = some r := by first | (rw [hji6] at H; exact H) | (simp only [hji6] at H ⊢; exact H)
 (try rw [hji6] at A4)
 (try rw [hji6] at A5)
 have hji6w : (IntKind.i64.wrap ((wrap64 (t306 * a0_0)) + t307)) = ji6 := (i64_w _).trans hji6
 by_cases c7 : 0 ≤ (ji6)
 rotate_left
 · rw [if_neg c7] at H
   exact absurd H (by simp)

 rw [if_pos c7] at H
 have c7b0 : decide (0 ≤ (ji6)) = true := decide_eq_true c7
 clear c7
 by_cases c8 : (ji6) < (l0_2.length : Int)
 rotate_left
 · rw [if_neg c8] at H
   exact absurd H (by simp)
 rw [if_pos c8] at H
 have c8b0 : decide ((ji6) < (l0_2.length : Int)) = true := decide_eq_true c8
 clear c8
 obtain rfl := Option.some.inj H
 go_enter Try.func64, Try.ntmps64
 try go_wp2_with (first | ((with_reducible refine gate_dst (N := 3) rfl ?_); refine box_event ?hg (N := 3) ?hd (cs := #[.int .i64 a0_0, .int .i64 a0_1, .slice A0_2 l0_2.length c0_2]) (t := 29) ?hr ?_; (case hd => rfl); (case hg => rfl); (case hr => first | (go_simp; done) | (go_simp; rfl)); intro gb305 hg w9 hbox hb; have n0_ := mkA (below_step (bs0_ HB.out) hb); have n1_ := mkA (hbox); have n2_ := mkA ((by rw [hg]; exact (below_size (bs0_ HB.out)) : w.heap.size ≤ gb305)); have n3_ := mkA ((by rw [hg]; exact (below_size (bs0_ HB.out)) : w.heap.size ≤ gb305)); clear HB; have HB := n0_; have BK305 := n1_; have GW305 := n2_; have GE305 := n3_; clear n0_ n1_ n2_ n3_; clear hb hbox hg))
 have n0_ := mkA (blk_drew BK305.out)
 have n1_ := mkA (below_drew1 HB.out)
 clear BK305
 clear HB
 have BK305 := n0_
 have HB := n1_
 clear n0_ n1_
 have p308 : 0 ≤ ((ji6) : Int) := dt_
 have q308 : (ji6) < (l0_2.length : Int) := dt_
 obtain ⟨ad308, e308, hx308_0⟩ := Kd.at_int HR0_2.out (ji6) p308 q308
 have hw308_0 := hx308_0
 cases e308
 replace hx308_0 := bc_ HB.out hx308_0
 replace p308 := eq_true p308
 replace q308 := eq_true q308
 refine start_ (n := 17) (S := fun w' => w'.cell? ⟨gb305, 0, none⟩ = some (.int .i64 a0_0) ∧ w'.cell? ⟨gb305, 1, none⟩ = some (.int .i64 a0_1) ∧ w'.cell? ⟨gb305, 2, none⟩ = some (.slice (some ad308) l0_2.length c0_2) ∧ w'.cell? (ad308.add ((ji6)).toNat) = some (.int .i64 (rd l0_2 (ji6)))) (ds := []) impl_tileAt.d0 (by kernel_rfl) rfl rfl ⟨(blk_cell BK305.out 0).trans rfl, (blk_cell BK305.out 1).trans rfl, (blk_cell BK305.out 2).trans rfl, (bc_ HB.out hw308_0 :)⟩ (fun hHeld => ?_); refine with_tabW impl_tileAt.tab1 impl_tileAt.bits1 (fun HT_ HW_ => ?_)
 generalize w9.drew = w10 at BK305 HB hx308_0 hHeld ⊢
 refine p1_ HT_.out 0 7 impl_tileAt.d1 ?_
 refine p1_ HT_.out 2 9 impl_tileAt.d2 ?_
 refine p1_ HT_.out 3 10 impl_tileAt.d3 ?_
 refine p1_ HT_.out 6 13 impl_tileAt.d4 ?_
 refine p1_ HT_.out 9 16 impl_tileAt.d5 ?_
 refine p1_ HT_.out 10 17 impl_tileAt.d6 ?_
 refine take_ (i := 1) (N := some 8) (v := ?_) (a' := ?_) impl_tileAt.d7 rfl rfl (take_ofW HT_.out HW_.out (by kernel_rfl)) (fun _ _ _ h => h) (Or.inl ⟨by rfl, ?_⟩) hHeld ?_ ?_
 rotate_left
 · rintro w' ⟨s0, s1, s2, s3⟩
   go_simp
   with_reducible rfl
 rotate_left
 · simp only [Act.put, sA, sB, sC, i64_w, i32_w]
   rfl
 refine take_ (i := 4) (N := some 11) (v := ?_) (a' := ?_) impl_tileAt.d8 rfl rfl (take_ofW HT_.out HW_.out (by kernel_rfl)) (fun _ _ _ h => h) (Or.inl ⟨by rfl, ?_⟩) hHeld ?_ ?_
 rotate_left
 · rintro w' ⟨s0, s1, s2, s3⟩
   go_simp
   with_reducible rfl
 rotate_left
 · simp only [Act.put, sA, sB, sC, i64_w, i32_w]
   rfl
 refine take_ (i := 7) (N := some 14) (v := ?_) (a' := ?_) impl_tileAt.d9 rfl rfl (take_ofW HT_.out HW_.out (by kernel_rfl)) (fun _ _ _ h => h) (Or.inl ⟨by rfl, ?_⟩) hHeld ?_ ?_
 rotate_left
 · rintro w' ⟨s0, s1, s2, s3⟩
   go_simp
   with_reducible rfl
 rotate_left
 · simp only [Act.put, sA, sB, sC, i64_w, i32_w]
   rfl
 refine take_ (i := 11) (N := some 18) (v := ?_) (a' := ?_) impl_tileAt.d10 rfl rfl (take_ofW HT_.out HW_.out (by kernel_rfl)) (fun _ _ _ h => h) (Or.inl ⟨by rfl, ?_⟩) hHeld ?_ ?_
 rotate_left
 · rintro w' ⟨s0, s1, s2, s3⟩
   go_simp
   with_reducible rfl
 rotate_left
 · simp only [Act.put, sA, sB, sC, i64_w, i32_w]
   rfl
 refine one_ (i := 5) (N := some 12) impl_tileAt.d11 rfl rfl (one_of HT_.out (by kernel_rfl)) (by decide) (fun K hK => ?_)
 refine goes_ Try.func71 (by kernel_rfl) rfl #[.int .i64 a2, .int .i64 a0_1] (by rfl) rfl rfl (by (try simp only [List.map_toArray, List.map_cons, List.map_nil]); first | done | rfl | (simp only [List.length_drop, List.length_take]; rfl)) ?_
 with_reducible refine (impl_rest.calls a2 a0_1 t306 _ A4.out).mono ?_
 rintro e w' ⟨rfl, ⟨nd, rfl⟩⟩
 refine ⟨_, rfl, ?_⟩
 refine hK.out _ _ ⟨(blk_cell BK305.out 0).trans rfl, (blk_cell BK305.out 1).trans rfl, (blk_cell BK305.out 2).trans rfl, (bc_ HB.out hw308_0 :)⟩ (fun hHeld => ?_)
 clear hK K
 refine norm_ (a' := ?_) ?_ ?_
 rotate_left
 · show Act.put _ (some 12) _ = _
   simp only [Act.put, sA, sB, sC, i64_w, i32_w]
   rfl
 refine p1_ HT_.out 8 15 impl_tileAt.d12 ?_
 refine one_ (i := 12) (N := some 19) impl_tileAt.d13 rfl rfl (one_of HT_.out (by kernel_rfl)) (by decide) (fun K hK => ?_)
 refine goes_ Try.func71 (by kernel_rfl) rfl #[.int .i64 a1, .int .i64 a0_0] (by rfl) rfl rfl (by (try simp only [List.map_toArray, List.map_cons, List.map_nil]); first | done | rfl | (simp only [List.length_drop, List.length_take]; rfl)) ?_
 with_reducible refine (impl_rest.calls a1 a0_0 t307 _ A5.out).mono ?_
 rintro e w' ⟨rfl, ⟨nd, rfl⟩⟩
 refine ⟨_, rfl, ?_⟩
 refine hK.out _ _ ⟨(blk_cell BK305.out 0).trans rfl, (blk_cell BK305.out 1).trans rfl, (blk_cell BK305.out 2).trans rfl, (bc_ HB.out hw308_0 :)⟩ (fun hHeld => ?_)
 clear hK K
 refine norm_ (a' := ?_) ?_ ?_
 rotate_left
 · show Act.put _ (some 19) _ = _
   simp only [Act.put, sA, sB, sC, i64_w, i32_w]
   rfl
 refine p1_ HT_.out 13 20 impl_tileAt.d14 ?_
 refine p1_ HT_.out 14 21 impl_tileAt.d15 ?_
 refine take_ (i := 15) (N := some 22) (v := ?_) (a' := ?_) impl_tileAt.d16 rfl rfl (take_ofW HT_.out HW_.out (by kernel_rfl)) (fun _ _ _ h => h) (Or.inl ⟨by rfl, ?_⟩) hHeld ?_ ?_
 rotate_left
 · rintro w' ⟨s0, s1, s2, s3⟩
   go_simp
   with_reducible rfl
 rotate_left
 · simp only [Act.put, sA, sB, sC, i64_w, i32_w]
   rfl
 refine p1_ HT_.out 16 6 impl_tileAt.d17 ?_
 refine done_ (done_of HT_.out (by kernel_rfl)) ?_
 try go_wp2
 go_ret
 exact ⟨by first | rfl | (simp [errW_none, errW_some] <;> rfl) | (simp only [← hji6]; first | rfl | (simp [errW_none, errW_some] <;> rfl)) | (simp [*, errW_none, errW_some] <;> rfl), by repeat (first | (with_reducible first | exact HB.out | apply below_alloc | apply pw_below_drewN | apply below_drew1 | refine below_set ?_ GE305.out) | exact HB.out)⟩
end Go.Proofs.Ytnidibnhojedoaa.GFnExactSymmetriesOf

-- Written by the session's own program (gen.py) out of the translation's print. Lean checks it.
import Derived.Test.YtopopjkoanpjiaaGFnExactTileNeighboursx0
import Derived.Test.YtopopjkoanpjiaaGFnExactTileNeighboursx6
import Derived.Test.YtopopjkoanpjiaaGFnExactTileNeighboursx7
namespace Go.Proofs.Ytopopjkoanpjiaa.GFnExactTileNeighbours
open Go.RowKit Go.Proofs.YtopopjkoanpjiaaW.PrintWords Go.Proofs.YtopopjkoanpjiaaW.PrintLast Go.Proofs.YtopopjkoanpjiaaW.PrintMore
attribute [local go_sem] max2_int min2_int max_two min_two max_three min_three max_four min_four   -- for this text's walks alone
set_option linter.unusedVariables false
set_option linter.unusedSimpArgs false

/-! ### impl_tileNeighbours: function 22 -/
mutual
def impl_tileNeighbours.l0 : Nat → List (List Int) → List Int → Int → Int → Int → Int → List Int → Option ((List (List Int)))
  | 0, _, _, _, _, _, _, _ => none
  | k + 1, x3, x14, x15, x16, x261000, x261001, x261002 => if x16 < x15 then (if 0 ≤ x16 then (if x16 < (x14.length : Int) then ((impl_touchingCells.f x261000 x261001 x261002 x16).bind fun bt266 => (impl_tileNeighbours.l1 k x3 (rd x14 x16) x14 x15 x16 0 bt266.1 bt266.2.1 bt266.2.2.1 bt266.2.2.2 x261000 x261001 x261002)) else (none)) else (none)) else (impl_tileNeighbours.l2 k x3 (x3.length : Int) 0)
def impl_tileNeighbours.l1 : Nat → List (List Int) → Int → List Int → Int → Int → Int → Int → Int → Int → Int → Int → Int → List Int → Option ((List (List Int)))
  | 0, _, _, _, _, _, _, _, _, _, _, _, _, _ => none
  | k + 1, x3, x5, x14, x15, x16, x24, x516, x517, x518, x519, x261000, x261001, x261002 => if x24 < 4 then (if 0 ≤ x24 then (if 0 ≤ (rd [x516, x517, x518, x519] x24) then (if (rd [x516, x517, x518, x519] x24) < (x261002.length : Int) then (if (rd x261002 (rd [x516, x517, x518, x519] x24)) = x5 then (impl_tileNeighbours.l1 k x3 x5 x14 x15 x16 (wrap64 (x24 + 1)) x516 x517 x518 x519 x261000 x261001 x261002) else (if 0 ≤ x5 then (if x5 < (x3.length : Int) then (if (rd_L1 x3 x5).length < 17592186044416 then (impl_tileNeighbours.l1 k (x3.set (x5 : Int).toNat ((rd_L1 x3 x5) ++ [rd x261002 (rd [x516, x517, x518, x519] x24)])) x5 x14 x15 x16 (wrap64 (x24 + 1)) x516 x517 x518 x519 x261000 x261001 x261002) else (none)) else (none)) else (none))) else (none)) else (none)) else (none)) else (impl_tileNeighbours.l0 k x3 x14 x15 (wrap64 (x16 + 1)) x261000 x261001 x261002)
def impl_tileNeighbours.l2 : Nat → List (List Int) → Int → Int → Option ((List (List Int)))
  | 0, _, _, _ => none
  | k + 1, x3, x48, x49 => if x49 < x48 then (if 0 ≤ x49 then (if x49 < (x3.length : Int) then ((Go.Proofs.YtopopjkoanpjiaaX.slices_Sort.f (rd_L1 x3 x49)).bind fun t500 => ((Go.Proofs.YtopopjkoanpjiaaX.slices_Compact.f t500).bind fun t501 => (impl_tileNeighbours.l2 k (x3.set (x49 : Int).toNat t501) x48 (wrap64 (x49 + 1))))) else (none)) else (none)) else (some x3)
end
def impl_tileNeighbours.f (k : Nat) (a0_0 : Int) (a0_1 : Int) (l0_2 : List Int) : Option ((List (List Int))) := (impl_tiles.f k a0_0 a0_1 l0_2).bind fun t261 => (if 0 ≤ t261 then (if (t261 : Int).toNat ≤ 11728124029610 then (impl_tileNeighbours.l0 k (List.replicate (t261 : Int).toNat []) l0_2 (l0_2.length : Int) 0 a0_0 a0_1 l0_2) else (none)) else (none))
theorem impl_tileNeighbours.mono_l : ∀ k, (∀ y0 y1 y2 y3 y4 y5 y6, LeO (impl_tileNeighbours.l0 k y0 y1 y2 y3 y4 y5 y6) (impl_tileNeighbours.l0 (k + 1) y0 y1 y2 y3 y4 y5 y6)) ∧ (∀ y0 y1 y2 y3 y4 y5 y6 y7 y8 y9 y10 y11 y12, LeO (impl_tileNeighbours.l1 k y0 y1 y2 y3 y4 y5 y6 y7 y8 y9 y10 y11 y12) (impl_tileNeighbours.l1 (k + 1) y0 y1 y2 y3 y4 y5 y6 y7 y8 y9 y10 y11 y12)) ∧ (∀ y0 y1 y2, LeO (impl_tileNeighbours.l2 k y0 y1 y2) (impl_tileNeighbours.l2 (k + 1) y0 y1 y2))
  | 0 => ⟨fun _ _ _ _ _ _ _ r h => by simp [impl_tileNeighbours.l0] at h, fun _ _ _ _ _ _ _ _ _ _ _ _ _ r h => by simp [impl_tileNeighbours.l1] at h, fun _ _ _ r h => by simp [impl_tileNeighbours.l2] at h⟩
  | k + 1 => by
    obtain ⟨ih0, ih1, ih2⟩ := impl_tileNeighbours.mono_l k
    refine ⟨?_, ?_, ?_⟩
    · intro y0 y1 y2 y3 y4 y5 y6
      unfold impl_tileNeighbours.l0
      repeat' first
      | (with_reducible exact ih0 _ _ _ _ _ _ _)
      | (with_reducible exact ih1 _ _ _ _ _ _ _ _ _ _ _ _ _)
      | (with_reducible exact ih2 _ _ _)
      | (with_reducible exact impl_tiles.mono _ _ _ _)
      | (with_reducible exact LeO.refl _)
      | (with_reducible exact LeO.none _)
      | (with_reducible refine LeO.ite ?_ ?_)
      | (with_reducible refine LeO.bind ?_ (fun _ => ?_))
      | exact ih0 _ _ _ _ _ _ _
      | exact ih1 _ _ _ _ _ _ _ _ _ _ _ _ _
      | exact ih2 _ _ _
      | exact impl_tiles.mono _ _ _ _
      | exact LeO.none _
      | refine LeO.ite ?_ ?_
      | refine LeO.bind ?_ (fun _ => ?_)
    · intro y0 y1 y2 y3 y4 y5 y6 y7 y8 y9 y10 y11 y12
      unfold impl_tileNeighbours.l1
      repeat' first
      | (with_reducible exact ih0 _ _ _ _ _ _ _)
      | (with_reducible exact ih1 _ _ _ _ _ _ _ _ _ _ _ _ _)
      | (with_reducible exact ih2 _ _ _)
      | (with_reducible exact impl_tiles.mono _ _ _ _)
      | (with_reducible exact LeO.refl _)
      | (with_reducible exact LeO.none _)
      | (with_reducible refine LeO.ite ?_ ?_)
      | (with_reducible refine LeO.bind ?_ (fun _ => ?_))
      | exact ih0 _ _ _ _ _ _ _
      | exact ih1 _ _ _ _ _ _ _ _ _ _ _ _ _
      | exact ih2 _ _ _
      | exact impl_tiles.mono _ _ _ _
      | exact LeO.none _
      | refine LeO.ite ?_ ?_
      | refine LeO.bind ?_ (fun _ => ?_)
    · intro y0 y1 y2
      unfold impl_tileNeighbours.l2
      repeat' first
      | (with_reducible exact ih0 _ _ _ _ _ _ _)
      | (with_reducible exact ih1 _ _ _ _ _ _ _ _ _ _ _ _ _)
      | (with_reducible exact ih2 _ _ _)
      | (with_reducible exact impl_tiles.mono _ _ _ _)
      | (with_reducible exact LeO.refl _)
      | (with_reducible exact LeO.none _)
      | (with_reducible refine LeO.ite ?_ ?_)
      | (with_reducible refine LeO.bind ?_ (fun _ => ?_))
      | exact ih0 _ _ _ _ _ _ _
      | exact ih1 _ _ _ _ _ _ _ _ _ _ _ _ _
      | exact ih2 _ _ _
      | exact impl_tiles.mono _ _ _ _
      | exact LeO.none _
      | refine LeO.ite ?_ ?_
      | refine LeO.bind ?_ (fun _ => ?_)
theorem impl_tileNeighbours.mono : ∀ a0 a1 a2 k, LeO (impl_tileNeighbours.f k a0 a1 a2) (impl_tileNeighbours.f (k + 1) a0 a1 a2) := by
  intro a0 a1 a2 k
  obtain ⟨ih0, ih1, ih2⟩ := impl_tileNeighbours.mono_l k
  unfold impl_tileNeighbours.f
  repeat' first
      | (with_reducible exact ih0 _ _ _ _ _ _ _)
      | (with_reducible exact ih1 _ _ _ _ _ _ _ _ _ _ _ _ _)
      | (with_reducible exact ih2 _ _ _)
      | (with_reducible exact impl_tiles.mono _ _ _ _)
      | (with_reducible exact LeO.refl _)
      | (with_reducible exact LeO.none _)
      | (with_reducible refine LeO.ite ?_ ?_)
      | (with_reducible refine LeO.bind ?_ (fun _ => ?_))
      | exact ih0 _ _ _ _ _ _ _
      | exact ih1 _ _ _ _ _ _ _ _ _ _ _ _ _
      | exact ih2 _ _ _
      | exact impl_tiles.mono _ _ _ _
      | exact LeO.none _
      | refine LeO.ite ?_ ?_
      | refine LeO.bind ?_ (fun _ => ?_)
open List renaming setIfInBounds_toArray → sA, set_cons_zero → sB, set_cons_succ → sC
open Go.Proofs.YtopopjkoanpjiaaW.PrintWords.Aside0 renaming mk → mkA
open Go.Proofs.YtopopjkoanpjiaaX (dt_ bc_ p0_ p1_ bl_ cb_ bs0_ bs1_ bs2_ bs3_ bs4_ bs5_ bs6_ bs7_ bs8_ bs9_ bs10_ bs11_ bs12_)
set_option maxHeartbeats 8000000 in
set_option maxRecDepth 100000 in
theorem impl_tileNeighbours.calls (k : Nat) (a0_0 : Int) (a0_1 : Int) (A0_2 : Option Addr) (c0_2 : Nat) (l0_2 : List Int) (r : List (List Int)) (w : World) (hr0_2 : Kd.C (Kd.int .i64) w A0_2 l0_2.length l0_2) (hc0_2 : l0_2.length ≤ c0_2) (h : impl_tileNeighbours.f k a0_0 a0_1 l0_2 = some r) :
 Calls Try.prog 22 #[.agg #[.int .i64 a0_0, .int .i64 a0_1, .slice A0_2 l0_2.length c0_2]] w fun e w' => ∃ v0_ : Value, e = .returned (v0_) ∧ Kd.S (Kd.slice 2 (Kd.int .i64)) 22 w' w.heap.size (fun _ => True) v0_ r ∧ Below w.heap.size w w' := by
 have hu28 := Try.underlying28
 have HR0_2 := mkA hr0_2
 have HC0_2 := mkA hc0_2
 clear hr0_2 hc0_2
 have HB := mkA (Below.refl w.heap.size w)
 have H : ((impl_tiles.f k a0_0 a0_1 l0_2).bind fun t261 => (if 0 ≤ t261 then (if (t261 : Int).toNat ≤ 11728124029610 then (impl_tileNeighbours.l0 k (List.replicate (t261 : Int).toNat []) l0_2 (l0_2.length : Int) 0 a0_0 a0_1 l0_2) else (none)) else (none))) = some r := h
 clear h
 replace H := Option.bind_eq_some_iff.mp H
 obtain ⟨t261, A20, H⟩ := H
 replace H : (if 0 ≤ t261 then (if (t261 : Int).toNat ≤ 11728124029610 then (impl_tileNeighbours.l0 k (List.replicate (t261 : Int).toNat []) l0_2 (l0_2.length : Int) 0 a0_0 a0_1 l0_2) else (none)) else (none)) = some r := H
 have A2 := mkA A20
 clear A20
 by_cases c3 : 0 ≤ t261
 rotate_left
 · rw [if_neg c3] at H
   exact absurd H (by simp)

 rw [if_pos c3] at H
 have c3b0 := eq_true c3
 have c3b1 : decide (0 ≤ t261) = true := decide_eq_true c3
 clear c3
 by_cases c4 : (t261 : Int).toNat ≤ 11728124029610
 rotate_left
 · rw [if_neg c4] at H
   exact absurd H (by simp)
 rw [if_pos c4] at H
 have c4b0 := eq_true c4
 have c4b1 : decide ((t261 : Int).toNat ≤ 11728124029610) = true := decide_eq_true c4
 clear c4
 obtain ⟨y262, hy262⟩ : ∃ y_ : List (List Int), y_ = (List.replicate (t261 : Int).toNat []) := ⟨_, rfl⟩
 replace H : (impl_tileNeighbours.l0 k y262 l0_2 (l0_2.length : Int) 0 a0_0 a0_1 l0_2) = some r := by first | (rw [hy262]; with_reducible exact H) | (have H2_ := (Option.bind_some _ _).symm.trans H; rw [hy262]; with_reducible exact H2_) | (have H2_ := (Option.bind_some _ _).symm.trans H; with_reducible exact H2_) | with_reducible exact H | (rw [hy262]; exact H) | exact H
 have Ny262 := mkA hy262
 clear hy262
 have H' := mkA H
 clear H
 go_enter Try.func22, Try.ntmps22
 go_wp2_with (first | ((with_reducible refine gate_dst (N := 1) rfl ?_); refine box_event ?hg (N := 1) ?hd (cs := #[.int .i64 a0_0, .int .i64 a0_1, .slice A0_2 l0_2.length c0_2]) (t := 28) ?hr ?_; (case hd => rfl); (case hg => rfl); (case hr => first | (go_simp; done) | (go_simp; rfl)); intro gb260 hg w5 hbox hb; have n0_ := mkA (below_step (bs0_ HB.out) hb); have n1_ := mkA (hbox); have n2_ := mkA ((by rw [hg]; exact (below_size (bs0_ HB.out)) : w.heap.size ≤ gb260)); have n3_ := mkA ((by rw [hg]; exact (below_size (bs0_ HB.out)) : w.heap.size ≤ gb260)); clear HB; have HB := n0_; have BK260 := n1_; have GW260 := n2_; have GE260 := n3_; clear n0_ n1_ n2_ n3_; clear hb hbox hg; have hcz6_0 : w5.cell? ⟨gb260, 0, none⟩ = some (.int .i64 a0_0) := (blk_cell BK260.out 0).trans rfl; have hcz6_1 : w5.cell? ⟨gb260, 1, none⟩ = some (.int .i64 a0_1) := (blk_cell BK260.out 1).trans rfl; have hcz6_2 : w5.cell? ⟨gb260, 2, none⟩ = some (.slice A0_2 l0_2.length c0_2) := (blk_cell BK260.out 2).trans rfl; have hfz6_0 := blk_frozen BK260.out 0; have hfz6_1 := blk_frozen BK260.out 1; have hfz6_2 := blk_frozen BK260.out 2) | ((with_reducible refine gate_callee (f := 21) rfl ?_); refine goesL_ (some 11) rfl rfl Try.func21 (by kernel_rfl) rfl #[.agg #[.int .i64 a0_0, .int .i64 a0_1, .slice A0_2 l0_2.length c0_2]] rfl (by (try simp only [List.map_toArray, List.map_cons, List.map_nil]); first | done | rfl | (simp only [List.length_drop, List.length_take]; rfl)) ?_; (with_reducible refine (impl_tiles.calls k a0_0 a0_1 _ _ l0_2 t261 _ ?side1 ?side2 A2.out).mono ?_); (case side1 => exact cb_ HR0_2.out HB.out); (case side2 => exact HC0_2.out); rintro e w7 ⟨rfl, hb⟩; refine ⟨_, rfl, ?_⟩; have n0_ := mkA (blk_below (g := gb260) (o := .cells #[.int .i64 a0_0, .int .i64 a0_1, .slice A0_2 l0_2.length c0_2] 28 (0, 0)) (bl_ BK260.out) hb); have n1_ := mkA (below_step (bs1_ HB.out GE260.out) hb); clear BK260; clear HB; have BK260 := n0_; have HB := n1_; clear n0_ n1_; (try clear hb); (try clear hb2); (try clear hk); (try clear hi)) | ((with_reducible refine gate_dst (N := 12) rfl ?_); refine Kd.S_make (Kd.slice 2 (Kd.int .i64)) _ 22 rfl (N := 12) rfl 43 _ _ rfl t261 rfl rfl Try.underlying43 (.slice none 0 0) 24 info22 rfl (by decide) (by omega) [] (ok := fun _ => True) (okp := fun _ => True) ⟨_, rfl, Kd.R_nil _ _ _ _ _⟩ (fun _ hk => hk) trivial (dt_) (Nat.le_trans (Nat.mul_le_mul_right _ (dt_ : t261.toNat ≤ 11728124029610)) (by omega)) (Below.refl _ _) (Nat.le_refl _) ?_; intro v263 w8 ho9 hb hg_ hnew_; clear hg_ hnew_; (first | rw [← Ny262.out] at ho9 | (simp only [Int.reduceToNat] at ho9; rw [← Ny262.out] at ho9)); have n0_ := mkA (Kd.S_lower ho9 (below_size (bs1_ HB.out GE260.out))); have n1_ := mkA (blk_below (g := gb260) (o := .cells #[.int .i64 a0_0, .int .i64 a0_1, .slice A0_2 l0_2.length c0_2] 28 (0, 0)) (bl_ BK260.out) hb); have n2_ := mkA (below_step (bs1_ HB.out GE260.out) hb); clear BK260; clear HB; have HO264 := n0_; have BK260 := n1_; have HB := n2_; clear n0_ n1_ n2_; clear hb ho9; have hcz10_0 : w8.cell? ⟨gb260, 0, none⟩ = some (.int .i64 a0_0) := (blk_cell BK260.out 0).trans rfl; have hcz10_1 : w8.cell? ⟨gb260, 1, none⟩ = some (.int .i64 a0_1) := (blk_cell BK260.out 1).trans rfl; have hcz10_2 : w8.cell? ⟨gb260, 2, none⟩ = some (.slice A0_2 l0_2.length c0_2) := (blk_cell BK260.out 2).trans rfl; have hfz10_0 := blk_frozen BK260.out 0; have hfz10_1 := blk_frozen BK260.out 1; have hfz10_2 := blk_frozen BK260.out 2))
 go_loopg [16] k (fun kq v16 w' => ∃ (x3_1 : List (List Int)) (x16_1 : Int), v16 = .int .i64 x16_1 ∧ Aside0 (impl_tileNeighbours.l0 kq x3_1 l0_2 (l0_2.length : Int) x16_1 a0_0 a0_1 l0_2 = some r) ∧ Aside0 (kq ≤ k) ∧ Aside0 (Kd.S (Kd.slice 2 (Kd.int .i64)) 22 w' w.heap.size (fun _ => True) v263 x3_1) ∧ Aside0 (w'.heap[gb260]? = some (.cells #[.int .i64 a0_0, .int .i64 a0_1, (.slice A0_2 l0_2.length c0_2)] 28 (0, 0))) ∧ Aside0 (Below w.heap.size w w'))
 case atStart => exact ⟨(y262), (0), (by first | rfl | (simp; done) | (simp [*]; done) | (simp [i64_w, i32_w]; done)), H', ⟨Nat.le_refl _⟩, ⟨by (with_reducible repeat (first | apply Kd.S_alloc | apply Kd.S_drewN | apply Kd.S_drew)); exact HO264.out⟩, ⟨by (with_reducible repeat (first | refine blk_drewN ?_ _ | refine blk_drew ?_ | refine blk_alloc ?_ _)); exact BK260.out⟩, ⟨by repeat (first | (with_reducible first | exact HB.out | apply below_alloc | apply pw_below_drewN | apply below_drew1 | refine below_set ?_ GE260.out) | exact HB.out)⟩⟩
 case round =>
  clear H'
  try clear c2
  try clear p2
  try clear c3
  try clear c3b0
  try clear c3b1
  try clear c4
  try clear c4b0
  try clear c4b1
  try clear hcz10_0
  try clear hcz10_1
  try clear hcz10_2
  try clear hcz6_0
  try clear hcz6_1
  try clear hcz6_2
  try clear hfz10_0
  try clear hfz10_1
  try clear hfz10_2
  try clear hfz6_0
  try clear hfz6_1
  try clear hfz6_2
  obtain ⟨x3_1, x16_1, rfl, HA, HK1, HO_3, BK260, HB⟩ := hrel
  cases gk with
  | zero => exact absurd HA.out (by simp [impl_tileNeighbours.l0])
  | succ k1 =>
   have H := HA.out
   clear HA
   simp only [impl_tileNeighbours.l0] at H
   by_cases c11 : x16_1 < (l0_2.length : Int)
   rotate_left
   · rw [if_neg c11] at H
     have c11b0 : decide (x16_1 < (l0_2.length : Int)) = false := decide_eq_false c11
     clear c11
     have H' := mkA H
     clear H
     obtain ⟨Ao35, co35, eo35⟩ := Kd.S_slice HO_3.out
     subst eo35
     go_wp2
     go_loopg [49] k1 (fun kq v49 w' => ∃ (x3_2 : List (List Int)) (x49_2 : Int), v49 = .int .i64 x49_2 ∧ Aside0 (impl_tileNeighbours.l2 kq x3_2 (x3_1.length : Int) x49_2 = some r) ∧ Aside0 (kq ≤ k1) ∧ Aside0 (Kd.S (Kd.slice 2 (Kd.int .i64)) 22 w' w.heap.size (fun _ => True) (.slice Ao35 x3_1.length co35) x3_2) ∧ Aside0 (w'.heap[gb260]? = some (.cells #[.int .i64 a0_0, .int .i64 a0_1, (.slice A0_2 l0_2.length c0_2)] 28 (0, 0))) ∧ Aside0 (Below w.heap.size w w'))
     case atStart => exact ⟨(x3_1), (0), (by first | rfl | (simp; done) | (simp [*]; done) | (simp [i64_w, i32_w]; done)), H', ⟨Nat.le_refl _⟩, ⟨by (with_reducible repeat (first | apply Kd.S_alloc | apply Kd.S_drewN | apply Kd.S_drew)); exact HO_3.out⟩, ⟨by (with_reducible repeat (first | refine blk_drewN ?_ _ | refine blk_drew ?_ | refine blk_alloc ?_ _)); exact BK260.out⟩, ⟨by repeat (first | (with_reducible first | exact HB.out | apply below_alloc | apply pw_below_drewN | apply below_drew1 | refine below_set ?_ GE260.out) | exact HB.out)⟩⟩
     case round =>
      clear H'
      try clear c1
      try clear p1
      try clear q1
      try clear hx1
      try clear c2
      try clear p2
      try clear q2
      try clear hx2
      try clear c3
      try clear c3b0
      try clear c3b1
      try clear hx3
      try clear hf3
      try clear c4
      try clear c4b0
      try clear c4b1
      try clear p6
      try clear c11
      try clear c11b0
      try clear c12
      try clear c12b0
      try clear c13
      try clear c13b0
      try clear c17
      try clear c17b0
      try clear c18
      try clear c18b0
      try clear p19
      try clear q19
      try clear hx19
      try clear c20
      try clear c20b0
      try clear c21
      try clear c21b0
      try clear c22
      try clear c22b0
      try clear c22b1
      try clear c24
      try clear c24b0
      try clear c25
      try clear c25b0
      try clear c26
      try clear p26
      try clear q26
      try clear hx26
      try clear c27
      try clear p27
      try clear q27
      try clear hx27
      try clear c30
      try clear c31
      try clear c32
      try clear hx32
      try clear hf32
      try clear hcz10_0
      try clear hcz10_1
      try clear hcz10_2
      try clear hcz15_0
      try clear hcz15_1
      try clear hcz15_2
      try clear hcz23_0
      try clear hcz23_1
      try clear hcz23_2
      try clear hcz28_0
      try clear hcz28_1
      try clear hcz28_2
      try clear hcz6_0
      try clear hcz6_1
      try clear hcz6_2
      try clear hfz10_0
      try clear hfz10_1
      try clear hfz10_2
      try clear hfz15_0
      try clear hfz15_1
      try clear hfz15_2
      try clear hfz23_0
      try clear hfz23_1
      try clear hfz23_2
      try clear hfz28_0
      try clear hfz28_1
      try clear hfz28_2
      try clear hfz6_0
      try clear hfz6_1
      try clear hfz6_2
      try clear hx265_0
      try clear hx270_0
      try clear hx271_0
      try clear hx32_0
      try clear p19
      try clear p2
      try clear p265
      try clear p27
      try clear p270
      try clear p271
      try clear q19
      try clear q2
      try clear q265
      try clear q27
      try clear q270
      try clear q271
      obtain ⟨x3_2, x49_2, rfl, HA, HK2, HO_3, BK260, HB⟩ := hrel
      have hl3_2 := (Kd.S_reads' HO_3.out).1
      rw [hl3_2] at HO_3
      (try simp only [hl3_2])
      (try simp only [hl3_2] at BK260)
      cases gk with
      | zero => exact absurd HA.out (by simp [impl_tileNeighbours.l2])
      | succ k2 =>
       have H := HA.out
       clear HA
       simp only [impl_tileNeighbours.l2] at H
       by_cases c36 : x49_2 < (x3_1.length : Int)
       rotate_left
       · rw [if_neg c36] at H
         have c36b0 : decide (x49_2 < (x3_1.length : Int)) = false := decide_eq_false c36
         (try simp only [hl3_2] at c36b0)
         clear c36
         obtain rfl := Option.some.inj H
         go_wp2
         go_ret
         exact ⟨_, by first | rfl | (simp [errW_none, errW_some] <;> rfl) | (simp [*, errW_none, errW_some] <;> rfl), by (with_reducible repeat (first | apply Kd.S_alloc | apply Kd.S_drewN | apply Kd.S_drew)); exact HO_3.out, by repeat (first | (with_reducible first | exact HB.out | apply below_alloc | apply pw_below_drewN | apply below_drew1 | refine below_set ?_ GE260.out) | exact HB.out)⟩
       rw [if_pos c36] at H
       have c36b0 : decide (x49_2 < (x3_1.length : Int)) = true := decide_eq_true c36
       (try simp only [hl3_2] at c36b0)
       clear c36
       by_cases c37 : 0 ≤ x49_2
       rotate_left
       · rw [if_neg c37] at H
         exact absurd H (by simp)
       rw [if_pos c37] at H
       have c37b0 : decide (0 ≤ x49_2) = true := decide_eq_true c37
       clear c37
       by_cases c38 : x49_2 < (x3_2.length : Int)
       rotate_left
       · rw [if_neg c38] at H
         exact absurd H (by simp)
       rw [if_pos c38] at H
       have c38b0 : decide (x49_2 < (x3_2.length : Int)) = true := decide_eq_true c38
       (try simp only [hl3_2] at c38b0)
       clear c38
       replace H := Option.bind_eq_some_iff.mp H
       obtain ⟨t500, A500, H⟩ := H
       have A50 := mkA A500
       clear A500
       replace H := Option.bind_eq_some_iff.mp H
       obtain ⟨t501, A510, H⟩ := H
       have A51 := mkA A510
       clear A510
       obtain ⟨y292, hy292⟩ : ∃ y_ : List (List Int), y_ = (x3_2.set (x49_2 : Int).toNat t501) := ⟨_, rfl⟩
       rw [← hy292] at H
       have Ny292 := mkA hy292
       clear hy292
       have H' := mkA H
       clear H
       have p288 : 0 ≤ (x49_2 : Int) := dt_
       have q288 : x49_2 < (x3_2.length : Int) := dt_
       obtain ⟨ad288, A288_0, c288_0, e288, hx288_0, hl288_0, hi288_0⟩ := at_L1 (Kd.S_reads' HO_3.out).2.2 x49_2 p288 q288
       cases e288
       obtain ⟨ce288, hce288, hMe288, hcc288⟩ := Kd.S_get HO_3.out [] x49_2 p288 (by first | exact q288 | exact dt_ | (have e_ := (Kd.S_reads' HO_3.out).1; omega))
       obtain ⟨ve288_0, rfl, ge288_0⟩ := hMe288
       have hv288_0 := hcc288 0 _ rfl
       rw [Nat.add_zero, show ((Kd.slice 2 (Kd.int .i64))).sz = 1 from rfl, Nat.mul_one] at hv288_0
       replace hv288_0 := Option.some.inj (hv288_0.symm.trans hx288_0)
       rw [hv288_0] at ge288_0
       have HL288_0 := mkA (show Kd.R (Kd.int .i64) 2 _ _ _ _ (rd_L1 x3_2 x49_2) from ge288_0)
       clear hv288_0 ge288_0
       have HX288_0 := mkA hx288_0
       clear hcc288 hce288
       clear hi288_0 hl288_0
       replace p288 := eq_true p288
       replace q288 := eq_true q288
       obtain ⟨go30, co30, eo30, gb30, gl30, cl30, HG30⟩ := Kd.S_form HO_3.out (by have h_ : (x49_2 : Int) < ((x3_2.length : Int) : Int) := dt_; have h2_ : 0 ≤ (x49_2 : Int) := (dt_); omega)
       (first | cases eo30 | (injection eo30 with ea_ en_ ec_; (first | subst ea_ | (injection ea_ with ea_; subst ea_)); subst ec_; clear en_))
       have GB30 := mkA gb30
       have GG30 := mkA HG30
       clear gb30 gl30 HG30
       (first | simp only [add_plain] at hx288_0 | skip)
       obtain ⟨oki30, ce30, hcl30, hM30, hcc30, _, _, hH30⟩ := Kd.S_elem HO_3.out [] (x49_2 : Int) (dt_) (by have h_ : (x49_2 : Int) < ((x3_2.length : Int) : Int) := dt_; first | exact h_ | (have e_ := ((Kd.S_reads' HO_3.out).1); omega) | simpa using h_)
       obtain ⟨ve30_0, rfl, ge30_0⟩ := hM30
       have hv30 := hcc30 0 _ rfl
       have hX30 := HX288_0.out
       (try simp only [add_plain] at hX30)
       (try simp only [Nat.add_zero] at hv30)
       (try rw [show ((Kd.slice 2 (Kd.int .i64))).sz = 1 from rfl, Nat.mul_one] at hv30)
       replace hv30 := Option.some.inj (hv30.symm.trans hX30)
       subst hv30
       clear hX30 hcc30 hcl30
       have UU30 := mkA (show Kd.R (Kd.int .i64) 2 _ w.heap.size oki30 (.slice A288_0 (rd_L1 x3_2 x49_2).length c288_0) (rd_L1 x3_2 x49_2) from ge30_0)
       have HH30 := mkA hH30
       have HN30 := mkA (Kd.S_reads' HO_3.out).1
       clear hH30 ge30_0
       go_wp2_with (first | (go_at_call 32; (with_reducible refine (Go.Proofs.YtopopjkoanpjiaaX.slices_Sort.calls (fun k_ => (.slice A288_0 (rd_L1 x3_2 x49_2).length c288_0 : Value).ownBlock = some k_) _ (rd_L1 x3_2 x49_2) t500 w _ ?side1 ?side2 A50.out).mono ?_); (case side1 => exact (bs1_ HB.out GE260.out)); (case side2 => exact Kd.R_of_own (Kd.own_of_R UU30.out) (fun _ e_ => e_)); rintro e w31 ⟨rfl, ho, hb, hk⟩; have n0_ := mkA (blk_kept BK260.out hk (fun e_ => Kd.R_ne HL288_0.out BK260.out (by decide) e_.symm)); have n1_ := mkA (hb); have n2_ := mkA (Kd.H_kept (Kd.H_widen HH30.out) hk (fun k_ _ hn_ e_ => hn_ (.inl (UU30.out.1 k_ e_)))); have n3_ := mkA (show Kd.R (Kd.int .i64) 2 w31 w.heap.size (fun k_ => (.slice A288_0 (rd_L1 x3_2 x49_2).length c288_0 : Value).ownBlock = some k_) (.slice A288_0 (rd_L1 x3_2 x49_2).length c288_0) t500 from Kd.R_of_own (Kd.own_of_R ho) (fun _ e_ => e_)); have n4_ := mkA hk.1; have n5_ := mkA UU30.out.1; clear BK260; clear HB; clear HH30; clear HO_3; clear UU30; clear HL288_0; have BK260 := n0_; have HB := n1_; have HH30 := n2_; have HO500 := n3_; have HZ30 := n4_; have UO30 := n5_; clear n0_ n1_ n2_ n3_ n4_ n5_; clear ho hb hk; have p27 : 0 ≤ (x49_2 : Int) := dt_; have q27 : (x49_2 : Int) < ((x3_2.length : Int) : Int) := dt_; replace p27 := eq_true p27; replace q27 := eq_true q27; obtain ⟨hcc31, _⟩ := Kd.H_at HH30.out (dt_) (by have h_ : (x49_2 : Int) < ((x3_2.length : Int) : Int) := dt_; first | exact h_ | (have e_ := ((HN30.out)); omega) | simpa using h_); have hx31_0 := hcc31 0 _ rfl; (try simp only [Nat.add_zero] at hx31_0); (try rw [show ((Kd.slice 2 (Kd.int .i64))).sz = 1 from rfl, Nat.mul_one] at hx31_0); clear hcc31) | ((with_reducible refine gate_callee (f := 33) rfl ?_); refine goesL_ (some 63) rfl rfl Try.func33 (by kernel_rfl) rfl #[.slice A288_0 (rd_L1 x3_2 x49_2).length c288_0] rfl (by (try simp only [List.map_toArray, List.map_cons, List.map_nil]); first | done | rfl | (simp only [List.length_drop, List.length_take]; rfl)) ?_; (with_reducible refine (Go.Proofs.YtopopjkoanpjiaaX.slices_Compact.calls (fun k_ => (.slice A288_0 (rd_L1 x3_2 x49_2).length c288_0 : Value).ownBlock = some k_) _ t500 t501 w _ ?side1 ?side2 A51.out).mono ?_); (case side1 => exact (bs1_ HB.out GE260.out)); (case side2 => exact HO500.out); rintro e w32 ⟨v290, rfl, ho, hb, hk⟩; refine ⟨_, rfl, ?_⟩; have n0_ := mkA (blk_kept BK260.out hk (fun e_ => Kd.R_ne HO500.out BK260.out (by decide) e_.symm)); have n1_ := mkA (hb); have n2_ := mkA (Kd.H_kept HH30.out hk (fun k_ _ hn_ e_ => hn_ (.inl (UO30.out k_ e_)))); have n3_ := mkA (show Kd.R (Kd.int .i64) 2 w32 w.heap.size (fun k_ => oki30 k_ ∨ ((fun _ => True)) k_ ∧ wr.heap.size ≤ k_) v290 t501 from Kd.R_mono ho (fun k_ h_ => h_.elim (fun e_ => .inl (UO30.out k_ e_)) (fun h_ => .inr ⟨trivial, Nat.le_trans HZ30.out h_⟩))); clear BK260; clear HB; clear HH30; clear HO500; have BK260 := n0_; have HB := n1_; have HH30 := n2_; have HO291 := n3_; clear n0_ n1_ n2_ n3_; clear ho hb hk hx31_0; obtain ⟨Ao34, co34, eo34⟩ := Kd.R_slice HO291.out; subst eo34; obtain ⟨_, _, hraw32, _, _, hcc32, _⟩ := Kd.H_raw HH30.out (dt_) (by have h_ : (x49_2 : Int) < ((x3_2.length : Int) : Int) := dt_; first | exact h_ | (have e_ := ((HN30.out)); omega) | simpa using h_); obtain ⟨_, hfr32⟩ := Kd.H_at HH30.out (dt_) (by have h_ : (x49_2 : Int) < ((x3_2.length : Int) : Int) := dt_; first | exact h_ | (have e_ := ((HN30.out)); omega) | simpa using h_); have hx32_0 := hcc32 0 _ rfl; have hf32_0 := hfr32 0; (try simp only [Nat.add_zero] at hx32_0 hf32_0); (try rw [show ((Kd.slice 2 (Kd.int .i64))).sz = 1 from rfl, Nat.mul_one] at hx32_0); (try rw [show ((Kd.slice 2 (Kd.int .i64))).sz = 1 from rfl, Nat.mul_one] at hf32_0); have HP32 := Kd.S_seg0 HH30.out (dt_) (by have h_ : (x49_2 : Int) < ((x3_2.length : Int) : Int) := dt_; first | exact h_ | (have e_ := ((HN30.out)); omega) | simpa using h_) (seg := [.slice Ao34 t501.length co34]) (j := 0) (show 1 ≤ 1 from by decide) (x' := t501) (Kd.M_row HO291.out) (fun _ hk => hk); (try simp only [show ((Kd.slice 2 (Kd.int .i64))).sz = 1 from rfl, Nat.mul_one, Nat.add_zero] at HP32); clear hcc32 hfr32) | ((with_reducible refine gate_store (t := 22) (p := 64) rfl ?_); refine store_event (t := 22) (p := 64) (v := ?vo_w533) (w1 := (w32.setCell ⟨go30, (x49_2 : Int).toNat, none⟩ (.slice Ao34 t501.length co34))) ?hg ?ho ?hn ?hr ?_; (case ho => rfl); (case hg => rfl); (case hn => rfl); (case hr => first | (go_simp; done) | (go_simp; rfl)); intro w33 hw; have hg : w32.grownBy w33 (some go30) := (by rw [hw]; exact HP32.2); have hp_ : Kd.S (Kd.slice 2 (Kd.int .i64)) 22 w33 w.heap.size (fun _ => True) (.slice (some ⟨go30, 0, none⟩) x3_2.length co35) y292 := (by rw [hw, Ny292.out]; exact HP32.1); clear HP32; have n0_ := mkA (blk_grown (g := gb260) (o := .cells #[.int .i64 a0_0, .int .i64 a0_1, .slice A0_2 l0_2.length c0_2] 28 (0, 0)) BK260.out hg (Kd.R_ne hraw32 BK260.out (by decide))); have n1_ := mkA ((by rw [hw]; exact below_set HB.out GB30.out : Below w.heap.size w w33)); have n2_ := mkA (hp_); clear BK260; clear HB; clear HO291; clear HH30; have BK260 := n0_; have HB := n1_; have HO_3 := n2_; clear n0_ n1_ n2_; clear hg hw hp_ hraw32))
       (try simp only [← hl3_2])
       go_roundg k2
       case measure => have := HK1.out; have := HK2.out; omega
       case rel => exact ⟨(y292), (wrap64 (x49_2 + 1)), (by first | rfl | (simp; done) | (simp [*]; done) | (simp [i64_w, i32_w]; done)), H', ⟨by have := HK1.out; have := HK2.out; omega⟩, ⟨by (try rw [hl3_2]); exact HO_3.out⟩, ⟨by (with_reducible repeat (first | refine blk_drewN ?_ _ | refine blk_drew ?_ | refine blk_alloc ?_ _)); exact BK260.out⟩, ⟨by repeat (first | (with_reducible first | exact HB.out | apply below_alloc | apply pw_below_drewN | apply below_drew1 | refine below_set ?_ GE260.out) | exact HB.out)⟩⟩
   rw [if_pos c11] at H
   have c11b0 : decide (x16_1 < (l0_2.length : Int)) = true := decide_eq_true c11
   clear c11
   by_cases c12 : 0 ≤ x16_1
   rotate_left
   · rw [if_neg c12] at H
     exact absurd H (by simp)
   rw [if_pos c12] at H
   have c12b0 : decide (0 ≤ x16_1) = true := decide_eq_true c12
   clear c12
   by_cases c13 : x16_1 < (l0_2.length : Int)
   rotate_left
   · rw [if_neg c13] at H
     exact absurd H (by simp)
   rw [if_pos c13] at H
   have c13b0 : decide (x16_1 < (l0_2.length : Int)) = true := decide_eq_true c13
   clear c13
   replace H := Option.bind_eq_some_iff.mp H
   obtain ⟨⟨t266, t267, t268, t269⟩, A140, H⟩ := H
   replace H : (impl_tileNeighbours.l1 k1 x3_1 (rd l0_2 x16_1) l0_2 (l0_2.length : Int) x16_1 0 t266 t267 t268 t269 a0_0 a0_1 l0_2) = some r := H
   have A14 := mkA A140
   clear A140
   have H' := mkA H
   clear H
   have p265 : 0 ≤ (x16_1 : Int) := dt_
   have q265 : x16_1 < (l0_2.length : Int) := dt_
   obtain ⟨ad265, e265, hx265_0⟩ := Kd.at_int HR0_2.out x16_1 p265 q265
   cases e265
   replace hx265_0 := bc_ HB.out hx265_0
   replace p265 := eq_true p265
   replace q265 := eq_true q265
   have hcz15_0 : wr.cell? ⟨gb260, 0, none⟩ = some (.int .i64 a0_0) := (blk_cell BK260.out 0).trans rfl
   have hcz15_1 : wr.cell? ⟨gb260, 1, none⟩ = some (.int .i64 a0_1) := (blk_cell BK260.out 1).trans rfl
   have hcz15_2 : wr.cell? ⟨gb260, 2, none⟩ = some (.slice (some ad265) l0_2.length c0_2) := (blk_cell BK260.out 2).trans rfl
   have hfz15_0 := blk_frozen BK260.out 0
   have hfz15_1 := blk_frozen BK260.out 1
   have hfz15_2 := blk_frozen BK260.out 2
   go_wp2_with (first | ((with_reducible refine gate_callee (f := 31) rfl ?_); refine goesL_ (some 23) rfl rfl Try.func31 (by kernel_rfl) rfl #[.agg #[.int .i64 a0_0, .int .i64 a0_1, .slice (some ad265) l0_2.length c0_2], .int .i64 x16_1] rfl (by (try simp only [List.map_toArray, List.map_cons, List.map_nil]); first | done | rfl | (simp only [List.length_drop, List.length_take]; rfl)) ?_; (with_reducible refine (impl_touchingCells.calls a0_0 a0_1 _ _ l0_2 x16_1 t266 t267 t268 t269 _ ?side1 ?side2 A14.out).mono ?_); (case side1 => exact cb_ HR0_2.out HB.out); (case side2 => exact HC0_2.out); rintro e w16 ⟨rfl, hb⟩; refine ⟨_, rfl, ?_⟩; have n0_ := mkA (Kd.S_below (by (with_reducible repeat (first | apply Kd.S_alloc | apply Kd.S_drewN | apply Kd.S_drew)); exact HO_3.out) hb); have n1_ := mkA (blk_below (g := gb260) (o := .cells #[.int .i64 a0_0, .int .i64 a0_1, .slice (some ad265) l0_2.length c0_2] 28 (0, 0)) (bl_ BK260.out) hb); have n2_ := mkA (below_step (bs1_ HB.out GE260.out) hb); clear HO_3; clear BK260; clear HB; have HO_3 := n0_; have BK260 := n1_; have HB := n2_; clear n0_ n1_ n2_; (try clear hb); (try clear hb2); (try clear hk); (try clear hi)))
   go_loopg [24] k1 (fun kq v24 w' => ∃ (x3_2 : List (List Int)) (x24_2 : Int), v24 = .int .i64 x24_2 ∧ Aside0 (impl_tileNeighbours.l1 kq x3_2 (rd l0_2 x16_1) l0_2 (l0_2.length : Int) x16_1 x24_2 t266 t267 t268 t269 a0_0 a0_1 l0_2 = some r) ∧ Aside0 (kq ≤ k1) ∧ Aside0 (Kd.S (Kd.slice 2 (Kd.int .i64)) 22 w' w.heap.size (fun _ => True) v263 x3_2) ∧ Aside0 (w'.heap[gb260]? = some (.cells #[.int .i64 a0_0, .int .i64 a0_1, (.slice (some ad265) l0_2.length c0_2)] 28 (0, 0))) ∧ Aside0 (Below w.heap.size w w'))
   case atStart => exact ⟨(x3_1), (0), (by first | rfl | (simp; done) | (simp [*]; done) | (simp [i64_w, i32_w]; done)), H', ⟨Nat.le_refl _⟩, ⟨by (with_reducible repeat (first | apply Kd.S_alloc | apply Kd.S_drewN | apply Kd.S_drew)); exact HO_3.out⟩, ⟨by (with_reducible repeat (first | refine blk_drewN ?_ _ | refine blk_drew ?_ | refine blk_alloc ?_ _)); exact BK260.out⟩, ⟨by repeat (first | (with_reducible first | exact HB.out | apply below_alloc | apply pw_below_drewN | apply below_drew1 | refine below_set ?_ GE260.out) | exact HB.out)⟩⟩
   case round =>
    clear H'
    try clear c1
    try clear c2
    try clear p2
    try clear q2
    try clear hx2
    try clear c3
    try clear c3b0
    try clear c3b1
    try clear c4
    try clear c4b0
    try clear c4b1
    try clear c11
    try clear c11b0
    try clear c12
    try clear c12b0
    try clear c13
    try clear c13b0
    try clear hcz10_0
    try clear hcz10_1
    try clear hcz10_2
    try clear hcz15_0
    try clear hcz15_1
    try clear hcz15_2
    try clear hcz6_0
    try clear hcz6_1
    try clear hcz6_2
    try clear hfz10_0
    try clear hfz10_1
    try clear hfz10_2
    try clear hfz15_0
    try clear hfz15_1
    try clear hfz15_2
    try clear hfz6_0
    try clear hfz6_1
    try clear hfz6_2
    try clear hx265_0
    try clear p2
    try clear p265
    try clear q265
    obtain ⟨x3_2, x24_2, rfl, HA, HK2, HO_3, BK260, HB⟩ := hrel
    cases gk with
    | zero => exact absurd HA.out (by simp [impl_tileNeighbours.l1])
    | succ k2 =>
     have H := HA.out
     clear HA
     simp only [impl_tileNeighbours.l1] at H
     by_cases c17 : x24_2 < 4
     rotate_left
     · rw [if_neg c17] at H
       have c17b0 : decide (x24_2 < 4) = false := decide_eq_false c17
       clear c17
       have H' := mkA H
       clear H
       go_wp2
       go_roundg k2
       case measure => have := HK1.out; have := HK2.out; omega
       case rel => exact ⟨(x3_2), (wrap64 (x16_1 + 1)), (by first | rfl | (simp; done) | (simp [*]; done) | (simp [i64_w, i32_w]; done)), H', ⟨by have := HK1.out; have := HK2.out; omega⟩, ⟨by (with_reducible repeat (first | apply Kd.S_alloc | apply Kd.S_drewN | apply Kd.S_drew)); exact HO_3.out⟩, ⟨by (with_reducible repeat (first | refine blk_drewN ?_ _ | refine blk_drew ?_ | refine blk_alloc ?_ _)); exact BK260.out⟩, ⟨by repeat (first | (with_reducible first | exact HB.out | apply below_alloc | apply pw_below_drewN | apply below_drew1 | refine below_set ?_ GE260.out) | exact HB.out)⟩⟩
     rw [if_pos c17] at H
     have c17b0 : decide (x24_2 < 4) = true := decide_eq_true c17
     clear c17
     by_cases c18 : 0 ≤ x24_2
     rotate_left
     · rw [if_neg c18] at H
       exact absurd H (by simp)
     rw [if_pos c18] at H
     have c18b0 : decide (0 ≤ x24_2) = true := decide_eq_true c18
     clear c18
     by_cases c20 : 0 ≤ (rd [t266, t267, t268, t269] x24_2)
     rotate_left
     · rw [if_neg c20] at H
       exact absurd H (by simp)
     rw [if_pos c20] at H
     have c20b0 : decide (0 ≤ (rd [t266, t267, t268, t269] x24_2)) = true := decide_eq_true c20
     clear c20
     by_cases c21 : (rd [t266, t267, t268, t269] x24_2) < (l0_2.length : Int)
     rotate_left
     · rw [if_neg c21] at H
       exact absurd H (by simp)
     rw [if_pos c21] at H
     have c21b0 : decide ((rd [t266, t267, t268, t269] x24_2) < (l0_2.length : Int)) = true := decide_eq_true c21
     clear c21
     by_cases c22 : (rd l0_2 (rd [t266, t267, t268, t269] x24_2)) = (rd l0_2 x16_1)
     · rw [if_pos c22] at H
       have c22b0 : ((rd l0_2 (rd [t266, t267, t268, t269] x24_2)) == (rd l0_2 x16_1)) = true := beq_iff_eq.mpr c22
       have c22b1 : ((rd l0_2 (rd [t266, t267, t268, t269] x24_2)) != (rd l0_2 x16_1)) = false := bne_eq_false_iff_eq.mpr c22
       clear c22
       have H' := mkA H
       clear H
       have p19 : 0 ≤ (x24_2 : Int) := dt_
       have q19 : x24_2 < 4 := dt_
       have hx19 := Go.Proofs.YtopopjkoanpjiaaX.idx4_ (P := Try.prog) (t := 52) (k := .i64) (fun _ _ _ _ _ => by kernel_rfl) (fun _ _ _ _ _ => by kernel_rfl) (fun _ _ _ _ _ => by kernel_rfl) (fun _ _ _ _ _ => by kernel_rfl) t266 t267 t268 t269 x24_2 p19 q19
       replace p19 := eq_true p19
       replace q19 := eq_true q19
       have hcz23_0 : wr.cell? ⟨gb260, 0, none⟩ = some (.int .i64 a0_0) := (blk_cell BK260.out 0).trans rfl
       have hcz23_1 : wr.cell? ⟨gb260, 1, none⟩ = some (.int .i64 a0_1) := (blk_cell BK260.out 1).trans rfl
       have hcz23_2 : wr.cell? ⟨gb260, 2, none⟩ = some (.slice (some ad265) l0_2.length c0_2) := (blk_cell BK260.out 2).trans rfl
       have hfz23_0 := blk_frozen BK260.out 0
       have hfz23_1 := blk_frozen BK260.out 1
       have hfz23_2 := blk_frozen BK260.out 2
       have p270 : 0 ≤ ((rd [t266, t267, t268, t269] x24_2) : Int) := dt_
       have q270 : (rd [t266, t267, t268, t269] x24_2) < (l0_2.length : Int) := dt_
       obtain ⟨ad270, e270, hx270_0⟩ := Kd.at_int HR0_2.out (rd [t266, t267, t268, t269] x24_2) p270 q270
       obtain rfl : ad265 = ad270 := (by injection e270)
       replace hx270_0 := bc_ HB.out hx270_0
       replace p270 := eq_true p270
       replace q270 := eq_true q270
       go_wp2
       go_roundg k2
       case measure => have := HK1.out; have := HK2.out; omega
       case rel => exact ⟨(x3_2), (wrap64 (x24_2 + 1)), (by first | rfl | (simp; done) | (simp [*]; done) | (simp [i64_w, i32_w]; done)), H', ⟨by have := HK1.out; have := HK2.out; omega⟩, ⟨by (with_reducible repeat (first | apply Kd.S_alloc | apply Kd.S_drewN | apply Kd.S_drew)); exact HO_3.out⟩, ⟨by (with_reducible repeat (first | refine blk_drewN ?_ _ | refine blk_drew ?_ | refine blk_alloc ?_ _)); exact BK260.out⟩, ⟨by repeat (first | (with_reducible first | exact HB.out | apply below_alloc | apply pw_below_drewN | apply below_drew1 | refine below_set ?_ GE260.out) | exact HB.out)⟩⟩
     · rw [if_neg c22] at H
       have c22b0 : ((rd l0_2 (rd [t266, t267, t268, t269] x24_2)) == (rd l0_2 x16_1)) = false := beq_eq_false_iff_ne.mpr c22
       have c22b1 : ((rd l0_2 (rd [t266, t267, t268, t269] x24_2)) != (rd l0_2 x16_1)) = true := bne_iff_ne.mpr c22
       by_cases c24 : 0 ≤ (rd l0_2 x16_1)
       rotate_left
       · rw [if_neg c24] at H
         exact absurd H (by simp)
       rw [if_pos c24] at H
       have c24b0 : decide (0 ≤ (rd l0_2 x16_1)) = true := decide_eq_true c24
       clear c24
       by_cases c25 : (rd l0_2 x16_1) < (x3_2.length : Int)
       rotate_left
       · rw [if_neg c25] at H
         exact absurd H (by simp)
       rw [if_pos c25] at H
       have c25b0 : decide ((rd l0_2 x16_1) < (x3_2.length : Int)) = true := decide_eq_true c25
       clear c25
       by_cases c26 : (rd_L1 x3_2 (rd l0_2 x16_1)).length < 17592186044416
       rotate_left
       · rw [if_neg c26] at H
         exact absurd H (by simp)
       rw [if_pos c26] at H
       have LMc26 := mkA c26
       clear c26
       obtain ⟨y272, hy272⟩ : ∃ y_ : List Int, y_ = ((rd_L1 x3_2 (rd l0_2 x16_1)) ++ [rd l0_2 (rd [t266, t267, t268, t269] x24_2)]) := ⟨_, rfl⟩
       replace H : (impl_tileNeighbours.l1 k2 (x3_2.set ((rd l0_2 x16_1) : Int).toNat y272) (rd l0_2 x16_1) l0_2 (l0_2.length : Int) x16_1 (wrap64 (x24_2 + 1)) t266 t267 t268 t269 a0_0 a0_1 l0_2) = some r := by first | (rw [hy272]; with_reducible exact H) | (have H2_ := (Option.bind_some _ _).symm.trans H; rw [hy272]; with_reducible exact H2_) | (have H2_ := (Option.bind_some _ _).symm.trans H; with_reducible exact H2_) | with_reducible exact H | (rw [hy272]; exact H) | exact H
       have Ny272 := mkA hy272
       clear hy272
       obtain ⟨y275, hy275⟩ : ∃ y_ : List (List Int), y_ = (x3_2.set ((rd l0_2 x16_1) : Int).toNat y272) := ⟨_, rfl⟩
       replace H : (impl_tileNeighbours.l1 k2 y275 (rd l0_2 x16_1) l0_2 (l0_2.length : Int) x16_1 (wrap64 (x24_2 + 1)) t266 t267 t268 t269 a0_0 a0_1 l0_2) = some r := by first | (rw [hy275]; with_reducible exact H) | (have H2_ := (Option.bind_some _ _).symm.trans H; rw [hy275]; with_reducible exact H2_) | (have H2_ := (Option.bind_some _ _).symm.trans H; with_reducible exact H2_) | with_reducible exact H | (rw [hy275]; exact H) | exact H
       have Ny275 := mkA hy275
       clear hy275
       have H' := mkA H
       clear H
       have p19 : 0 ≤ (x24_2 : Int) := dt_
       have q19 : x24_2 < 4 := dt_
       have hx19 := Go.Proofs.YtopopjkoanpjiaaX.idx4_ (P := Try.prog) (t := 52) (k := .i64) (fun _ _ _ _ _ => by kernel_rfl) (fun _ _ _ _ _ => by kernel_rfl) (fun _ _ _ _ _ => by kernel_rfl) (fun _ _ _ _ _ => by kernel_rfl) t266 t267 t268 t269 x24_2 p19 q19
       replace p19 := eq_true p19
       replace q19 := eq_true q19
       have hcz28_0 : wr.cell? ⟨gb260, 0, none⟩ = some (.int .i64 a0_0) := (blk_cell BK260.out 0).trans rfl
       have hcz28_1 : wr.cell? ⟨gb260, 1, none⟩ = some (.int .i64 a0_1) := (blk_cell BK260.out 1).trans rfl
       have hcz28_2 : wr.cell? ⟨gb260, 2, none⟩ = some (.slice (some ad265) l0_2.length c0_2) := (blk_cell BK260.out 2).trans rfl
       have hfz28_0 := blk_frozen BK260.out 0
       have hfz28_1 := blk_frozen BK260.out 1
       have hfz28_2 := blk_frozen BK260.out 2
       have p270 : 0 ≤ ((rd [t266, t267, t268, t269] x24_2) : Int) := dt_
       have q270 : (rd [t266, t267, t268, t269] x24_2) < (l0_2.length : Int) := dt_
       obtain ⟨ad270, e270, hx270_0⟩ := Kd.at_int HR0_2.out (rd [t266, t267, t268, t269] x24_2) p270 q270
       obtain rfl : ad265 = ad270 := (by injection e270)
       replace hx270_0 := bc_ HB.out hx270_0
       replace p270 := eq_true p270
       replace q270 := eq_true q270
       obtain ⟨Ao29, co29, eo29⟩ := Kd.S_slice HO_3.out
       subst eo29
       have p271 : 0 ≤ ((rd l0_2 x16_1) : Int) := dt_
       have q271 : (rd l0_2 x16_1) < (x3_2.length : Int) := dt_
       obtain ⟨ad271, A271_0, c271_0, e271, hx271_0, hl271_0, hi271_0⟩ := at_L1 (Kd.S_reads' HO_3.out).2.2 (rd l0_2 x16_1) p271 q271
       cases e271
       obtain ⟨ce271, hce271, hMe271, hcc271⟩ := Kd.S_get HO_3.out [] (rd l0_2 x16_1) p271 (by first | exact q271 | exact dt_ | (have e_ := (Kd.S_reads' HO_3.out).1; omega))
       obtain ⟨ve271_0, rfl, ge271_0⟩ := hMe271
       have hv271_0 := hcc271 0 _ rfl
       rw [Nat.add_zero, show ((Kd.slice 2 (Kd.int .i64))).sz = 1 from rfl, Nat.mul_one] at hv271_0
       replace hv271_0 := Option.some.inj (hv271_0.symm.trans hx271_0)
       rw [hv271_0] at ge271_0
       have HL271_0 := mkA (show Kd.R (Kd.int .i64) 2 _ _ _ _ (rd_L1 x3_2 (rd l0_2 x16_1)) from ge271_0)
       clear hv271_0 ge271_0
       have HX271_0 := mkA hx271_0
       clear hcc271 hce271
       have HR271_0 := mkA hi271_0
       have HC271_0 := mkA hl271_0
       clear hi271_0 hl271_0
       replace p271 := eq_true p271
       replace q271 := eq_true q271
       obtain ⟨go30, co30, eo30, gb30, gl30, cl30, HG30⟩ := Kd.S_form HO_3.out (by have h_ : ((rd l0_2 x16_1) : Int) < ((x3_2.length : Int) : Int) := dt_; have h2_ : 0 ≤ ((rd l0_2 x16_1) : Int) := (dt_); omega)
       (first | cases eo30 | (injection eo30 with ea_ en_ ec_; (first | subst ea_ | (injection ea_ with ea_; subst ea_)); subst ec_; clear en_))
       have GB30 := mkA gb30
       have GG30 := mkA HG30
       clear gb30 gl30 HG30
       (first | simp only [add_plain] at hx271_0 | skip)
       obtain ⟨oki30, ce30, hcl30, hM30, hcc30, _, _, hH30⟩ := Kd.S_elem HO_3.out [] ((rd l0_2 x16_1) : Int) (dt_) (by have h_ : ((rd l0_2 x16_1) : Int) < ((x3_2.length : Int) : Int) := dt_; first | exact h_ | (have e_ := (Kd.S_reads' HO_3.out).1; omega) | simpa using h_)
       obtain ⟨ve30_0, rfl, ge30_0⟩ := hM30
       have hv30 := hcc30 0 _ rfl
       have hX30 := HX271_0.out
       (try simp only [add_plain] at hX30)
       (try simp only [Nat.add_zero] at hv30)
       (try rw [show ((Kd.slice 2 (Kd.int .i64))).sz = 1 from rfl, Nat.mul_one] at hv30)
       replace hv30 := Option.some.inj (hv30.symm.trans hX30)
       subst hv30
       clear hX30 hcc30 hcl30
       have UU30 := mkA (show Kd.R (Kd.int .i64) 2 _ w.heap.size oki30 (.slice A271_0 (rd_L1 x3_2 (rd l0_2 x16_1)).length c271_0) (rd_L1 x3_2 (rd l0_2 x16_1)) from ge30_0)
       have HH30 := mkA hH30
       have HN30 := mkA (Kd.S_reads' HO_3.out).1
       clear hH30 ge30_0
       go_wp2_with (first | ((with_reducible refine gate_builtin (b := .append) (xs := #[.tmp 40, .tmp 42]) rfl ?_); at_builtin; refine Kd.R_append (Kd.int .i64) (w0 := w) w.heap.size rfl (.tmp 40) (.tmp 42) 22 2 (.int .i64 0) 8 rfl Try.underlying22 info2 rfl (by decide) (by omega) (.slice A271_0 (rd_L1 x3_2 (rd l0_2 x16_1)).length c271_0) (rd_L1 x3_2 (rd l0_2 x16_1)) (rd l0_2 (rd [t266, t267, t268, t269] x24_2)) [.int .i64 (rd l0_2 (rd [t266, t267, t268, t269] x24_2))] (fun k_ => oki30 k_ ∨ ((fun _ => True)) k_ ∧ wr.heap.size ≤ k_) (fun _ => False) rfl rfl ?aP (fun _ hk => hk.elim) ?aF ?aO ?aB ?aS ?aL ?_; (case aP => exact rfl); (case aB => exact (bs1_ HB.out GE260.out)); (case aF => exact (fun k_ hk => .inr ⟨trivial, hk⟩)); (case aO => exact (by (with_reducible repeat (first | apply Kd.R_alloc | apply Kd.R_drewN | apply Kd.R_drew)); exact Kd.R_mono UU30.out (fun _ hk => .inl hk))); (case aS => exact (below_size (bs1_ HB.out GE260.out))); (case aL => have := LMc26.out; omega); intro v273 w31 ho hb hg hat; rw [← Ny272.out] at ho; have n0_ := mkA (blk_grown (g := gb260) (o := .cells #[.int .i64 a0_0, .int .i64 a0_1, .slice (some ad265) l0_2.length c0_2] 28 (0, 0)) (bl_ BK260.out) hg (Kd.R_ne HL271_0.out BK260.out (by decide))); have n1_ := mkA (hb); have n2_ := mkA (Kd.H_grown (Kd.H_widen (by repeat (first | exact HH30.out | refine Kd.H_alloc ?_ _ | refine Kd.H_drewN ?_ _ | refine Kd.H_drew ?_))) hg (fun k_ e_ => .inl (UU30.out.1 k_ e_))); have n3_ := mkA (ho); clear BK260; clear HB; clear HH30; clear HO_3; clear UU30; clear HL271_0; have BK260 := n0_; have HB := n1_; have HH30 := n2_; have HO274 := n3_; clear n0_ n1_ n2_ n3_; clear ho hb hg hat; have p27 : 0 ≤ ((rd l0_2 x16_1) : Int) := dt_; have q27 : ((rd l0_2 x16_1) : Int) < ((x3_2.length : Int) : Int) := dt_; replace p27 := eq_true p27; replace q27 := eq_true q27; obtain ⟨Ao34, co34, eo34⟩ := Kd.R_slice HO274.out; subst eo34; obtain ⟨_, _, hraw32, _, _, hcc32, _⟩ := Kd.H_raw HH30.out (dt_) (by have h_ : ((rd l0_2 x16_1) : Int) < ((x3_2.length : Int) : Int) := dt_; first | exact h_ | (have e_ := (HN30.out); omega) | simpa using h_); obtain ⟨_, hfr32⟩ := Kd.H_at HH30.out (dt_) (by have h_ : ((rd l0_2 x16_1) : Int) < ((x3_2.length : Int) : Int) := dt_; first | exact h_ | (have e_ := (HN30.out); omega) | simpa using h_); have hx32_0 := hcc32 0 _ rfl; have hf32_0 := hfr32 0; (try simp only [Nat.add_zero] at hx32_0 hf32_0); (try rw [show ((Kd.slice 2 (Kd.int .i64))).sz = 1 from rfl, Nat.mul_one] at hx32_0); (try rw [show ((Kd.slice 2 (Kd.int .i64))).sz = 1 from rfl, Nat.mul_one] at hf32_0); have HP32 := Kd.S_seg0 HH30.out (dt_) (by have h_ : ((rd l0_2 x16_1) : Int) < ((x3_2.length : Int) : Int) := dt_; first | exact h_ | (have e_ := (HN30.out); omega) | simpa using h_) (seg := [.slice Ao34 y272.length co34]) (j := 0) (show 1 ≤ 1 from by decide) (x' := y272) (Kd.M_row HO274.out) (fun _ hk => hk); (try simp only [show ((Kd.slice 2 (Kd.int .i64))).sz = 1 from rfl, Nat.mul_one, Nat.add_zero] at HP32); clear hcc32 hfr32) | ((with_reducible refine gate_store (t := 22) (p := 44) rfl ?_); refine store_event (t := 22) (p := 44) (v := ?vo_w33) (w1 := (w31.setCell ⟨go30, ((rd l0_2 x16_1) : Int).toNat, none⟩ (.slice Ao34 y272.length co34))) ?hg ?ho ?hn ?hr ?_; (case ho => rfl); (case hg => rfl); (case hn => rfl); (case hr => first | (go_simp; done) | (go_simp; rfl)); intro w33 hw; have hg : w31.grownBy w33 (some go30) := (by rw [hw]; exact HP32.2); have hp_ : Kd.S (Kd.slice 2 (Kd.int .i64)) 22 w33 w.heap.size (fun _ => True) (.slice (some ⟨go30, 0, none⟩) x3_2.length co29) y275 := (by rw [hw, Ny275.out]; exact HP32.1); clear HP32; have n0_ := mkA (blk_grown (g := gb260) (o := .cells #[.int .i64 a0_0, .int .i64 a0_1, .slice (some ad265) l0_2.length c0_2] 28 (0, 0)) (bl_ BK260.out) hg (Kd.R_ne hraw32 BK260.out (by decide))); have n1_ := mkA ((by rw [hw]; exact below_set HB.out GB30.out : Below w.heap.size w w33)); have n2_ := mkA (hp_); clear BK260; clear HB; clear HO274; clear HH30; have BK260 := n0_; have HB := n1_; have HO_3 := n2_; clear n0_ n1_ n2_; clear hg hw hp_ hraw32))
       go_roundg k2
       case measure => have := HK1.out; have := HK2.out; omega
       case rel => exact ⟨(y275), (wrap64 (x24_2 + 1)), (by first | rfl | (simp; done) | (simp [*]; done) | (simp [i64_w, i32_w]; done)), H', ⟨by have := HK1.out; have := HK2.out; omega⟩, ⟨by (with_reducible repeat (first | apply Kd.S_alloc | apply Kd.S_drewN | apply Kd.S_drew)); exact HO_3.out⟩, ⟨by (with_reducible repeat (first | refine blk_drewN ?_ _ | refine blk_drew ?_ | refine blk_alloc ?_ _)); exact BK260.out⟩, ⟨by repeat (first | (with_reducible first | exact HB.out | apply below_alloc | apply pw_below_drewN | apply below_drew1 | refine below_set ?_ GE260.out) | exact HB.out)⟩⟩
/-! ### impl_TileNeighbours: function 7 -/
def impl_TileNeighbours.f (k : Nat) (a0_0 : Int) (a0_1 : Int) (l0_2 : List Int) (a1 : Int) : Option (List Int × Int) := (impl_ValidTiling.f k a0_0 a0_1 l0_2).bind fun t278 => (if t278 = true then ((impl_tiles.f k a0_0 a0_1 l0_2).bind fun t279 => ((impl_within.f a1 0 (wrap64 (t279 - 1))).bind fun t280 => (if t280 = true then ((impl_tileNeighbours.f k a0_0 a0_1 l0_2).bind fun t281 => (if 0 ≤ a1 then (if a1 < (t281.length : Int) then (some (rd_L1 t281 a1, 0)) else (none)) else (none))) else (some (([] : List Int), 2))))) else (some (([] : List Int), 1)))
theorem impl_TileNeighbours.mono : ∀ a0 a1 a2 a3 k, LeO (impl_TileNeighbours.f k a0 a1 a2 a3) (impl_TileNeighbours.f (k + 1) a0 a1 a2 a3) := by
  intro a0 a1 a2 a3 k
  unfold impl_TileNeighbours.f
  repeat' first
      | (with_reducible exact impl_ValidTiling.mono _ _ _ _)
      | (with_reducible exact impl_tileNeighbours.mono _ _ _ _)
      | (with_reducible exact impl_tiles.mono _ _ _ _)
      | (with_reducible exact LeO.refl _)
      | (with_reducible exact LeO.none _)
      | (with_reducible refine LeO.ite ?_ ?_)
      | (with_reducible refine LeO.bind ?_ (fun _ => ?_))
      | exact impl_ValidTiling.mono _ _ _ _
      | exact impl_tileNeighbours.mono _ _ _ _
      | exact impl_tiles.mono _ _ _ _
      | exact LeO.none _
      | refine LeO.ite ?_ ?_
      | refine LeO.bind ?_ (fun _ => ?_)
open List renaming setIfInBounds_toArray → sA, set_cons_zero → sB, set_cons_succ → sC
open Go.Proofs.YtopopjkoanpjiaaW.PrintWords.Aside0 renaming mk → mkA
open Go.Proofs.YtopopjkoanpjiaaX (dt_ bc_ p0_ p1_ bl_ cb_ bs0_ bs1_ bs2_ bs3_ bs4_ bs5_ bs6_ bs7_ bs8_ bs9_ bs10_ bs11_ bs12_)
set_option maxHeartbeats 8000000 in
set_option maxRecDepth 100000 in
theorem impl_TileNeighbours.calls (k : Nat) (a0_0 : Int) (a0_1 : Int) (A0_2 : Option Addr) (c0_2 : Nat) (l0_2 : List Int) (a1 : Int) (r1 : List Int) (r2 : Int) (w : World) (hr0_2 : Kd.C (Kd.int .i64) w A0_2 l0_2.length l0_2) (hc0_2 : l0_2.length ≤ c0_2) (h : impl_TileNeighbours.f k a0_0 a0_1 l0_2 a1 = some (r1, r2)) :
 Calls Try.prog 7 #[.agg #[.int .i64 a0_0, .int .i64 a0_1, .slice A0_2 l0_2.length c0_2], .int .i64 a1] w fun e w' => ∃ v0_ : Value, e = .returned (.tuple #[v0_, .int .i64 r2]) ∧ Kd.R (Kd.int .i64) 2 w' w.heap.size (fun _ => True) v0_ r1 ∧ Below w.heap.size w w' := by
 have hu28 := Try.underlying28
 have HR0_2 := mkA hr0_2
 have HC0_2 := mkA hc0_2
 clear hr0_2 hc0_2
 have HB := mkA (Below.refl w.heap.size w)
 have H : ((impl_ValidTiling.f k a0_0 a0_1 l0_2).bind fun t278 => (if t278 = true then ((impl_tiles.f k a0_0 a0_1 l0_2).bind fun t279 => ((impl_within.f a1 0 (wrap64 (t279 - 1))).bind fun t280 => (if t280 = true then ((impl_tileNeighbours.f k a0_0 a0_1 l0_2).bind fun t281 => (if 0 ≤ a1 then (if a1 < (t281.length : Int) then (some (rd_L1 t281 a1, 0)) else (none)) else (none))) else (some (([] : List Int), 2))))) else (some (([] : List Int), 1)))) = some (r1, r2) := h
 clear h
 replace H := Option.bind_eq_some_iff.mp H
 obtain ⟨t278, A30, H⟩ := H
 replace H : (if t278 = true then ((impl_tiles.f k a0_0 a0_1 l0_2).bind fun t279 => ((impl_within.f a1 0 (wrap64 (t279 - 1))).bind fun t280 => (if t280 = true then ((impl_tileNeighbours.f k a0_0 a0_1 l0_2).bind fun t281 => (if 0 ≤ a1 then (if a1 < (t281.length : Int) then (some (rd_L1 t281 a1, 0)) else (none)) else (none))) else (some (([] : List Int), 2))))) else (some (([] : List Int), 1))) = some (r1, r2) := H
 have A3 := mkA A30
 clear A30
 by_cases c4 : t278 = true
 rotate_left
 · replace c4 := Bool.eq_false_iff.mpr c4
   subst c4
   have H1 : (some (([] : List Int), 1)) = some (r1, r2) := by rw [if_neg (show ¬ (false = true) by decide)] at H; exact H
   clear H
   have H := H1
   clear H1
   simp only [Option.some.injEq, Prod.mk.injEq] at H
   obtain ⟨rfl, rfl⟩ := H
   go_enter Try.func7, Try.ntmps7
   go_wp2_with (first | ((with_reducible refine gate_dst (N := 2) rfl ?_); refine box_event ?hg (N := 2) ?hd (cs := #[.int .i64 a0_0, .int .i64 a0_1, .slice A0_2 l0_2.length c0_2]) (t := 28) ?hr ?_; (case hd => rfl); (case hg => rfl); (case hr => first | (go_simp; done) | (go_simp; rfl)); intro gb277 hg w24 hbox hb; have n0_ := mkA (below_step (bs0_ HB.out) hb); have n1_ := mkA (hbox); have n2_ := mkA ((by rw [hg]; exact (below_size (bs0_ HB.out)) : w.heap.size ≤ gb277)); have n3_ := mkA ((by rw [hg]; exact (below_size (bs0_ HB.out)) : w.heap.size ≤ gb277)); clear HB; have HB := n0_; have BK277 := n1_; have GW277 := n2_; have GE277 := n3_; clear n0_ n1_ n2_ n3_; clear hb hbox hg; have hcz25_0 : w24.cell? ⟨gb277, 0, none⟩ = some (.int .i64 a0_0) := (blk_cell BK277.out 0).trans rfl; have hcz25_1 : w24.cell? ⟨gb277, 1, none⟩ = some (.int .i64 a0_1) := (blk_cell BK277.out 1).trans rfl; have hcz25_2 : w24.cell? ⟨gb277, 2, none⟩ = some (.slice A0_2 l0_2.length c0_2) := (blk_cell BK277.out 2).trans rfl; have hfz25_0 := blk_frozen BK277.out 0; have hfz25_1 := blk_frozen BK277.out 1; have hfz25_2 := blk_frozen BK277.out 2) | ((with_reducible refine gate_callee (f := 19) rfl ?_); refine goesL_ (some 8) rfl rfl Try.func19 (by kernel_rfl) rfl #[.agg #[.int .i64 a0_0, .int .i64 a0_1, .slice A0_2 l0_2.length c0_2]] rfl (by (try simp only [List.map_toArray, List.map_cons, List.map_nil]); first | done | rfl | (simp only [List.length_drop, List.length_take]; rfl)) ?_; (with_reducible refine (impl_ValidTiling.calls k a0_0 a0_1 _ _ l0_2 false _ ?side1 ?side2 A3.out).mono ?_); (case side1 => exact cb_ HR0_2.out HB.out); (case side2 => exact HC0_2.out); rintro e w26 ⟨rfl, hb⟩; refine ⟨_, rfl, ?_⟩; have n0_ := mkA (blk_below (g := gb277) (o := .cells #[.int .i64 a0_0, .int .i64 a0_1, .slice A0_2 l0_2.length c0_2] 28 (0, 0)) (bl_ BK277.out) hb); have n1_ := mkA (below_step (bs1_ HB.out GE277.out) hb); clear BK277; clear HB; have BK277 := n0_; have HB := n1_; clear n0_ n1_; (try clear hb); (try clear hb2); (try clear hk); (try clear hi)))
   go_ret2
   exact ⟨_, by first | rfl | (simp [errW_none, errW_some] <;> rfl) | (simp [*, errW_none, errW_some] <;> rfl), by first | exact Kd.R_nil _ _ _ _ _ | exact Kd.N_nil _ _ _ _ _ | exact Kd.V_nil _ _ _ _ _ | exact Kd.Q_nil _ _ _ _ _ | exact Kd.S_nil _ _ _ _ _, by repeat (first | (with_reducible first | exact HB.out | apply below_alloc | apply pw_below_drewN | apply below_drew1 | refine below_set ?_ GE277.out) | exact HB.out)⟩

 subst c4
 have H1 : ((impl_tiles.f k a0_0 a0_1 l0_2).bind fun t279 => ((impl_within.f a1 0 (wrap64 (t279 - 1))).bind fun t280 => (if t280 = true then ((impl_tileNeighbours.f k a0_0 a0_1 l0_2).bind fun t281 => (if 0 ≤ a1 then (if a1 < (t281.length : Int) then (some (rd_L1 t281 a1, 0)) else (none)) else (none))) else (some (([] : List Int), 2))))) = some (r1, r2) := by rw [if_pos rfl] at H; exact H
 clear H
 have H := H1
 clear H1
 replace H := Option.bind_eq_some_iff.mp H
 obtain ⟨t279, A50, H⟩ := H
 replace H : ((impl_within.f a1 0 (wrap64 (t279 - 1))).bind fun t280 => (if t280 = true then ((impl_tileNeighbours.f k a0_0 a0_1 l0_2).bind fun t281 => (if 0 ≤ a1 then (if a1 < (t281.length : Int) then (some (rd_L1 t281 a1, 0)) else (none)) else (none))) else (some (([] : List Int), 2)))) = some (r1, r2) := H
 have A5 := mkA A50
 clear A50
 replace H := Option.bind_eq_some_iff.mp H
 obtain ⟨t280, A60, H⟩ := H
 replace H : (if t280 = true then ((impl_tileNeighbours.f k a0_0 a0_1 l0_2).bind fun t281 => (if 0 ≤ a1 then (if a1 < (t281.length : Int) then (some (rd_L1 t281 a1, 0)) else (none)) else (none))) else (some (([] : List Int), 2))) = some (r1, r2) := H
 have A6 := mkA A60
 clear A60
 by_cases c7 : t280 = true
 rotate_left
 · replace c7 := Bool.eq_false_iff.mpr c7
   subst c7
   have H1 : (some (([] : List Int), 2)) = some (r1, r2) := by rw [if_neg (show ¬ (false = true) by decide)] at H; exact H
   clear H
   have H := H1
   clear H1
   simp only [Option.some.injEq, Prod.mk.injEq] at H
   obtain ⟨rfl, rfl⟩ := H
   go_enter Try.func7, Try.ntmps7
   go_wp2_with (first | ((with_reducible refine gate_dst (N := 2) rfl ?_); refine box_event ?hg (N := 2) ?hd (cs := #[.int .i64 a0_0, .int .i64 a0_1, .slice A0_2 l0_2.length c0_2]) (t := 28) ?hr ?_; (case hd => rfl); (case hg => rfl); (case hr => first | (go_simp; done) | (go_simp; rfl)); intro gb277 hg w19 hbox hb; have n0_ := mkA (below_step (bs0_ HB.out) hb); have n1_ := mkA (hbox); have n2_ := mkA ((by rw [hg]; exact (below_size (bs0_ HB.out)) : w.heap.size ≤ gb277)); have n3_ := mkA ((by rw [hg]; exact (below_size (bs0_ HB.out)) : w.heap.size ≤ gb277)); clear HB; have HB := n0_; have BK277 := n1_; have GW277 := n2_; have GE277 := n3_; clear n0_ n1_ n2_ n3_; clear hb hbox hg; have hcz20_0 : w19.cell? ⟨gb277, 0, none⟩ = some (.int .i64 a0_0) := (blk_cell BK277.out 0).trans rfl; have hcz20_1 : w19.cell? ⟨gb277, 1, none⟩ = some (.int .i64 a0_1) := (blk_cell BK277.out 1).trans rfl; have hcz20_2 : w19.cell? ⟨gb277, 2, none⟩ = some (.slice A0_2 l0_2.length c0_2) := (blk_cell BK277.out 2).trans rfl; have hfz20_0 := blk_frozen BK277.out 0; have hfz20_1 := blk_frozen BK277.out 1; have hfz20_2 := blk_frozen BK277.out 2) | ((with_reducible refine gate_callee (f := 19) rfl ?_); refine goesL_ (some 8) rfl rfl Try.func19 (by kernel_rfl) rfl #[.agg #[.int .i64 a0_0, .int .i64 a0_1, .slice A0_2 l0_2.length c0_2]] rfl (by (try simp only [List.map_toArray, List.map_cons, List.map_nil]); first | done | rfl | (simp only [List.length_drop, List.length_take]; rfl)) ?_; (with_reducible refine (impl_ValidTiling.calls k a0_0 a0_1 _ _ l0_2 true _ ?side1 ?side2 A3.out).mono ?_); (case side1 => exact cb_ HR0_2.out HB.out); (case side2 => exact HC0_2.out); rintro e w21 ⟨rfl, hb⟩; refine ⟨_, rfl, ?_⟩; have n0_ := mkA (blk_below (g := gb277) (o := .cells #[.int .i64 a0_0, .int .i64 a0_1, .slice A0_2 l0_2.length c0_2] 28 (0, 0)) (bl_ BK277.out) hb); have n1_ := mkA (below_step (bs1_ HB.out GE277.out) hb); clear BK277; clear HB; have BK277 := n0_; have HB := n1_; clear n0_ n1_; (try clear hb); (try clear hb2); (try clear hk); (try clear hi); have hcz22_0 : w21.cell? ⟨gb277, 0, none⟩ = some (.int .i64 a0_0) := (blk_cell BK277.out 0).trans rfl; have hcz22_1 : w21.cell? ⟨gb277, 1, none⟩ = some (.int .i64 a0_1) := (blk_cell BK277.out 1).trans rfl; have hcz22_2 : w21.cell? ⟨gb277, 2, none⟩ = some (.slice A0_2 l0_2.length c0_2) := (blk_cell BK277.out 2).trans rfl; have hfz22_0 := blk_frozen BK277.out 0; have hfz22_1 := blk_frozen BK277.out 1; have hfz22_2 := blk_frozen BK277.out 2) | ((with_reducible refine gate_callee (f := 21) rfl ?_); refine goesL_ (some 13) rfl rfl Try.func21 (by kernel_rfl) rfl #[.agg #[.int .i64 a0_0, .int .i64 a0_1, .slice A0_2 l0_2.length c0_2]] rfl (by (try simp only [List.map_toArray, List.map_cons, List.map_nil]); first | done | rfl | (simp only [List.length_drop, List.length_take]; rfl)) ?_; (with_reducible refine (impl_tiles.calls k a0_0 a0_1 _ _ l0_2 t279 _ ?side1 ?side2 A5.out).mono ?_); (case side1 => exact cb_ HR0_2.out HB.out); (case side2 => exact HC0_2.out); rintro e w23 ⟨rfl, hb⟩; refine ⟨_, rfl, ?_⟩; have n0_ := mkA (blk_below (g := gb277) (o := .cells #[.int .i64 a0_0, .int .i64 a0_1, .slice A0_2 l0_2.length c0_2] 28 (0, 0)) (bl_ BK277.out) hb); have n1_ := mkA (below_step (bs1_ HB.out GE277.out) hb); clear BK277; clear HB; have BK277 := n0_; have HB := n1_; clear n0_ n1_; (try clear hb); (try clear hb2); (try clear hk); (try clear hi)) | ((with_reducible refine gate_callee (f := 20) rfl ?_); refine goesL_ (some 15) rfl rfl Try.func20 (by kernel_rfl) rfl #[.int .i64 a1, .int .i64 0, .int .i64 (wrap64 (t279 - 1))] rfl (by (try simp only [List.map_toArray, List.map_cons, List.map_nil]); first | done | rfl | (simp only [List.length_drop, List.length_take]; rfl)) ?_; (with_reducible refine (impl_within.calls a1 0 (wrap64 (t279 - 1)) false _ A6.out).mono ?_); rintro e w' ⟨rfl, ⟨nd, rfl⟩⟩; refine ⟨_, rfl, ?_⟩))
   go_ret2
   exact ⟨_, by first | rfl | (simp [errW_none, errW_some] <;> rfl) | (simp [*, errW_none, errW_some] <;> rfl), by first | exact Kd.R_nil _ _ _ _ _ | exact Kd.N_nil _ _ _ _ _ | exact Kd.V_nil _ _ _ _ _ | exact Kd.Q_nil _ _ _ _ _ | exact Kd.S_nil _ _ _ _ _, by repeat (first | (with_reducible first | exact HB.out | apply below_alloc | apply pw_below_drewN | apply below_drew1 | refine below_set ?_ GE277.out) | exact HB.out)⟩
 subst c7
 have H1 : ((impl_tileNeighbours.f k a0_0 a0_1 l0_2).bind fun t281 => (if 0 ≤ a1 then (if a1 < (t281.length : Int) then (some (rd_L1 t281 a1, 0)) else (none)) else (none))) = some (r1, r2) := by rw [if_pos rfl] at H; exact H
 clear H
 have H := H1
 clear H1
 replace H := Option.bind_eq_some_iff.mp H
 obtain ⟨t281, A80, H⟩ := H
 replace H : (if 0 ≤ a1 then (if a1 < (t281.length : Int) then (some (rd_L1 t281 a1, 0)) else (none)) else (none)) = some (r1, r2) := H
 have A8 := mkA A80
 clear A80
 by_cases c9 : 0 ≤ a1
 rotate_left
 · rw [if_neg c9] at H
   exact absurd H (by simp)
 rw [if_pos c9] at H
 have c9b0 : decide (0 ≤ a1) = true := decide_eq_true c9
 clear c9
 by_cases c10 : a1 < (t281.length : Int)
 rotate_left
 · rw [if_neg c10] at H
   exact absurd H (by simp)
 rw [if_pos c10] at H
 have c10b0 : decide (a1 < (t281.length : Int)) = true := decide_eq_true c10
 clear c10
 simp only [Option.some.injEq, Prod.mk.injEq] at H
 obtain ⟨rfl, rfl⟩ := H
 go_enter Try.func7, Try.ntmps7
 go_wp2_with (first | ((with_reducible refine gate_dst (N := 2) rfl ?_); refine box_event ?hg (N := 2) ?hd (cs := #[.int .i64 a0_0, .int .i64 a0_1, .slice A0_2 l0_2.length c0_2]) (t := 28) ?hr ?_; (case hd => rfl); (case hg => rfl); (case hr => first | (go_simp; done) | (go_simp; rfl)); intro gb277 hg w11 hbox hb; have n0_ := mkA (below_step (bs0_ HB.out) hb); have n1_ := mkA (hbox); have n2_ := mkA ((by rw [hg]; exact (below_size (bs0_ HB.out)) : w.heap.size ≤ gb277)); have n3_ := mkA ((by rw [hg]; exact (below_size (bs0_ HB.out)) : w.heap.size ≤ gb277)); clear HB; have HB := n0_; have BK277 := n1_; have GW277 := n2_; have GE277 := n3_; clear n0_ n1_ n2_ n3_; clear hb hbox hg; have hcz12_0 : w11.cell? ⟨gb277, 0, none⟩ = some (.int .i64 a0_0) := (blk_cell BK277.out 0).trans rfl; have hcz12_1 : w11.cell? ⟨gb277, 1, none⟩ = some (.int .i64 a0_1) := (blk_cell BK277.out 1).trans rfl; have hcz12_2 : w11.cell? ⟨gb277, 2, none⟩ = some (.slice A0_2 l0_2.length c0_2) := (blk_cell BK277.out 2).trans rfl; have hfz12_0 := blk_frozen BK277.out 0; have hfz12_1 := blk_frozen BK277.out 1; have hfz12_2 := blk_frozen BK277.out 2) | ((with_reducible refine gate_callee (f := 19) rfl ?_); refine goesL_ (some 8) rfl rfl Try.func19 (by kernel_rfl) rfl #[.agg #[.int .i64 a0_0, .int .i64 a0_1, .slice A0_2 l0_2.length c0_2]] rfl (by (try simp only [List.map_toArray, List.map_cons, List.map_nil]); first | done | rfl | (simp only [List.length_drop, List.length_take]; rfl)) ?_; (with_reducible refine (impl_ValidTiling.calls k a0_0 a0_1 _ _ l0_2 true _ ?side1 ?side2 A3.out).mono ?_); (case side1 => exact cb_ HR0_2.out HB.out); (case side2 => exact HC0_2.out); rintro e w13 ⟨rfl, hb⟩; refine ⟨_, rfl, ?_⟩; have n0_ := mkA (blk_below (g := gb277) (o := .cells #[.int .i64 a0_0, .int .i64 a0_1, .slice A0_2 l0_2.length c0_2] 28 (0, 0)) (bl_ BK277.out) hb); have n1_ := mkA (below_step (bs1_ HB.out GE277.out) hb); clear BK277; clear HB; have BK277 := n0_; have HB := n1_; clear n0_ n1_; (try clear hb); (try clear hb2); (try clear hk); (try clear hi); have hcz14_0 : w13.cell? ⟨gb277, 0, none⟩ = some (.int .i64 a0_0) := (blk_cell BK277.out 0).trans rfl; have hcz14_1 : w13.cell? ⟨gb277, 1, none⟩ = some (.int .i64 a0_1) := (blk_cell BK277.out 1).trans rfl; have hcz14_2 : w13.cell? ⟨gb277, 2, none⟩ = some (.slice A0_2 l0_2.length c0_2) := (blk_cell BK277.out 2).trans rfl; have hfz14_0 := blk_frozen BK277.out 0; have hfz14_1 := blk_frozen BK277.out 1; have hfz14_2 := blk_frozen BK277.out 2) | ((with_reducible refine gate_callee (f := 21) rfl ?_); refine goesL_ (some 13) rfl rfl Try.func21 (by kernel_rfl) rfl #[.agg #[.int .i64 a0_0, .int .i64 a0_1, .slice A0_2 l0_2.length c0_2]] rfl (by (try simp only [List.map_toArray, List.map_cons, List.map_nil]); first | done | rfl | (simp only [List.length_drop, List.length_take]; rfl)) ?_; (with_reducible refine (impl_tiles.calls k a0_0 a0_1 _ _ l0_2 t279 _ ?side1 ?side2 A5.out).mono ?_); (case side1 => exact cb_ HR0_2.out HB.out); (case side2 => exact HC0_2.out); rintro e w15 ⟨rfl, hb⟩; refine ⟨_, rfl, ?_⟩; have n0_ := mkA (blk_below (g := gb277) (o := .cells #[.int .i64 a0_0, .int .i64 a0_1, .slice A0_2 l0_2.length c0_2] 28 (0, 0)) (bl_ BK277.out) hb); have n1_ := mkA (below_step (bs1_ HB.out GE277.out) hb); clear BK277; clear HB; have BK277 := n0_; have HB := n1_; clear n0_ n1_; (try clear hb); (try clear hb2); (try clear hk); (try clear hi)) | ((with_reducible refine gate_callee (f := 20) rfl ?_); refine goesL_ (some 15) rfl rfl Try.func20 (by kernel_rfl) rfl #[.int .i64 a1, .int .i64 0, .int .i64 (wrap64 (t279 - 1))] rfl (by (try simp only [List.map_toArray, List.map_cons, List.map_nil]); first | done | rfl | (simp only [List.length_drop, List.length_take]; rfl)) ?_; (with_reducible refine (impl_within.calls a1 0 (wrap64 (t279 - 1)) true _ A6.out).mono ?_); rintro e w' ⟨rfl, ⟨nd, rfl⟩⟩; refine ⟨_, rfl, ?_⟩; have hcz16_0 : w15.cell? ⟨gb277, 0, none⟩ = some (.int .i64 a0_0) := (blk_cell BK277.out 0).trans rfl; have hcz16_1 : w15.cell? ⟨gb277, 1, none⟩ = some (.int .i64 a0_1) := (blk_cell BK277.out 1).trans rfl; have hcz16_2 : w15.cell? ⟨gb277, 2, none⟩ = some (.slice A0_2 l0_2.length c0_2) := (blk_cell BK277.out 2).trans rfl; have hfz16_0 := blk_frozen BK277.out 0; have hfz16_1 := blk_frozen BK277.out 1; have hfz16_2 := blk_frozen BK277.out 2) | ((with_reducible refine gate_callee (f := 22) rfl ?_); refine goesL_ (some 18) rfl rfl Try.func22 (by kernel_rfl) rfl #[.agg #[.int .i64 a0_0, .int .i64 a0_1, .slice A0_2 l0_2.length c0_2]] rfl (by (try simp only [List.map_toArray, List.map_cons, List.map_nil]); first | done | rfl | (simp only [List.length_drop, List.length_take]; rfl)) ?_; (with_reducible refine (impl_tileNeighbours.calls k a0_0 a0_1 _ _ l0_2 t281 _ ?side1 ?side2 A8.out).mono ?_); (case side1 => repeat (first | exact (Kd.C_below HR0_2.out (bs1_ HB.out GE277.out)) | (with_reducible refine Kd.C_alloc ?_ _) | (with_reducible refine Kd.C_drewN ?_ _) | (with_reducible refine Kd.C_drew ?_))); (case side2 => exact HC0_2.out); rintro e w17 ⟨v282, rfl, ho0, hb⟩; refine ⟨_, rfl, ?_⟩; have n0_ := mkA (Kd.S_lower ho0 (below_size (bs1_ HB.out GE277.out))); have n1_ := mkA (blk_below (g := gb277) (o := .cells #[.int .i64 a0_0, .int .i64 a0_1, .slice A0_2 l0_2.length c0_2] 28 (0, 0)) (bl_ BK277.out) hb); have n2_ := mkA (below_step (bs1_ HB.out GE277.out) hb); clear BK277; clear HB; have HO283 := n0_; have BK277 := n1_; have HB := n2_; clear n0_ n1_ n2_; (try clear hb); (try clear hb2); (try clear hk); (try clear hi); (try clear ho0); obtain ⟨Ao18, co18, eo18⟩ := Kd.S_slice HO283.out; subst eo18; have p284 : 0 ≤ (a1 : Int) := dt_; have q284 : a1 < (t281.length : Int) := dt_; obtain ⟨ad284, A284_0, c284_0, e284, hx284_0, hl284_0, hi284_0⟩ := at_L1 (Kd.S_reads' HO283.out).2.2 a1 p284 q284; cases e284; obtain ⟨ce284, hce284, hMe284, hcc284⟩ := Kd.S_get HO283.out [] a1 p284 (by first | exact q284 | exact dt_ | (have e_ := (Kd.S_reads' HO283.out).1; omega)); obtain ⟨ve284_0, rfl, ge284_0⟩ := hMe284; have hv284_0 := hcc284 0 _ rfl; rw [Nat.add_zero, show ((Kd.slice 2 (Kd.int .i64))).sz = 1 from rfl, Nat.mul_one] at hv284_0; replace hv284_0 := Option.some.inj (hv284_0.symm.trans hx284_0); rw [hv284_0] at ge284_0; have HL284_0 := mkA (show Kd.R (Kd.int .i64) 2 _ _ _ _ (rd_L1 t281 a1) from ge284_0); clear hv284_0 ge284_0; clear hcc284 hce284; have HR284_0 := mkA hi284_0; have HC284_0 := mkA hl284_0; clear hi284_0 hl284_0; replace p284 := eq_true p284; replace q284 := eq_true q284))
 go_ret2
 exact ⟨_, by first | rfl | (simp [errW_none, errW_some] <;> rfl) | (simp [*, errW_none, errW_some] <;> rfl), by (with_reducible repeat (first | apply Kd.R_alloc | apply Kd.R_drewN | apply Kd.R_drew)); exact Kd.R_mono HL284_0.out (fun _ hk => trivial), by repeat (first | (with_reducible first | exact HB.out | apply below_alloc | apply pw_below_drewN | apply below_drew1 | refine below_set ?_ GE277.out) | exact HB.out)⟩
/-! ### laws_eqInt64S: function 8 -/
def laws_eqInt64S.l0 : Nat → List Int → List Int → Int → Option (Bool)
  | 0, _, _, _ => none
  | k + 1, x0, x1, x5 => if x5 < (x0.length : Int) then (if 0 ≤ x5 then (if x5 < (x1.length : Int) then (if (rd x0 x5) = (rd x1 x5) then (laws_eqInt64S.l0 k x0 x1 (wrap64 (x5 + 1))) else (some false)) else (none)) else (none)) else (some true)
def laws_eqInt64S.f (k : Nat) (l0 : List Int) (l1 : List Int) : Option (Bool) := if (l0.length : Int) = (l1.length : Int) then (laws_eqInt64S.l0 k l0 l1 0) else (some false)
theorem laws_eqInt64S.mono_l : ∀ k, (∀ y0 y1 y2, LeO (laws_eqInt64S.l0 k y0 y1 y2) (laws_eqInt64S.l0 (k + 1) y0 y1 y2))
  | 0 => fun _ _ _ r h => by simp [laws_eqInt64S.l0] at h
  | k + 1 => by
    have ih0 := laws_eqInt64S.mono_l k
    · intro y0 y1 y2
      unfold laws_eqInt64S.l0
      repeat' first
      | (with_reducible exact ih0 _ _ _)
      | (with_reducible exact LeO.refl _)
      | (with_reducible exact LeO.none _)
      | (with_reducible refine LeO.ite ?_ ?_)
      | (with_reducible refine LeO.bind ?_ (fun _ => ?_))
      | exact ih0 _ _ _
      | exact LeO.none _
      | refine LeO.ite ?_ ?_
      | refine LeO.bind ?_ (fun _ => ?_)
theorem laws_eqInt64S.mono : ∀ a0 a1 k, LeO (laws_eqInt64S.f k a0 a1) (laws_eqInt64S.f (k + 1) a0 a1) := by
  intro a0 a1 k
  have ih0 := laws_eqInt64S.mono_l k
  unfold laws_eqInt64S.f
  repeat' first
      | (with_reducible exact ih0 _ _ _)
      | (with_reducible exact LeO.refl _)
      | (with_reducible exact LeO.none _)
      | (with_reducible refine LeO.ite ?_ ?_)
      | (with_reducible refine LeO.bind ?_ (fun _ => ?_))
      | exact ih0 _ _ _
      | exact LeO.none _
      | refine LeO.ite ?_ ?_
      | refine LeO.bind ?_ (fun _ => ?_)
open List renaming setIfInBounds_toArray → sA, set_cons_zero → sB, set_cons_succ → sC
open Go.Proofs.YtopopjkoanpjiaaW.PrintWords.Aside0 renaming mk → mkA
open Go.Proofs.YtopopjkoanpjiaaX (dt_ bc_ p0_ p1_ bl_ cb_ bs0_ bs1_ bs2_ bs3_ bs4_ bs5_ bs6_ bs7_ bs8_ bs9_ bs10_ bs11_ bs12_)
set_option maxHeartbeats 8000000 in
set_option maxRecDepth 100000 in
theorem laws_eqInt64S.calls (k : Nat) (A0 : Option Addr) (c0 : Nat) (l0 : List Int) (A1 : Option Addr) (c1 : Nat) (l1 : List Int) (r : Bool) (w : World) (hr0 : Kd.C (Kd.int .i64) w A0 l0.length l0) (hc0 : l0.length ≤ c0) (hr1 : Kd.C (Kd.int .i64) w A1 l1.length l1) (hc1 : l1.length ≤ c1) (h : laws_eqInt64S.f k l0 l1 = some r) :
 Calls Try.prog 8 #[.slice A0 l0.length c0, .slice A1 l1.length c1] w fun e w' => e = .returned (.bool r) ∧ Drawn0 w w' := by
 have HR0 := mkA hr0
 have HC0 := mkA hc0
 clear hr0 hc0
 have HR1 := mkA hr1
 have HC1 := mkA hc1
 clear hr1 hc1
 have H : (if (l0.length : Int) = (l1.length : Int) then (laws_eqInt64S.l0 k l0 l1 0) else (some false)) = some r := h
 clear h
 by_cases c3 : (l0.length : Int) = (l1.length : Int)
 rotate_left
 · rw [if_neg c3] at H
   have c3b0 : ((l0.length : Int) == (l1.length : Int)) = false := beq_eq_false_iff_ne.mpr c3
   have c3b1 : ((l0.length : Int) != (l1.length : Int)) = true := bne_iff_ne.mpr c3
   have c3b2 : (l0.length == l1.length) = false := by first | simpa using c3 | (simp at c3 ⊢; omega)
   obtain rfl := Option.some.inj H
   go_enter Try.func8, Try.ntmps8
   go_wp2
   repeat (go_quiet (fail); try go_wp2)
   go_ret
   exact ⟨by first | rfl | (simp; done) | (simp [*]; done) | (simp [i64_w, i32_w]; done), by repeat (first | exact Drawn0.refl _ | apply Drawn0.step)⟩

 rw [if_pos c3] at H
 have c3b0 : ((l0.length : Int) == (l1.length : Int)) = true := beq_iff_eq.mpr c3
 have c3b1 : ((l0.length : Int) != (l1.length : Int)) = false := bne_eq_false_iff_eq.mpr c3
 have c3b2 : (l0.length == l1.length) = true := by first | simpa using c3 | (simp at c3 ⊢; omega)
 clear c3
 have H' := mkA H
 clear H
 go_enter Try.func8, Try.ntmps8
 go_wp2
 repeat (go_quiet (fail); try go_wp2)
 go_loopg [5] k (fun kq v5 w' => ∃ (x5_1 : Int), v5 = .int .i64 x5_1 ∧ Aside0 (laws_eqInt64S.l0 kq l0 l1 x5_1 = some r) ∧ Aside0 (kq ≤ k) ∧ Drawn0 w w')
 case atStart => exact ⟨(0), (by first | rfl | (simp; done) | (simp [*]; done) | (simp [i64_w, i32_w]; done)), H', ⟨Nat.le_refl _⟩, by repeat (first | exact Drawn0.refl _ | apply Drawn0.step)⟩
 case round =>
  clear H'
  try clear c1
  try clear p2
  try clear c3
  try clear c3b0
  try clear c3b1
  try clear c3b2
  obtain ⟨x5_1, rfl, HA, HK1, ⟨m1, rfl⟩⟩ := hrel
  cases gk with
  | zero => exact absurd HA.out (by simp [laws_eqInt64S.l0])
  | succ k1 =>
   have H := HA.out
   clear HA
   simp only [laws_eqInt64S.l0] at H
   by_cases c4 : x5_1 < (l0.length : Int)
   rotate_left
   · rw [if_neg c4] at H
     have c4b0 : decide (x5_1 < (l0.length : Int)) = false := decide_eq_false c4
     clear c4
     obtain rfl := Option.some.inj H
     go_wp2
     repeat (go_quiet (fail); try go_wp2)
     go_ret
     exact ⟨by first | rfl | (simp; done) | (simp [*]; done) | (simp [i64_w, i32_w]; done), by repeat (first | exact Drawn0.refl _ | apply Drawn0.step)⟩
   rw [if_pos c4] at H
   have c4b0 : decide (x5_1 < (l0.length : Int)) = true := decide_eq_true c4
   clear c4
   by_cases c5 : 0 ≤ x5_1
   rotate_left
   · rw [if_neg c5] at H
     exact absurd H (by simp)
   rw [if_pos c5] at H
   have c5b0 : decide (0 ≤ x5_1) = true := decide_eq_true c5
   clear c5
   by_cases c6 : x5_1 < (l1.length : Int)
   rotate_left
   · rw [if_neg c6] at H
     exact absurd H (by simp)
   rw [if_pos c6] at H
   have c6b0 : decide (x5_1 < (l1.length : Int)) = true := decide_eq_true c6
   clear c6
   by_cases c7 : (rd l0 x5_1) = (rd l1 x5_1)
   rotate_left
   · rw [if_neg c7] at H
     have c7b0 : ((rd l0 x5_1) == (rd l1 x5_1)) = false := beq_eq_false_iff_ne.mpr c7
     have c7b1 : ((rd l0 x5_1) != (rd l1 x5_1)) = true := bne_iff_ne.mpr c7
     obtain rfl := Option.some.inj H
     have p285 : 0 ≤ (x5_1 : Int) := dt_
     have q285 : x5_1 < (l0.length : Int) := dt_
     obtain ⟨ad285, e285, hx285_0⟩ := Kd.at_int HR0.out x5_1 p285 q285
     cases e285
     replace p285 := eq_true p285
     replace q285 := eq_true q285
     have p286 : 0 ≤ (x5_1 : Int) := dt_
     have q286 : x5_1 < (l1.length : Int) := dt_
     obtain ⟨ad286, e286, hx286_0⟩ := Kd.at_int HR1.out x5_1 p286 q286
     cases e286
     replace p286 := eq_true p286
     replace q286 := eq_true q286
     go_wp2
     repeat (go_quiet (fail); try go_wp2)
     go_ret
     exact ⟨by first | rfl | (simp; done) | (simp [*]; done) | (simp [i64_w, i32_w]; done), by repeat (first | exact Drawn0.refl _ | apply Drawn0.step)⟩
   rw [if_pos c7] at H
   have c7b0 : ((rd l0 x5_1) == (rd l1 x5_1)) = true := beq_iff_eq.mpr c7
   have c7b1 : ((rd l0 x5_1) != (rd l1 x5_1)) = false := bne_eq_false_iff_eq.mpr c7
   clear c7
   have H' := mkA H
   clear H
   have p285 : 0 ≤ (x5_1 : Int) := dt_
   have q285 : x5_1 < (l0.length : Int) := dt_
   obtain ⟨ad285, e285, hx285_0⟩ := Kd.at_int HR0.out x5_1 p285 q285
   cases e285
   replace p285 := eq_true p285
   replace q285 := eq_true q285
   have p286 : 0 ≤ (x5_1 : Int) := dt_
   have q286 : x5_1 < (l1.length : Int) := dt_
   obtain ⟨ad286, e286, hx286_0⟩ := Kd.at_int HR1.out x5_1 p286 q286
   cases e286
   replace p286 := eq_true p286
   replace q286 := eq_true q286
   go_wp2
   repeat (go_quiet (fail); try go_wp2)
   go_roundg k1
   case measure => have := HK1.out; omega
   case rel => exact ⟨(wrap64 (x5_1 + 1)), (by first | rfl | (simp; done) | (simp [*]; done) | (simp [i64_w, i32_w]; done)), H', ⟨by have := HK1.out; omega⟩, by repeat (first | exact Drawn0.refl _ | apply Drawn0.step)⟩
end Go.Proofs.Ytopopjkoanpjiaa.GFnExactTileNeighbours

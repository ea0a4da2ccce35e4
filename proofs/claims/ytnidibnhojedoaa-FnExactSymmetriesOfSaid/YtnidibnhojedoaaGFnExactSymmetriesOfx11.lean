-- Written by the session's own program (gen.py) out of the translation's print. Lean checks it.
import Derived.Test.YtnidibnhojedoaaGFnExactSymmetriesOfx0
import Derived.Test.YtnidibnhojedoaaGFnExactSymmetriesOfx8
import Derived.Test.YtnidibnhojedoaaGFnExactSymmetriesOfx10
namespace Go.Proofs.Ytnidibnhojedoaa.GFnExactSymmetriesOf
open Go.RowKit Go.Proofs.YtnidibnhojedoaaW.PrintWords Go.Proofs.YtnidibnhojedoaaW.PrintLast Go.Proofs.YtnidibnhojedoaaW.PrintMore
attribute [local go_sem] max2_int min2_int max_two min_two max_three min_three max_four min_four   -- for this text's walks alone
set_option linter.unusedVariables false
set_option linter.unusedSimpArgs false

/-! ### impl_images: function 74 -/
mutual
def impl_images.l0 : Nat → List Int → List Int → List Int → Int → Int → Int → Int → List Int → Int → Int → Int → Option (List Int × Bool)
  | 0, _, _, _, _, _, _, _, _, _, _, _ => none
  | k + 1, x6, x7, x21, x22, x23, x310000, x310001, x310002, x311000, x311001, x311002 => if x23 < x22 then (if 0 ≤ x23 then (if x23 < (x21.length : Int) then (if x310000 = 0 then (none) else ((impl_moveCell.f k x310000 x310001 x310002 x311000 x311001 x311002 (Int.tmod x23 x310000) (wrap64 (Int.tdiv x23 x310000))).bind fun bt320 => ((impl_tileAt.f x310000 x310001 x310002 bt320.1 bt320.2).bind fun t322 => (if 0 ≤ (rd x21 x23) then (if (rd x21 x23) < (x6.length : Int) then (if (rd x6 (rd x21 x23)) = 0 then (if 0 ≤ t322 then (if t322 < (x7.length : Int) then (if (rd x7 t322) = 0 then (impl_images.l0 k (x6.set ((rd x21 x23) : Int).toNat (wrap64 (t322 + 1))) (x7.set (t322 : Int).toNat (wrap64 ((rd x21 x23) + 1))) x21 x22 (wrap64 (x23 + 1)) x310000 x310001 x310002 x311000 x311001 x311002) else (if (rd x7 t322) = (wrap64 ((rd x21 x23) + 1)) then (impl_images.l0 k (x6.set ((rd x21 x23) : Int).toNat (wrap64 (t322 + 1))) (x7.set (t322 : Int).toNat (wrap64 ((rd x21 x23) + 1))) x21 x22 (wrap64 (x23 + 1)) x310000 x310001 x310002 x311000 x311001 x311002) else (some (([] : List Int), false)))) else (none)) else (none)) else (if (rd x6 (rd x21 x23)) = (wrap64 (t322 + 1)) then (if 0 ≤ t322 then (if t322 < (x7.length : Int) then (if (rd x7 t322) = 0 then (impl_images.l0 k (x6.set ((rd x21 x23) : Int).toNat (wrap64 (t322 + 1))) (x7.set (t322 : Int).toNat (wrap64 ((rd x21 x23) + 1))) x21 x22 (wrap64 (x23 + 1)) x310000 x310001 x310002 x311000 x311001 x311002) else (if (rd x7 t322) = (wrap64 ((rd x21 x23) + 1)) then (impl_images.l0 k (x6.set ((rd x21 x23) : Int).toNat (wrap64 (t322 + 1))) (x7.set (t322 : Int).toNat (wrap64 ((rd x21 x23) + 1))) x21 x22 (wrap64 (x23 + 1)) x310000 x310001 x310002 x311000 x311001 x311002) else (some (([] : List Int), false)))) else (none)) else (none)) else (some (([] : List Int), false)))) else (none)) else (none))))) else (none)) else (none)) else (impl_images.l1 k x6 (x6.length : Int) 0)
def impl_images.l1 : Nat → List Int → Int → Int → Option (List Int × Bool)
  | 0, _, _, _ => none
  | k + 1, x6, x88, x89 => if x89 < x88 then (if 0 ≤ x89 then (if x89 < (x6.length : Int) then (impl_images.l1 k (x6.set (x89 : Int).toNat (wrap64 ((rd x6 x89) - 1))) x88 (wrap64 (x89 + 1))) else (none)) else (none)) else (some (x6, true))
end
def impl_images.f (k : Nat) (a0_0 : Int) (a0_1 : Int) (l0_2 : List Int) (a1_0 : Int) (a1_1 : Int) (a1_2 : Int) : Option (List Int × Bool) := (impl_tiles.f k a0_0 a0_1 l0_2).bind fun t311 => (if 0 ≤ t311 then (if (t311 : Int).toNat ≤ 35184372088832 then ((impl_tiles.f k a0_0 a0_1 l0_2).bind fun t315 => (if 0 ≤ t315 then (if (t315 : Int).toNat ≤ 35184372088832 then (impl_images.l0 k (List.replicate (t311 : Int).toNat 0) (List.replicate (t315 : Int).toNat 0) l0_2 (l0_2.length : Int) 0 a0_0 a0_1 l0_2 a1_0 a1_1 a1_2) else (none)) else (none))) else (none)) else (none))
theorem impl_images.mono_l : ∀ k, (∀ y0 y1 y2 y3 y4 y5 y6 y7 y8 y9 y10, LeO (impl_images.l0 k y0 y1 y2 y3 y4 y5 y6 y7 y8 y9 y10) (impl_images.l0 (k + 1) y0 y1 y2 y3 y4 y5 y6 y7 y8 y9 y10)) ∧ (∀ y0 y1 y2, LeO (impl_images.l1 k y0 y1 y2) (impl_images.l1 (k + 1) y0 y1 y2))
  | 0 => ⟨fun _ _ _ _ _ _ _ _ _ _ _ r h => by simp [impl_images.l0] at h, fun _ _ _ r h => by simp [impl_images.l1] at h⟩
  | k + 1 => by
    obtain ⟨ih0, ih1⟩ := impl_images.mono_l k
    refine ⟨?_, ?_⟩
    · intro y0 y1 y2 y3 y4 y5 y6 y7 y8 y9 y10
      unfold impl_images.l0
      repeat' first
      | (with_reducible exact ih0 _ _ _ _ _ _ _ _ _ _ _)
      | (with_reducible exact ih1 _ _ _)
      | (with_reducible exact impl_moveCell.mono _ _ _ _ _ _ _ _ _)
      | (with_reducible exact impl_tiles.mono _ _ _ _)
      | (with_reducible exact LeO.refl _)
      | (with_reducible exact LeO.none _)
      | (with_reducible refine LeO.ite ?_ ?_)
      | (with_reducible refine LeO.bind ?_ (fun _ => ?_))
      | exact ih0 _ _ _ _ _ _ _ _ _ _ _
      | exact ih1 _ _ _
      | exact impl_moveCell.mono _ _ _ _ _ _ _ _ _
      | exact impl_tiles.mono _ _ _ _
      | exact LeO.none _
      | refine LeO.ite ?_ ?_
      | refine LeO.bind ?_ (fun _ => ?_)
    · intro y0 y1 y2
      unfold impl_images.l1
      repeat' first
      | (with_reducible exact ih0 _ _ _ _ _ _ _ _ _ _ _)
      | (with_reducible exact ih1 _ _ _)
      | (with_reducible exact impl_moveCell.mono _ _ _ _ _ _ _ _ _)
      | (with_reducible exact impl_tiles.mono _ _ _ _)
      | (with_reducible exact LeO.refl _)
      | (with_reducible exact LeO.none _)
      | (with_reducible refine LeO.ite ?_ ?_)
      | (with_reducible refine LeO.bind ?_ (fun _ => ?_))
      | exact ih0 _ _ _ _ _ _ _ _ _ _ _
      | exact ih1 _ _ _
      | exact impl_moveCell.mono _ _ _ _ _ _ _ _ _
      | exact impl_tiles.mono _ _ _ _
      | exact LeO.none _
      | refine LeO.ite ?_ ?_
      | refine LeO.bind ?_ (fun _ => ?_)
theorem impl_images.mono : ∀ a0 a1 a2 a3 a4 a5 k, LeO (impl_images.f k a0 a1 a2 a3 a4 a5) (impl_images.f (k + 1) a0 a1 a2 a3 a4 a5) := by
  intro a0 a1 a2 a3 a4 a5 k
  obtain ⟨ih0, ih1⟩ := impl_images.mono_l k
  unfold impl_images.f
  repeat' first
      | (with_reducible exact ih0 _ _ _ _ _ _ _ _ _ _ _)
      | (with_reducible exact ih1 _ _ _)
      | (with_reducible exact impl_moveCell.mono _ _ _ _ _ _ _ _ _)
      | (with_reducible exact impl_tiles.mono _ _ _ _)
      | (with_reducible exact LeO.refl _)
      | (with_reducible exact LeO.none _)
      | (with_reducible refine LeO.ite ?_ ?_)
      | (with_reducible refine LeO.bind ?_ (fun _ => ?_))
      | exact ih0 _ _ _ _ _ _ _ _ _ _ _
      | exact ih1 _ _ _
      | exact impl_moveCell.mono _ _ _ _ _ _ _ _ _
      | exact impl_tiles.mono _ _ _ _
      | exact LeO.none _
      | refine LeO.ite ?_ ?_
      | refine LeO.bind ?_ (fun _ => ?_)
def impl_images.T6 : Bool × List (List Nat × List Nat) := (true, [([], []), ([], []), ([], []), ([], []), ([3], [3]), ([2, 4], [2, 4]), ([], []), ([], []), ([7], [7]), ([6, 8], [6, 8]), ([0, 1, 5, 9], [0, 1, 5, 9]), ([10], [10]), ([11], [11]), ([11], [11]), ([12, 10, 0, 1, 2, 3, 4, 5, 6, 7, 8, 9, 10, 11, 12], [12]), ([13, 14, 0, 1, 2, 3, 4, 5, 6, 7, 8, 9, 10, 11, 12, 13, 14], [13])])
def impl_images.B6 : List Nat := [0, 0, 0, 0, 8, 28, 0, 0, 128, 448, 1023, 2047, 4095, 4095, 8191, 32767]
theorem impl_images.tab6 : rtab .any (opsOf Try.f74 6) = impl_images.T6 := by kernel_rfl
theorem impl_images.bits6 : waitsOk impl_images.T6.2 impl_images.B6 = true := by kernel_rfl
open List renaming setIfInBounds_toArray → sA, set_cons_zero → sB, set_cons_succ → sC
open Go.Proofs.YtnidibnhojedoaaW.PrintWords.Aside0 renaming mk → mkA
open Go.Proofs.YtnidibnhojedoaaX (dt_ bc_ p0_ p1_ bl_ cb_ bs0_ bs1_ bs2_ bs3_ bs4_ bs5_ bs6_ bs7_ bs8_ bs9_ bs10_ bs11_ bs12_)
abbrev impl_images.d0 : Array Bool := #[false, false, false, false, false, false, false, false, false, false, false, false, false, false, false, false]
abbrev impl_images.d1 : Array Bool := #[false, false, true, false, false, false, false, false, false, false, false, false, false, false, false, false]
abbrev impl_images.d2 : Array Bool := #[false, false, true, true, false, false, false, false, false, false, false, false, false, false, false, false]
abbrev impl_images.d3 : Array Bool := #[false, false, true, true, false, false, true, false, false, false, false, false, false, false, false, false]
abbrev impl_images.d4 : Array Bool := #[false, false, true, true, false, false, true, true, false, false, false, false, false, false, false, false]
abbrev impl_images.d5 : Array Bool := #[true, false, true, true, false, false, true, true, false, false, false, false, false, false, false, false]
abbrev impl_images.d6 : Array Bool := #[true, true, true, true, false, false, true, true, false, false, false, false, false, false, false, false]
abbrev impl_images.d7 : Array Bool := #[true, true, true, true, true, false, true, true, false, false, false, false, false, false, false, false]
abbrev impl_images.d8 : Array Bool := #[true, true, true, true, true, true, true, true, false, false, false, false, false, false, false, false]
abbrev impl_images.d9 : Array Bool := #[true, true, true, true, true, true, true, true, true, false, false, false, false, false, false, false]
abbrev impl_images.d10 : Array Bool := #[true, true, true, true, true, true, true, true, true, true, false, false, false, false, false, false]
abbrev impl_images.d11 : Array Bool := #[true, true, true, true, true, true, true, true, true, true, true, false, false, false, false, false]
abbrev impl_images.d12 : Array Bool := #[true, true, true, true, true, true, true, true, true, true, true, true, false, false, false, false]
abbrev impl_images.d13 : Array Bool := #[true, true, true, true, true, true, true, true, true, true, true, true, true, false, false, false]
abbrev impl_images.d14 : Array Bool := #[true, true, true, true, true, true, true, true, true, true, true, true, true, true, false, false]
abbrev impl_images.d15 : Array Bool := #[true, true, true, true, true, true, true, true, true, true, true, true, true, true, true, false]
abbrev impl_images.d16 : Array Bool := #[true, true, true, true, true, true, true, true, true, true, true, true, true, true, true, true]
set_option maxHeartbeats 8000000 in
set_option maxRecDepth 100000 in
theorem impl_images.calls (k : Nat) (a0_0 : Int) (a0_1 : Int) (A0_2 : Option Addr) (c0_2 : Nat) (l0_2 : List Int) (a1_0 : Int) (a1_1 : Int) (a1_2 : Int) (r1 : List Int) (r2 : Bool) (w : World) (hr0_2 : Kd.C (Kd.int .i64) w A0_2 l0_2.length l0_2) (hc0_2 : l0_2.length ≤ c0_2) (h : impl_images.f k a0_0 a0_1 l0_2 a1_0 a1_1 a1_2 = some (r1, r2)) :
 Calls Try.prog 74 #[.agg #[.int .i64 a0_0, .int .i64 a0_1, .slice A0_2 l0_2.length c0_2], .agg #[.int .i64 a1_0, .int .i64 a1_1, .int .i64 a1_2]] w fun e w' => ∃ v0_ : Value, e = .returned (.tuple #[v0_, .bool r2]) ∧ Kd.R (Kd.int .i64) 2 w' w.heap.size (fun _ => True) v0_ r1 ∧ Below w.heap.size w w' := by
 have hu29 := Try.underlying29
 have hu31 := Try.underlying31
 have HR0_2 := mkA hr0_2
 have HC0_2 := mkA hc0_2
 clear hr0_2 hc0_2
 have HB := mkA (Below.refl w.heap.size w)
 have H : ((impl_tiles.f k a0_0 a0_1 l0_2).bind fun t311 => (if 0 ≤ t311 then (if (t311 : Int).toNat ≤ 35184372088832 then ((impl_tiles.f k a0_0 a0_1 l0_2).bind fun t315 => (if 0 ≤ t315 then (if (t315 : Int).toNat ≤ 35184372088832 then (impl_images.l0 k (List.replicate (t311 : Int).toNat 0) (List.replicate (t315 : Int).toNat 0) l0_2 (l0_2.length : Int) 0 a0_0 a0_1 l0_2 a1_0 a1_1 a1_2) else (none)) else (none))) else (none)) else (none))) = some (r1, r2) := h
 clear h
 replace H := Option.bind_eq_some_iff.mp H
 obtain ⟨t311, A30, H⟩ := H
 replace H : (if 0 ≤ t311 then (if (t311 : Int).toNat ≤ 35184372088832 then ((impl_tiles.f k a0_0 a0_1 l0_2).bind fun t315 => (if 0 ≤ t315 then (if (t315 : Int).toNat ≤ 35184372088832 then (impl_images.l0 k (List.replicate (t311 : Int).toNat 0) (List.replicate (t315 : Int).toNat 0) l0_2 (l0_2.length : Int) 0 a0_0 a0_1 l0_2 a1_0 a1_1 a1_2) else (none)) else (none))) else (none)) else (none)) = some (r1, r2) := H
 have A3 := mkA A30
 clear A30
 by_cases c4 : 0 ≤ t311
 rotate_left
 · rw [if_neg c4] at H
   exact absurd H (by simp)

 rw [if_pos c4] at H
 have c4b0 := eq_true c4
 have c4b1 : decide (0 ≤ t311) = true := decide_eq_true c4
 clear c4
 by_cases c5 : (t311 : Int).toNat ≤ 35184372088832
 rotate_left
 · rw [if_neg c5] at H
   exact absurd H (by simp)
 rw [if_pos c5] at H
 have c5b0 := eq_true c5
 have c5b1 : decide ((t311 : Int).toNat ≤ 35184372088832) = true := decide_eq_true c5
 clear c5
 obtain ⟨y312, hy312⟩ : ∃ y_ : List Int, y_ = (List.replicate (t311 : Int).toNat 0) := ⟨_, rfl⟩
 replace H : ((impl_tiles.f k a0_0 a0_1 l0_2).bind fun t315 => (if 0 ≤ t315 then (if (t315 : Int).toNat ≤ 35184372088832 then (impl_images.l0 k y312 (List.replicate (t315 : Int).toNat 0) l0_2 (l0_2.length : Int) 0 a0_0 a0_1 l0_2 a1_0 a1_1 a1_2) else (none)) else (none))) = some (r1, r2) := by first | (rw [hy312]; with_reducible exact H) | (have H2_ := (Option.bind_some _ _).symm.trans H; rw [hy312]; with_reducible exact H2_) | (have H2_ := (Option.bind_some _ _).symm.trans H; with_reducible exact H2_) | with_reducible exact H | (rw [hy312]; exact H) | exact H
 have Ny312 := mkA hy312
 clear hy312
 replace H := Option.bind_eq_some_iff.mp H
 obtain ⟨t315, A60, H⟩ := H
 replace H : (if 0 ≤ t315 then (if (t315 : Int).toNat ≤ 35184372088832 then (impl_images.l0 k y312 (List.replicate (t315 : Int).toNat 0) l0_2 (l0_2.length : Int) 0 a0_0 a0_1 l0_2 a1_0 a1_1 a1_2) else (none)) else (none)) = some (r1, r2) := H
 have A6 := mkA A60
 clear A60
 by_cases c7 : 0 ≤ t315
 rotate_left
 · rw [if_neg c7] at H
   exact absurd H (by simp)
 rw [if_pos c7] at H
 have c7b0 := eq_true c7
 have c7b1 : decide (0 ≤ t315) = true := decide_eq_true c7
 clear c7
 by_cases c8 : (t315 : Int).toNat ≤ 35184372088832
 rotate_left
 · rw [if_neg c8] at H
   exact absurd H (by simp)
 rw [if_pos c8] at H
 have c8b0 := eq_true c8
 have c8b1 : decide ((t315 : Int).toNat ≤ 35184372088832) = true := decide_eq_true c8
 clear c8
 obtain ⟨y316, hy316⟩ : ∃ y_ : List Int, y_ = (List.replicate (t315 : Int).toNat 0) := ⟨_, rfl⟩
 replace H : (impl_images.l0 k y312 y316 l0_2 (l0_2.length : Int) 0 a0_0 a0_1 l0_2 a1_0 a1_1 a1_2) = some (r1, r2) := by first | (rw [hy316]; with_reducible exact H) | (have H2_ := (Option.bind_some _ _).symm.trans H; rw [hy316]; with_reducible exact H2_) | (have H2_ := (Option.bind_some _ _).symm.trans H; with_reducible exact H2_) | with_reducible exact H | (rw [hy316]; exact H) | exact H
 have Ny316 := mkA hy316
 clear hy316
 have H' := mkA H
 clear H
 go_enter Try.func74, Try.ntmps74
 go_wp2_with (first | ((with_reducible refine gate_dst (N := 2) rfl ?_); refine box_event ?hg (N := 2) ?hd (cs := #[.int .i64 a0_0, .int .i64 a0_1, .slice A0_2 l0_2.length c0_2]) (t := 29) ?hr ?_; (case hd => rfl); (case hg => rfl); (case hr => first | (go_simp; done) | (go_simp; rfl)); intro gb309 hg w9 hbox hb; have n0_ := mkA (below_step (bs0_ HB.out) hb); have n1_ := mkA (hbox); have n2_ := mkA ((by rw [hg]; exact (below_size (bs0_ HB.out)) : w.heap.size ≤ gb309)); have n3_ := mkA ((by rw [hg]; exact (below_size (bs0_ HB.out)) : w.heap.size ≤ gb309)); clear HB; have HB := n0_; have BK309 := n1_; have GW309 := n2_; have GE309 := n3_; clear n0_ n1_ n2_ n3_; clear hb hbox hg) | ((with_reducible refine gate_dst (N := 3) rfl ?_); refine box_event ?hg (N := 3) ?hd (cs := #[.int .i64 a1_0, .int .i64 a1_1, .int .i64 a1_2]) (t := 31) ?hr ?_; (case hd => rfl); (case hg => rfl); (case hr => first | (go_simp; done) | (go_simp; rfl)); intro gb310 hg w10 hbox hb; have n0_ := mkA (blk_below (g := gb309) (o := .cells #[.int .i64 a0_0, .int .i64 a0_1, .slice A0_2 l0_2.length c0_2] 29 (0, 0)) (bl_ BK309.out) hb); have n1_ := mkA (below_step (bs1_ HB.out GE309.out) hb); have n2_ := mkA (hbox); have n3_ := mkA ((by rw [hg]; exact (below_size (bs1_ HB.out GE309.out)) : w.heap.size ≤ gb310)); have n4_ := mkA ((by rw [hg]; exact (below_size (bs1_ HB.out GE309.out)) : w.heap.size ≤ gb310)); have n5_ := mkA ((by rw [hg]; exact Nat.ne_of_lt (blk_lt (g := gb309) (o := .cells #[.int .i64 a0_0, .int .i64 a0_1, .slice A0_2 l0_2.length c0_2] 29 (0, 0)) (bl_ BK309.out)) : gb309 ≠ gb310)); have n6_ := mkA ((by rw [hg]; exact Nat.ne_of_gt (blk_lt (g := gb309) (o := .cells #[.int .i64 a0_0, .int .i64 a0_1, .slice A0_2 l0_2.length c0_2] 29 (0, 0)) (bl_ BK309.out)) : gb310 ≠ gb309)); clear BK309; clear HB; have BK309 := n0_; have HB := n1_; have BK310 := n2_; have GW310 := n3_; have GE310 := n4_; have NB309_310 := n5_; have NB310_309 := n6_; clear n0_ n1_ n2_ n3_ n4_ n5_ n6_; clear hb hbox hg; have hnb11 := NB309_310.out; have hnc11 := NB310_309.out; have hcz12_0 : w10.cell? ⟨gb309, 0, none⟩ = some (.int .i64 a0_0) := (blk_cell BK309.out 0).trans rfl; have hcz12_1 : w10.cell? ⟨gb309, 1, none⟩ = some (.int .i64 a0_1) := (blk_cell BK309.out 1).trans rfl; have hcz12_2 : w10.cell? ⟨gb309, 2, none⟩ = some (.slice A0_2 l0_2.length c0_2) := (blk_cell BK309.out 2).trans rfl; have hfz12_0 := blk_frozen BK309.out 0; have hfz12_1 := blk_frozen BK309.out 1; have hfz12_2 := blk_frozen BK309.out 2) | ((with_reducible refine gate_callee (f := 85) rfl ?_); refine goesL_ (some 15) rfl rfl Try.func85 (by kernel_rfl) rfl #[.agg #[.int .i64 a0_0, .int .i64 a0_1, .slice A0_2 l0_2.length c0_2]] rfl (by (try simp only [List.map_toArray, List.map_cons, List.map_nil]); first | done | rfl | (simp only [List.length_drop, List.length_take]; rfl)) ?_; (with_reducible refine (impl_tiles.calls k a0_0 a0_1 _ _ l0_2 t311 _ ?side1 ?side2 A3.out).mono ?_); (case side1 => exact cb_ HR0_2.out HB.out); (case side2 => exact HC0_2.out); rintro e w13 ⟨rfl, hb⟩; refine ⟨_, rfl, ?_⟩; have n0_ := mkA (blk_below (g := gb309) (o := .cells #[.int .i64 a0_0, .int .i64 a0_1, .slice A0_2 l0_2.length c0_2] 29 (0, 0)) (bl_ BK309.out) hb); have n1_ := mkA (blk_below (g := gb310) (o := .cells #[.int .i64 a1_0, .int .i64 a1_1, .int .i64 a1_2] 31 (0, 0)) (bl_ BK310.out) hb); have n2_ := mkA (below_step (bs2_ HB.out GE309.out GE310.out) hb); clear BK309; clear BK310; clear HB; have BK309 := n0_; have BK310 := n1_; have HB := n2_; clear n0_ n1_ n2_; (try clear hb); (try clear hb2); (try clear hk); (try clear hi)) | ((with_reducible refine gate_dst (N := 16) rfl ?_); refine Kd.R_make (Kd.int .i64) _ 2 rfl (N := 16) rfl 22 _ _ rfl t311 rfl rfl Try.underlying22 (.int .i64 0) 8 info2 rfl (by decide) (by omega) 0 (ok := fun _ => True) (okp := fun _ => True) rfl (fun _ hk => hk) trivial (dt_) (Nat.le_trans (Nat.mul_le_mul_right _ (dt_ : t311.toNat ≤ 35184372088832)) (by omega)) (Below.refl _ _) (Nat.le_refl _) ?_; intro v313 w14 ho15 hb hg_ hnew_; clear hg_ hnew_; (first | rw [← Ny312.out] at ho15 | (simp only [Int.reduceToNat] at ho15; rw [← Ny312.out] at ho15)); have n0_ := mkA (Kd.R_lower ho15 (below_size (bs2_ HB.out GE309.out GE310.out))); have n1_ := mkA (blk_below (g := gb309) (o := .cells #[.int .i64 a0_0, .int .i64 a0_1, .slice A0_2 l0_2.length c0_2] 29 (0, 0)) (bl_ BK309.out) hb); have n2_ := mkA (blk_below (g := gb310) (o := .cells #[.int .i64 a1_0, .int .i64 a1_1, .int .i64 a1_2] 31 (0, 0)) (bl_ BK310.out) hb); have n3_ := mkA (below_step (bs2_ HB.out GE309.out GE310.out) hb); clear BK309; clear BK310; clear HB; have HO314 := n0_; have BK309 := n1_; have BK310 := n2_; have HB := n3_; clear n0_ n1_ n2_ n3_; clear hb ho15; have hcz16_0 : w14.cell? ⟨gb309, 0, none⟩ = some (.int .i64 a0_0) := (blk_cell BK309.out 0).trans rfl; have hcz16_1 : w14.cell? ⟨gb309, 1, none⟩ = some (.int .i64 a0_1) := (blk_cell BK309.out 1).trans rfl; have hcz16_2 : w14.cell? ⟨gb309, 2, none⟩ = some (.slice A0_2 l0_2.length c0_2) := (blk_cell BK309.out 2).trans rfl; have hfz16_0 := blk_frozen BK309.out 0; have hfz16_1 := blk_frozen BK309.out 1; have hfz16_2 := blk_frozen BK309.out 2) | ((with_reducible refine gate_callee (f := 85) rfl ?_); refine goesL_ (some 18) rfl rfl Try.func85 (by kernel_rfl) rfl #[.agg #[.int .i64 a0_0, .int .i64 a0_1, .slice A0_2 l0_2.length c0_2]] rfl (by (try simp only [List.map_toArray, List.map_cons, List.map_nil]); first | done | rfl | (simp only [List.length_drop, List.length_take]; rfl)) ?_; (with_reducible refine (impl_tiles.calls k a0_0 a0_1 _ _ l0_2 t315 _ ?side1 ?side2 A6.out).mono ?_); (case side1 => exact cb_ HR0_2.out HB.out); (case side2 => exact HC0_2.out); rintro e w17 ⟨rfl, hb⟩; refine ⟨_, rfl, ?_⟩; have n0_ := mkA (Kd.R_below (by (with_reducible repeat (first | apply Kd.R_alloc | apply Kd.R_drewN | apply Kd.R_drew)); exact HO314.out) hb); have n1_ := mkA (blk_below (g := gb309) (o := .cells #[.int .i64 a0_0, .int .i64 a0_1, .slice A0_2 l0_2.length c0_2] 29 (0, 0)) (bl_ BK309.out) hb); have n2_ := mkA (blk_below (g := gb310) (o := .cells #[.int .i64 a1_0, .int .i64 a1_1, .int .i64 a1_2] 31 (0, 0)) (bl_ BK310.out) hb); have n3_ := mkA (below_step (bs2_ HB.out GE309.out GE310.out) hb); clear HO314; clear BK309; clear BK310; clear HB; have HO314 := n0_; have BK309 := n1_; have BK310 := n2_; have HB := n3_; clear n0_ n1_ n2_ n3_; (try clear hb); (try clear hb2); (try clear hk); (try clear hi)) | ((with_reducible refine gate_dst (N := 19) rfl ?_); refine Kd.R_make (Kd.int .i64) _ 2 rfl (N := 19) rfl 22 _ _ rfl t315 rfl rfl Try.underlying22 (.int .i64 0) 8 info2 rfl (by decide) (by omega) 0 (ok := fun _ => True) (okp := fun _ => True) rfl (fun _ hk => hk) trivial (dt_) (Nat.le_trans (Nat.mul_le_mul_right _ (dt_ : t315.toNat ≤ 35184372088832)) (by omega)) (Below.refl _ _) (Nat.le_refl _) ?_; intro v317 w18 ho19 hb hg_ hnew_; clear hg_ hnew_; (first | rw [← Ny316.out] at ho19 | (simp only [Int.reduceToNat] at ho19; rw [← Ny316.out] at ho19)); have n0_ := mkA (Kd.R_elder' (by (with_reducible repeat (first | apply Kd.R_alloc | apply Kd.R_drewN | apply Kd.R_drew)); exact HO314.out) (Kd.R_base ho19) hb); have n1_ := mkA (Kd.R_lower (Kd.R_new' ho19 (Kd.R_lt (by (with_reducible repeat (first | apply Kd.R_alloc | apply Kd.R_drewN | apply Kd.R_drew)); exact HO314.out))) (below_size (bs2_ HB.out GE309.out GE310.out))); have n2_ := mkA (blk_below (g := gb309) (o := .cells #[.int .i64 a0_0, .int .i64 a0_1, .slice A0_2 l0_2.length c0_2] 29 (0, 0)) (bl_ BK309.out) hb); have n3_ := mkA (blk_below (g := gb310) (o := .cells #[.int .i64 a1_0, .int .i64 a1_1, .int .i64 a1_2] 31 (0, 0)) (bl_ BK310.out) hb); have n4_ := mkA (below_step (bs2_ HB.out GE309.out GE310.out) hb); clear HO314; clear BK309; clear BK310; clear HB; have HO314 := n0_; have HO318 := n1_; have BK309 := n2_; have BK310 := n3_; have HB := n4_; clear n0_ n1_ n2_ n3_ n4_; clear hb ho19; have hcz20_0 : w18.cell? ⟨gb309, 0, none⟩ = some (.int .i64 a0_0) := (blk_cell BK309.out 0).trans rfl; have hcz20_1 : w18.cell? ⟨gb309, 1, none⟩ = some (.int .i64 a0_1) := (blk_cell BK309.out 1).trans rfl; have hcz20_2 : w18.cell? ⟨gb309, 2, none⟩ = some (.slice A0_2 l0_2.length c0_2) := (blk_cell BK309.out 2).trans rfl; have hfz20_0 := blk_frozen BK309.out 0; have hfz20_1 := blk_frozen BK309.out 1; have hfz20_2 := blk_frozen BK309.out 2))
 go_loopg [23] k (fun kq v23 w' => ∃ (x6_1 : List Int) (x7_1 : List Int) (x23_1 : Int), v23 = .int .i64 x23_1 ∧ Aside0 (impl_images.l0 kq x6_1 x7_1 l0_2 (l0_2.length : Int) x23_1 a0_0 a0_1 l0_2 a1_0 a1_1 a1_2 = some (r1, r2)) ∧ Aside0 (kq ≤ k) ∧ Aside0 (Kd.R (Kd.int .i64) 2 w' w.heap.size (fun k_ => some k_ ≠ (v317 : Value).ownBlock) v313 x6_1) ∧ Aside0 (Kd.R (Kd.int .i64) 2 w' w.heap.size (fun k_ => some k_ ≠ (v313 : Value).ownBlock) v317 x7_1) ∧ Aside0 (w'.heap[gb309]? = some (.cells #[.int .i64 a0_0, .int .i64 a0_1, (.slice A0_2 l0_2.length c0_2)] 29 (0, 0))) ∧ Aside0 (w'.heap[gb310]? = some (.cells #[.int .i64 a1_0, .int .i64 a1_1, .int .i64 a1_2] 31 (0, 0))) ∧ Aside0 (Below w.heap.size w w'))
 case atStart => exact ⟨(y312), (y316), (0), (by first | rfl | (simp; done) | (simp [*]; done) | (simp [i64_w, i32_w]; done)), H', ⟨Nat.le_refl _⟩, ⟨by (with_reducible repeat (first | apply Kd.R_alloc | apply Kd.R_drewN | apply Kd.R_drew)); exact Kd.R_mono HO314.out (fun _ hk => hk.2)⟩, ⟨by (with_reducible repeat (first | apply Kd.R_alloc | apply Kd.R_drewN | apply Kd.R_drew)); exact Kd.R_mono HO318.out (fun _ hk => hk.2)⟩, ⟨by (with_reducible repeat (first | refine blk_drewN ?_ _ | refine blk_drew ?_ | refine blk_alloc ?_ _)); exact BK309.out⟩, ⟨by (with_reducible repeat (first | refine blk_drewN ?_ _ | refine blk_drew ?_ | refine blk_alloc ?_ _)); exact BK310.out⟩, ⟨by repeat (first | (with_reducible first | exact HB.out | apply below_alloc | apply pw_below_drewN | apply below_drew1 | refine below_set ?_ GE309.out | refine below_set ?_ GE310.out) | exact HB.out)⟩⟩
 case round =>
  clear H'
  try clear c1
  try clear p2
  try clear c4
  try clear c4b0
  try clear c4b1
  try clear c5
  try clear c5b0
  try clear c5b1
  try clear c7
  try clear c7b0
  try clear c7b1
  try clear c8
  try clear c8b0
  try clear c8b1
  try clear c11
  try clear hcz12_0
  try clear hcz12_1
  try clear hcz12_2
  try clear hcz16_0
  try clear hcz16_1
  try clear hcz16_2
  try clear hcz20_0
  try clear hcz20_1
  try clear hcz20_2
  try clear hfz12_0
  try clear hfz12_1
  try clear hfz12_2
  try clear hfz16_0
  try clear hfz16_1
  try clear hfz16_2
  try clear hfz20_0
  try clear hfz20_1
  try clear hfz20_2
  obtain ⟨x6_1, x7_1, x23_1, rfl, HA, HK1, HO_6, HO_7, BK309, BK310, HB⟩ := hrel
  cases gk with
  | zero => exact absurd HA.out (by simp [impl_images.l0])
  | succ k1 =>
   have H := HA.out
   clear HA
   simp only [impl_images.l0] at H
   by_cases c21 : x23_1 < (l0_2.length : Int)
   rotate_left
   · rw [if_neg c21] at H
     have c21b0 : decide (x23_1 < (l0_2.length : Int)) = false := decide_eq_false c21
     clear c21
     have H' := mkA H
     clear H
     obtain ⟨Ao111, co111, eo111⟩ := Kd.R_slice HO_6.out
     subst eo111
     go_wp2
     go_loopg [89] k1 (fun kq v89 w' => ∃ (x6_2 : List Int) (x89_2 : Int), v89 = .int .i64 x89_2 ∧ Aside0 (impl_images.l1 kq x6_2 (x6_1.length : Int) x89_2 = some (r1, r2)) ∧ Aside0 (kq ≤ k1) ∧ Aside0 (Kd.R (Kd.int .i64) 2 w' w.heap.size (fun _ => True) (.slice Ao111 x6_1.length co111) x6_2) ∧ Aside0 (w'.heap[gb309]? = some (.cells #[.int .i64 a0_0, .int .i64 a0_1, (.slice A0_2 l0_2.length c0_2)] 29 (0, 0))) ∧ Aside0 (w'.heap[gb310]? = some (.cells #[.int .i64 a1_0, .int .i64 a1_1, .int .i64 a1_2] 31 (0, 0))) ∧ Aside0 (Below w.heap.size w w'))
     case atStart => exact ⟨(x6_1), (0), (by first | rfl | (simp; done) | (simp [*]; done) | (simp [i64_w, i32_w]; done)), H', ⟨Nat.le_refl _⟩, ⟨by (with_reducible repeat (first | apply Kd.R_alloc | apply Kd.R_drewN | apply Kd.R_drew)); exact Kd.R_mono HO_6.out (fun _ hk => trivial)⟩, ⟨by (with_reducible repeat (first | refine blk_drewN ?_ _ | refine blk_drew ?_ | refine blk_alloc ?_ _)); exact BK309.out⟩, ⟨by (with_reducible repeat (first | refine blk_drewN ?_ _ | refine blk_drew ?_ | refine blk_alloc ?_ _)); exact BK310.out⟩, ⟨by repeat (first | (with_reducible first | exact HB.out | apply below_alloc | apply pw_below_drewN | apply below_drew1 | refine below_set ?_ GE309.out | refine below_set ?_ GE310.out) | exact HB.out)⟩⟩
     case round =>
      clear H'
      try clear c1
      try clear c2
      try clear p2
      try clear p3
      try clear q3
      try clear hx3
      try clear c5
      try clear c6
      try clear p6
      try clear c8
      try clear p8
      try clear q8
      try clear hx8
      try clear hf8
      try clear c10
      try clear c21
      try clear c21b0
      try clear c22
      try clear c23
      try clear c27
      try clear c28
      try clear p31
      try clear q31
      try clear hx31
      try clear p32
      try clear q32
      try clear hx32
      try clear p33
      try clear q33
      try clear hx33
      try clear c59
      try clear c64
      try clear p64
      try clear c67
      try clear c67b0
      try clear c67b1
      try clear c68
      try clear c69
      try clear c84
      try clear c84b0
      try clear c84b1
      try clear p85
      try clear q85
      try clear hx85
      try clear hf85
      try clear p86
      try clear q86
      try clear hx86
      try clear hf86
      try clear c89
      try clear c100
      try clear c107
      try clear hcz101_0
      try clear hcz101_1
      try clear hcz101_2
      try clear hcz108_0
      try clear hcz108_1
      try clear hcz108_2
      try clear hcz90_0
      try clear hcz90_1
      try clear hcz90_2
      try clear hfz101_0
      try clear hfz101_1
      try clear hfz101_2
      try clear hfz108_0
      try clear hfz108_1
      try clear hfz108_2
      try clear hfz90_0
      try clear hfz90_1
      try clear hfz90_2
      try clear hx319_0
      try clear hx323_0
      try clear hx330_0
      try clear hx331_0
      try clear hx334_0
      try clear hx85_0
      try clear hx86_0
      try clear p319
      try clear p323
      try clear p330
      try clear p331
      try clear p334
      try clear p85
      try clear p86
      try clear q319
      try clear q323
      try clear q330
      try clear q331
      try clear q334
      try clear q85
      try clear q86
      obtain ⟨x6_2, x89_2, rfl, HA, HK2, HO_6, BK309, BK310, HB⟩ := hrel
      have hl6_2 := (Kd.R_reads' HO_6.out).1
      rw [hl6_2] at HO_6
      (try simp only [hl6_2])
      (try simp only [hl6_2] at BK309)
      (try simp only [hl6_2] at BK310)
      cases gk with
      | zero => exact absurd HA.out (by simp [impl_images.l1])
      | succ k2 =>
       have H := HA.out
       clear HA
       simp only [impl_images.l1] at H
       by_cases c112 : x89_2 < (x6_1.length : Int)
       rotate_left
       · rw [if_neg c112] at H
         have c112b0 : decide (x89_2 < (x6_1.length : Int)) = false := decide_eq_false c112
         (try simp only [hl6_2] at c112b0)
         clear c112
         simp only [Option.some.injEq, Prod.mk.injEq] at H
         obtain ⟨rfl, rfl⟩ := H
         go_wp2
         go_ret2
         exact ⟨_, by first | rfl | (simp [errW_none, errW_some] <;> rfl) | (simp [*, errW_none, errW_some] <;> rfl), by (with_reducible repeat (first | apply Kd.R_alloc | apply Kd.R_drewN | apply Kd.R_drew)); exact HO_6.out, by repeat (first | (with_reducible first | exact HB.out | apply below_alloc | apply pw_below_drewN | apply below_drew1 | refine below_set ?_ GE309.out | refine below_set ?_ GE310.out) | exact HB.out)⟩
       rw [if_pos c112] at H
       have c112b0 : decide (x89_2 < (x6_1.length : Int)) = true := decide_eq_true c112
       (try simp only [hl6_2] at c112b0)
       clear c112
       by_cases c113 : 0 ≤ x89_2
       rotate_left
       · rw [if_neg c113] at H
         exact absurd H (by simp)
       rw [if_pos c113] at H
       have c113b0 : decide (0 ≤ x89_2) = true := decide_eq_true c113
       clear c113
       by_cases c114 : x89_2 < (x6_2.length : Int)
       rotate_left
       · rw [if_neg c114] at H
         exact absurd H (by simp)
       rw [if_pos c114] at H
       have c114b0 : decide (x89_2 < (x6_2.length : Int)) = true := decide_eq_true c114
       (try simp only [hl6_2] at c114b0)
       clear c114
       obtain ⟨y338, hy338⟩ : ∃ y_ : List Int, y_ = (x6_2.set (x89_2 : Int).toNat (wrap64 ((rd x6_2 x89_2) - 1))) := ⟨_, rfl⟩
       replace H : (impl_images.l1 k2 y338 (x6_1.length : Int) (wrap64 (x89_2 + 1))) = some (r1, r2) := by first | (rw [hy338]; with_reducible exact H) | (have H2_ := (Option.bind_some _ _).symm.trans H; rw [hy338]; with_reducible exact H2_) | (have H2_ := (Option.bind_some _ _).symm.trans H; with_reducible exact H2_) | with_reducible exact H | (rw [hy338]; exact H) | exact H
       have Ny338 := mkA hy338
       clear hy338
       have H' := mkA H
       clear H
       have p337 : 0 ≤ (x89_2 : Int) := dt_
       have q337 : x89_2 < (x6_2.length : Int) := dt_
       obtain ⟨ad337, e337, hx337_0⟩ := Kd.at_int (Kd.R_reads' HO_6.out).2.2 x89_2 p337 q337
       cases e337
       replace p337 := eq_true p337
       replace q337 := eq_true q337
       have p115 : 0 ≤ (x89_2 : Int) := dt_
       have q115 : (x89_2 : Int) < ((x6_2.length : Int) : Int) := dt_
       obtain ⟨go115, co115, eo115, gb115, gl115, cl115, HG115⟩ := Kd.R_form HO_6.out (by omega)
       (first | cases eo115 | (injection eo115 with ea_ en_ ec_; (first | subst ea_ | (injection ea_ with ea_; subst ea_)); subst ec_; clear en_))
       have GB115 := mkA gb115
       have GG115 := mkA HG115
       clear gb115 gl115 HG115
       (first | simp only [add_plain] at hx337_0 | skip)
       obtain ⟨hx115_0, hf115_0⟩ := Kd.R_celln 0 HO_6.out (x89_2 : Int) p115 q115
       replace p115 := eq_true p115
       replace q115 := eq_true q115
       have HP116 := Kd.R_putg HO_6.out (x89_2 : Int) (wrap64 ((rd x6_2 x89_2) - 1))
       go_wp2_with (first | ((with_reducible refine gate_store (t := 2) (p := 97) rfl ?_); refine store_event (t := 2) (p := 97) (v := ?vo_w117) (w1 := (wr.setCell ⟨go115, (x89_2 : Int).toNat, none⟩ (.int .i64 (wrap64 ((rd x6_2 x89_2) - 1))))) ?hg ?ho ?hn ?hr ?_; (case ho => rfl); (case hg => rfl); (case hn => rfl); (case hr => first | (go_simp; done) | (go_simp; rfl)); intro w117 hw; have hg : wr.grownBy w117 (some go115) := (by rw [hw]; exact HP116.2); have hp_ : Kd.R (Kd.int .i64) 2 w117 w.heap.size (fun _ => True) (.slice (some ⟨go115, 0, none⟩) x6_2.length co111) y338 := (by rw [hw, Ny338.out]; exact HP116.1); clear HP116; have n0_ := mkA (hp_); have n1_ := mkA (blk_grown (g := gb309) (o := .cells #[.int .i64 a0_0, .int .i64 a0_1, .slice A0_2 l0_2.length c0_2] 29 (0, 0)) (bl_ BK309.out) hg (Kd.R_ne HO_6.out BK309.out (by decide))); have n2_ := mkA (blk_grown (g := gb310) (o := .cells #[.int .i64 a1_0, .int .i64 a1_1, .int .i64 a1_2] 31 (0, 0)) (bl_ BK310.out) hg (Kd.R_ne HO_6.out BK310.out (by decide))); have n3_ := mkA ((by rw [hw]; exact below_set (HB.out) GB115.out : Below w.heap.size w w117)); clear HO_6; clear BK309; clear BK310; clear HB; have HO_6 := n0_; have BK309 := n1_; have BK310 := n2_; have HB := n3_; clear n0_ n1_ n2_ n3_; clear hg hw hp_))
       (try simp only [← hl6_2])
       go_roundg k2
       case measure => have := HK1.out; have := HK2.out; omega
       case rel => exact ⟨(y338), (wrap64 (x89_2 + 1)), (by first | rfl | (simp; done) | (simp [*]; done) | (simp [i64_w, i32_w]; done)), H', ⟨by have := HK1.out; have := HK2.out; omega⟩, ⟨by (try simp only [hl6_2]); (with_reducible repeat (first | apply Kd.R_alloc | apply Kd.R_drewN | apply Kd.R_drew)); exact HO_6.out⟩, ⟨by (try simp only [hl6_2]); (with_reducible repeat (first | refine blk_drewN ?_ _ | refine blk_drew ?_ | refine blk_alloc ?_ _)); exact BK309.out⟩, ⟨by (try simp only [hl6_2]); (with_reducible repeat (first | refine blk_drewN ?_ _ | refine blk_drew ?_ | refine blk_alloc ?_ _)); exact BK310.out⟩, ⟨by repeat (first | (with_reducible first | exact HB.out | apply below_alloc | apply pw_below_drewN | apply below_drew1 | refine below_set ?_ GE309.out | refine below_set ?_ GE310.out) | exact HB.out)⟩⟩
   rw [if_pos c21] at H
   have c21b0 : decide (x23_1 < (l0_2.length : Int)) = true := decide_eq_true c21
   clear c21
   by_cases c22 : 0 ≤ x23_1
   rotate_left
   · rw [if_neg c22] at H
     exact absurd H (by simp)
   rw [if_pos c22] at H
   have c22b0 : decide (0 ≤ x23_1) = true := decide_eq_true c22
   clear c22
   by_cases c23 : x23_1 < (l0_2.length : Int)
   rotate_left
   · rw [if_neg c23] at H
     exact absurd H (by simp)
   rw [if_pos c23] at H
   have c23b0 : decide (x23_1 < (l0_2.length : Int)) = true := decide_eq_true c23
   clear c23
   by_cases c24 : a0_0 = 0
   · rw [if_pos c24] at H
     exact absurd H (by simp)
   · rw [if_neg c24] at H
     have c24b0 : (a0_0 == 0) = false := beq_eq_false_iff_ne.mpr c24
     have c24b1 : (a0_0 != 0) = true := bne_iff_ne.mpr c24
     replace H := Option.bind_eq_some_iff.mp H
     obtain ⟨⟨t320, t321⟩, A250, H⟩ := H
     replace H : ((impl_tileAt.f a0_0 a0_1 l0_2 t320 t321).bind fun t322 => (if 0 ≤ (rd l0_2 x23_1) then (if (rd l0_2 x23_1) < (x6_1.length : Int) then (if (rd x6_1 (rd l0_2 x23_1)) = 0 then (if 0 ≤ t322 then (if t322 < (x7_1.length : Int) then (if (rd x7_1 t322) = 0 then (impl_images.l0 k1 (x6_1.set ((rd l0_2 x23_1) : Int).toNat (wrap64 (t322 + 1))) (x7_1.set (t322 : Int).toNat (wrap64 ((rd l0_2 x23_1) + 1))) l0_2 (l0_2.length : Int) (wrap64 (x23_1 + 1)) a0_0 a0_1 l0_2 a1_0 a1_1 a1_2) else (if (rd x7_1 t322) = (wrap64 ((rd l0_2 x23_1) + 1)) then (impl_images.l0 k1 (x6_1.set ((rd l0_2 x23_1) : Int).toNat (wrap64 (t322 + 1))) (x7_1.set (t322 : Int).toNat (wrap64 ((rd l0_2 x23_1) + 1))) l0_2 (l0_2.length : Int) (wrap64 (x23_1 + 1)) a0_0 a0_1 l0_2 a1_0 a1_1 a1_2) else (some (([] : List Int), false)))) else (none)) else (none)) else (if (rd x6_1 (rd l0_2 x23_1)) = (wrap64 (t322 + 1)) then (if 0 ≤ t322 then (if t322 < (x7_1.length : Int) then (if (rd x7_1 t322) = 0 then (impl_images.l0 k1 (x6_1.set ((rd l0_2 x23_1) : Int).toNat (wrap64 (t322 + 1))) (x7_1.set (t322 : Int).toNat (wrap64 ((rd l0_2 x23_1) + 1))) l0_2 (l0_2.length : Int) (wrap64 (x23_1 + 1)) a0_0 a0_1 l0_2 a1_0 a1_1 a1_2) else (if (rd x7_1 t322) = (wrap64 ((rd l0_2 x23_1) + 1)) then (impl_images.l0 k1 (x6_1.set ((rd l0_2 x23_1) : Int).toNat (wrap64 (t322 + 1))) (x7_1.set (t322 : Int).toNat (wrap64 ((rd l0_2 x23_1) + 1))) l0_2 (l0_2.length : Int) (wrap64 (x23_1 + 1)) a0_0 a0_1 l0_2 a1_0 a1_1 a1_2) else (some (([] : List Int), false)))) else (none)) else (none)) else (some (([] : List Int), false)))) else (none)) else (none))) = some (r1, r2) := H
     have A25 := mkA A250
     clear A250
     replace H := Option.bind_eq_some_iff.mp H
     obtain ⟨t322, A260, H⟩ := H
     replace H : (if 0 ≤ (rd l0_2 x23_1) then (if (rd l0_2 x23_1) < (x6_1.length : Int) then (if (rd x6_1 (rd l0_2 x23_1)) = 0 then (if 0 ≤ t322 then (if t322 < (x7_1.length : Int) then (if (rd x7_1 t322) = 0 then (impl_images.l0 k1 (x6_1.set ((rd l0_2 x23_1) : Int).toNat (wrap64 (t322 + 1))) (x7_1.set (t322 : Int).toNat (wrap64 ((rd l0_2 x23_1) + 1))) l0_2 (l0_2.length : Int) (wrap64 (x23_1 + 1)) a0_0 a0_1 l0_2 a1_0 a1_1 a1_2) else (if (rd x7_1 t322) = (wrap64 ((rd l0_2 x23_1) + 1)) then (impl_images.l0 k1 (x6_1.set ((rd l0_2 x23_1) : Int).toNat (wrap64 (t322 + 1))) (x7_1.set (t322 : Int).toNat (wrap64 ((rd l0_2 x23_1) + 1))) l0_2 (l0_2.length : Int) (wrap64 (x23_1 + 1)) a0_0 a0_1 l0_2 a1_0 a1_1 a1_2) else (some (([] : List Int), false)))) else (none)) else (none)) else (if (rd x6_1 (rd l0_2 x23_1)) = (wrap64 (t322 + 1)) then (if 0 ≤ t322 then (if t322 < (x7_1.length : Int) then (if (rd x7_1 t322) = 0 then (impl_images.l0 k1 (x6_1.set ((rd l0_2 x23_1) : Int).toNat (wrap64 (t322 + 1))) (x7_1.set (t322 : Int).toNat (wrap64 ((rd l0_2 x23_1) + 1))) l0_2 (l0_2.length : Int) (wrap64 (x23_1 + 1)) a0_0 a0_1 l0_2 a1_0 a1_1 a1_2) else (if (rd x7_1 t322) = (wrap64 ((rd l0_2 x23_1) + 1)) then (impl_images.l0 k1 (x6_1.set ((rd l0_2 x23_1) : Int).toNat (wrap64 (t322 + 1))) (x7_1.set (t322 : Int).toNat (wrap64 ((rd l0_2 x23_1) + 1))) l0_2 (l0_2.length : Int) (wrap64 (x23_1 + 1)) a0_0 a0_1 l0_2 a1_0 a1_1 a1_2) else (some (([] : List Int), false)))) else (none)) else (none)) else (some (([] : List Int), false)))) else (none)) else (none)) = some (r1, r2) := H
     have A26 := mkA A260
     clear A260
     by_cases c27 : 0 ≤ (rd l0_2 x23_1)
     rotate_left
     · rw [if_neg c27] at H
       exact absurd H (by simp)
     rw [if_pos c27] at H
     have c27b0 : decide (0 ≤ (rd l0_2 x23_1)) = true := decide_eq_true c27
     clear c27
     by_cases c28 : (rd l0_2 x23_1) < (x6_1.length : Int)
     rotate_left
     · rw [if_neg c28] at H
       exact absurd H (by simp)
     rw [if_pos c28] at H
     have c28b0 : decide ((rd l0_2 x23_1) < (x6_1.length : Int)) = true := decide_eq_true c28
     clear c28
     by_cases c29 : (rd x6_1 (rd l0_2 x23_1)) = 0
     · rw [if_pos c29] at H
       have c29b0 : ((rd x6_1 (rd l0_2 x23_1)) == 0) = true := beq_iff_eq.mpr c29
       have c29b1 : ((rd x6_1 (rd l0_2 x23_1)) != 0) = false := bne_eq_false_iff_eq.mpr c29
       clear c29
       by_cases c30 : 0 ≤ t322
       rotate_left
       · rw [if_neg c30] at H
         exact absurd H (by simp)
       rw [if_pos c30] at H
       have c30b0 : decide (0 ≤ t322) = true := decide_eq_true c30
       clear c30
       by_cases c31 : t322 < (x7_1.length : Int)
       rotate_left
       · rw [if_neg c31] at H
         exact absurd H (by simp)
       rw [if_pos c31] at H
       have c31b0 : decide (t322 < (x7_1.length : Int)) = true := decide_eq_true c31
       clear c31
       by_cases c32 : (rd x7_1 t322) = 0
       · rw [if_pos c32] at H
         have c32b0 : ((rd x7_1 t322) == 0) = true := beq_iff_eq.mpr c32
         have c32b1 : ((rd x7_1 t322) != 0) = false := bne_eq_false_iff_eq.mpr c32
         clear c32
         obtain ⟨y325, hy325⟩ : ∃ y_ : List Int, y_ = (x6_1.set ((rd l0_2 x23_1) : Int).toNat (wrap64 (t322 + 1))) := ⟨_, rfl⟩
         replace H : (impl_images.l0 k1 y325 (x7_1.set (t322 : Int).toNat (wrap64 ((rd l0_2 x23_1) + 1))) l0_2 (l0_2.length : Int) (wrap64 (x23_1 + 1)) a0_0 a0_1 l0_2 a1_0 a1_1 a1_2) = some (r1, r2) := by first | (rw [hy325]; with_reducible exact H) | (have H2_ := (Option.bind_some _ _).symm.trans H; rw [hy325]; with_reducible exact H2_) | (have H2_ := (Option.bind_some _ _).symm.trans H; with_reducible exact H2_) | with_reducible exact H | (rw [hy325]; exact H) | exact H
         have Ny325 := mkA hy325
         clear hy325
         obtain ⟨y326, hy326⟩ : ∃ y_ : List Int, y_ = (x7_1.set (t322 : Int).toNat (wrap64 ((rd l0_2 x23_1) + 1))) := ⟨_, rfl⟩
         replace H : (impl_images.l0 k1 y325 y326 l0_2 (l0_2.length : Int) (wrap64 (x23_1 + 1)) a0_0 a0_1 l0_2 a1_0 a1_1 a1_2) = some (r1, r2) := by first | (rw [hy326]; with_reducible exact H) | (have H2_ := (Option.bind_some _ _).symm.trans H; rw [hy326]; with_reducible exact H2_) | (have H2_ := (Option.bind_some _ _).symm.trans H; with_reducible exact H2_) | with_reducible exact H | (rw [hy326]; exact H) | exact H
         have Ny326 := mkA hy326
         clear hy326
         have H' := mkA H
         clear H
         have p319 : 0 ≤ (x23_1 : Int) := dt_
         have q319 : x23_1 < (l0_2.length : Int) := dt_
         obtain ⟨ad319, e319, hx319_0⟩ := Kd.at_int HR0_2.out x23_1 p319 q319
         cases e319
         replace hx319_0 := bc_ HB.out hx319_0
         replace p319 := eq_true p319
         replace q319 := eq_true q319
         try go_wp2
         have n0_ := mkA (Kd.R_drew HO_6.out)
         have n1_ := mkA (Kd.R_drew HO_7.out)
         have n2_ := mkA (blk_drew BK309.out)
         have n3_ := mkA (blk_drew BK310.out)
         have n4_ := mkA (below_drew1 HB.out)
         clear HO_6
         clear HO_7
         clear BK309
         clear BK310
         clear HB
         have HO_6 := n0_
         have HO_7 := n1_
         have BK309 := n2_
         have BK310 := n3_
         have HB := n4_
         clear n0_ n1_ n2_ n3_ n4_
         refine start_ (n := 16) (S := fun w' => w'.cell? ⟨gb309, 0, none⟩ = some (.int .i64 a0_0) ∧ w'.cell? ⟨gb309, 1, none⟩ = some (.int .i64 a0_1) ∧ w'.cell? ⟨gb309, 2, none⟩ = some (.slice (some ad319) l0_2.length c0_2) ∧ w'.cell? ⟨gb310, 0, none⟩ = some (.int .i64 a1_0) ∧ w'.cell? ⟨gb310, 1, none⟩ = some (.int .i64 a1_1) ∧ w'.cell? ⟨gb310, 2, none⟩ = some (.int .i64 a1_2)) (ds := []) impl_images.d0 (by kernel_rfl) rfl rfl ⟨(blk_cell BK309.out 0).trans rfl, (blk_cell BK309.out 1).trans rfl, (blk_cell BK309.out 2).trans rfl, (blk_cell BK310.out 0).trans rfl, (blk_cell BK310.out 1).trans rfl, (blk_cell BK310.out 2).trans rfl⟩ (fun hHeld => ?_); refine with_tabW impl_images.tab6 impl_images.bits6 (fun HT_ HW_ => ?_)
         generalize wr.drew = w35 at HO_6 HO_7 BK309 BK310 HB hHeld ⊢
         refine p1_ HT_.out 2 31 impl_images.d1 ?_
         refine p1_ HT_.out 3 32 impl_images.d2 ?_
         refine p1_ HT_.out 6 35 impl_images.d3 ?_
         refine p1_ HT_.out 7 36 impl_images.d4 ?_
         refine take_ (i := 0) (N := some 29) (v := ?_) (a' := ?_) impl_images.d5 rfl rfl (take_ofW HT_.out HW_.out (by kernel_rfl)) (fun _ _ _ h => h) (Or.inl ⟨by rfl, ?_⟩) hHeld ?_ ?_
         rotate_left
         · rintro w' ⟨s0, s1, s2, s3, s4, s5⟩
           go_simp
           with_reducible rfl
         rotate_left
         · simp only [Act.put, sA, sB, sC, i64_w, i32_w]
           rfl
         refine take_ (i := 1) (N := some 30) (v := ?_) (a' := ?_) impl_images.d6 rfl rfl (take_ofW HT_.out HW_.out (by kernel_rfl)) (fun _ _ _ h => h) (Or.inl ⟨by rfl, ?_⟩) hHeld ?_ ?_
         rotate_left
         · rintro w' ⟨s0, s1, s2, s3, s4, s5⟩
           go_simp
           with_reducible rfl
         rotate_left
         · simp only [Act.put, sA, sB, sC, i64_w, i32_w]
           rfl
         refine take_ (i := 4) (N := some 33) (v := ?_) (a' := ?_) impl_images.d7 rfl rfl (take_ofW HT_.out HW_.out (by kernel_rfl)) (fun _ _ _ h => h) (Or.inl ⟨by rfl, ?_⟩) hHeld ?_ ?_
         rotate_left
         · rintro w' ⟨s0, s1, s2, s3, s4, s5⟩
           go_simp
           with_reducible rfl
         rotate_left
         · simp only [Act.put, sA, sB, sC, i64_w, i32_w]
           rfl
         refine p1_ HT_.out 5 34 impl_images.d8 ?_
         refine take_ (i := 8) (N := some 37) (v := ?_) (a' := ?_) impl_images.d9 rfl rfl (take_ofW HT_.out HW_.out (by kernel_rfl)) (fun _ _ _ h => h) (Or.inl ⟨by rfl, ?_⟩) hHeld ?_ ?_
         rotate_left
         · rintro w' ⟨s0, s1, s2, s3, s4, s5⟩
           go_simp
           with_reducible rfl
         rotate_left
         · simp only [Act.put, sA, sB, sC, i64_w, i32_w]
           rfl
         refine p1_ HT_.out 9 38 impl_images.d10 ?_
         refine one_ (i := 10) (N := some 39) impl_images.d11 rfl rfl (one_of HT_.out (by kernel_rfl)) (by decide) (fun K hK => ?_)
         refine goes_ Try.func59 (by kernel_rfl) rfl #[.agg #[.int .i64 a0_0, .int .i64 a0_1, .slice (some ad319) l0_2.length c0_2], .agg #[.int .i64 a1_0, .int .i64 a1_1, .int .i64 a1_2], .int .i64 (Int.tmod x23_1 a0_0), .int .i64 (wrap64 (Int.tdiv x23_1 a0_0))] (by rfl) rfl rfl (by (try simp only [List.map_toArray, List.map_cons, List.map_nil]); first | done | rfl | (simp only [List.length_drop, List.length_take]; rfl)) ?_
         with_reducible refine (impl_moveCell.calls k1 a0_0 a0_1 _ _ l0_2 a1_0 a1_1 a1_2 (Int.tmod x23_1 a0_0) (wrap64 (Int.tdiv x23_1 a0_0)) t320 t321 _ ?side1 ?side2 A25.out).mono ?_
         (case side1 => exact cb_ HR0_2.out HB.out)
         (case side2 => exact HC0_2.out)
         rintro e w36 ⟨rfl, hb⟩
         refine ⟨_, rfl, ?_⟩
         have n0_ := mkA (Kd.R_below (by (with_reducible repeat (first | apply Kd.R_alloc | apply Kd.R_drewN | apply Kd.R_drew)); exact HO_6.out) hb)
         have n1_ := mkA (Kd.R_below (by (with_reducible repeat (first | apply Kd.R_alloc | apply Kd.R_drewN | apply Kd.R_drew)); exact HO_7.out) hb)
         have n2_ := mkA (blk_below (g := gb309) (o := .cells #[.int .i64 a0_0, .int .i64 a0_1, .slice (some ad319) l0_2.length c0_2] 29 (0, 0)) (bl_ BK309.out) hb)
         have n3_ := mkA (blk_below (g := gb310) (o := .cells #[.int .i64 a1_0, .int .i64 a1_1, .int .i64 a1_2] 31 (0, 0)) (bl_ BK310.out) hb)
         have n4_ := mkA (below_step (bs2_ HB.out GE309.out GE310.out) hb)
         clear HO_6
         clear HO_7
         clear BK309
         clear BK310
         clear HB
         have HO_6 := n0_
         have HO_7 := n1_
         have BK309 := n2_
         have BK310 := n3_
         have HB := n4_
         clear n0_ n1_ n2_ n3_ n4_
         (try clear hb)
         (try clear hb2)
         (try clear hk)
         (try clear hi)
         refine hK.out _ _ ⟨(blk_cell BK309.out 0).trans rfl, (blk_cell BK309.out 1).trans rfl, (blk_cell BK309.out 2).trans rfl, (blk_cell BK310.out 0).trans rfl, (blk_cell BK310.out 1).trans rfl, (blk_cell BK310.out 2).trans rfl⟩ (fun hHeld => ?_)
         clear hK K
         refine norm_ (a' := ?_) ?_ ?_
         rotate_left
         · show Act.put _ (some 39) _ = _
           simp only [Act.put, sA, sB, sC, i64_w, i32_w]
           rfl
         refine p1_ HT_.out 11 28 impl_images.d12 ?_
         refine p1_ HT_.out 12 40 impl_images.d13 ?_
         refine p1_ HT_.out 13 41 impl_images.d14 ?_
         refine p1_ HT_.out 14 10 impl_images.d15 ?_
         refine p1_ HT_.out 15 11 impl_images.d16 ?_
         refine done_ (done_of HT_.out (by kernel_rfl)) ?_
         have hnb37 := NB309_310.out
         have hnc37 := NB310_309.out
         have hcz38_0 : w36.cell? ⟨gb309, 0, none⟩ = some (.int .i64 a0_0) := (blk_cell BK309.out 0).trans rfl
         have hcz38_1 : w36.cell? ⟨gb309, 1, none⟩ = some (.int .i64 a0_1) := (blk_cell BK309.out 1).trans rfl
         have hcz38_2 : w36.cell? ⟨gb309, 2, none⟩ = some (.slice (some ad319) l0_2.length c0_2) := (blk_cell BK309.out 2).trans rfl
         have hfz38_0 := blk_frozen BK309.out 0
         have hfz38_1 := blk_frozen BK309.out 1
         have hfz38_2 := blk_frozen BK309.out 2
         try go_wp2_with (first | ((with_reducible refine gate_callee (f := 64) rfl ?_); refine goesL_ (some 45) rfl rfl Try.func64 (by kernel_rfl) rfl #[.agg #[.int .i64 a0_0, .int .i64 a0_1, .slice (some ad319) l0_2.length c0_2], .int .i64 t320, .int .i64 t321] rfl (by (try simp only [List.map_toArray, List.map_cons, List.map_nil]); first | done | rfl | (simp only [List.length_drop, List.length_take]; rfl)) ?_; (with_reducible refine (impl_tileAt.calls a0_0 a0_1 _ _ l0_2 t320 t321 t322 _ ?side1 ?side2 A26.out).mono ?_); (case side1 => exact cb_ HR0_2.out HB.out); (case side2 => exact HC0_2.out); rintro e w39 ⟨rfl, hb⟩; refine ⟨_, rfl, ?_⟩; have n0_ := mkA (Kd.R_below (by (with_reducible repeat (first | apply Kd.R_alloc | apply Kd.R_drewN | apply Kd.R_drew)); exact HO_6.out) hb); have n1_ := mkA (Kd.R_below (by (with_reducible repeat (first | apply Kd.R_alloc | apply Kd.R_drewN | apply Kd.R_drew)); exact HO_7.out) hb); have n2_ := mkA (blk_below (g := gb309) (o := .cells #[.int .i64 a0_0, .int .i64 a0_1, .slice (some ad319) l0_2.length c0_2] 29 (0, 0)) (bl_ BK309.out) hb); have n3_ := mkA (blk_below (g := gb310) (o := .cells #[.int .i64 a1_0, .int .i64 a1_1, .int .i64 a1_2] 31 (0, 0)) (bl_ BK310.out) hb); have n4_ := mkA (below_step (bs2_ HB.out GE309.out GE310.out) hb); clear HO_6; clear HO_7; clear BK309; clear BK310; clear HB; have HO_6 := n0_; have HO_7 := n1_; have BK309 := n2_; have BK310 := n3_; have HB := n4_; clear n0_ n1_ n2_ n3_ n4_; (try clear hb); (try clear hb2); (try clear hk); (try clear hi); obtain ⟨Ao40, co40, eo40⟩ := Kd.R_slice HO_6.out; subst eo40; have p323 : 0 ≤ ((rd l0_2 x23_1) : Int) := dt_; have q323 : (rd l0_2 x23_1) < (x6_1.length : Int) := dt_; obtain ⟨ad323, e323, hx323_0⟩ := Kd.at_int (Kd.R_reads' HO_6.out).2.2 (rd l0_2 x23_1) p323 q323; cases e323; replace p323 := eq_true p323; replace q323 := eq_true q323; obtain ⟨Ao41, co41, eo41⟩ := Kd.R_slice HO_7.out; subst eo41; have p324 : 0 ≤ (t322 : Int) := dt_; have q324 : t322 < (x7_1.length : Int) := dt_; obtain ⟨ad324, e324, hx324_0⟩ := Kd.at_int (Kd.R_reads' HO_7.out).2.2 t322 p324 q324; cases e324; replace p324 := eq_true p324; replace q324 := eq_true q324; have p33 : 0 ≤ ((rd l0_2 x23_1) : Int) := dt_; have q33 : ((rd l0_2 x23_1) : Int) < ((x6_1.length : Int) : Int) := dt_; obtain ⟨go33, co33, eo33, gb33, gl33, cl33, HG33⟩ := Kd.R_form HO_6.out (by omega); (first | cases eo33 | (injection eo33 with ea_ en_ ec_; (first | subst ea_ | (injection ea_ with ea_; subst ea_)); subst ec_; clear en_)); have GB33 := mkA gb33; have GG33 := mkA HG33; clear gb33 gl33 HG33; (first | simp only [add_plain] at hx323_0 | skip); obtain ⟨hx33_0, hf33_0⟩ := Kd.R_celln 0 HO_6.out ((rd l0_2 x23_1) : Int) p33 q33; replace p33 := eq_true p33; replace q33 := eq_true q33; obtain ⟨hy42_, hz42_⟩ := Kd.R_celln 0 HO_6.out ((rd l0_2 x23_1) : Int) (dt_) (dt_); have HP42 := Kd.R_putg HO_6.out ((rd l0_2 x23_1) : Int) (wrap64 (t322 + 1))) | ((with_reducible refine gate_store (t := 2) (p := 84) rfl ?_); refine store_event (t := 2) (p := 84) (v := ?vo_w43) (w1 := (w39.setCell ⟨go33, ((rd l0_2 x23_1) : Int).toNat, none⟩ (.int .i64 (wrap64 (t322 + 1))))) ?hg ?ho ?hn ?hr ?_; (case ho => rfl); (case hg => rfl); (case hn => rfl); (case hr => first | (go_simp; done) | (go_simp; rfl)); intro w43 hw; have hg : w39.grownBy w43 (some go33) := (by rw [hw]; exact HP42.2); have hp_ : Kd.R (Kd.int .i64) 2 w43 w.heap.size (fun k_ => some k_ ≠ (.slice (some ad324) x7_1.length co41 : Value).ownBlock) (.slice (some ⟨go33, 0, none⟩) x6_1.length co40) y325 := (by rw [hw, Ny325.out]; exact HP42.1); clear HP42; have n0_ := mkA (hp_); have n1_ := mkA (Kd.R_after (v := (.slice (some ⟨go33, 0, none⟩) x6_1.length co40)) (v1 := (.slice (some ⟨go33, 0, none⟩) x6_1.length co40)) (ok := (fun _ => True)) (by (with_reducible repeat (first | apply Kd.R_alloc | apply Kd.R_drewN | apply Kd.R_drew)); exact Kd.R_mono HO_7.out (fun _ hk => ⟨trivial, hk⟩)) hg (.inl rfl)); have n2_ := mkA (blk_grown (g := gb309) (o := .cells #[.int .i64 a0_0, .int .i64 a0_1, .slice (some ad319) l0_2.length c0_2] 29 (0, 0)) (bl_ BK309.out) hg (Kd.R_ne HO_6.out BK309.out (by decide))); have n3_ := mkA (blk_grown (g := gb310) (o := .cells #[.int .i64 a1_0, .int .i64 a1_1, .int .i64 a1_2] 31 (0, 0)) (bl_ BK310.out) hg (Kd.R_ne HO_6.out BK310.out (by decide))); have n4_ := mkA ((by rw [hw]; exact below_set (HB.out) GB33.out : Below w.heap.size w w43)); clear HO_6; clear HO_7; clear BK309; clear BK310; clear HB; have HO_6 := n0_; have HO_7 := n1_; have BK309 := n2_; have BK310 := n3_; have HB := n4_; clear n0_ n1_ n2_ n3_ n4_; clear hg hw hp_; have p34 : 0 ≤ (t322 : Int) := dt_; have q34 : (t322 : Int) < ((x7_1.length : Int) : Int) := dt_; obtain ⟨go34, co34, eo34, gb34, gl34, cl34, HG34⟩ := Kd.R_form HO_7.out (by omega); (first | cases eo34 | (injection eo34 with ea_ en_ ec_; (first | subst ea_ | (injection ea_ with ea_; subst ea_)); subst ec_; clear en_)); have GB34 := mkA gb34; have GG34 := mkA HG34; clear gb34 gl34 HG34; (first | simp only [add_plain] at hx324_0 | skip); obtain ⟨hx34_0, hf34_0⟩ := Kd.R_celln 0 HO_7.out (t322 : Int) p34 q34; replace p34 := eq_true p34; replace q34 := eq_true q34; have n_ := mkA (Kd.R_mono (ok' := (fun k_ => some k_ ≠ (.slice (some ⟨go33, 0, none⟩) x6_1.length co40 : Value).ownBlock)) HO_7.out (fun k_ hk => hk.2)); clear HO_7; have HO_7 := n_; clear n_; obtain ⟨hy44_, hz44_⟩ := Kd.R_celln 0 HO_7.out (t322 : Int) (dt_) (dt_); have HP44 := Kd.R_putg HO_7.out (t322 : Int) (wrap64 ((rd l0_2 x23_1) + 1))) | ((with_reducible refine gate_store (t := 2) (p := 85) rfl ?_); refine store_event (t := 2) (p := 85) (v := ?vo_w45) (w1 := (w43.setCell ⟨go34, (t322 : Int).toNat, none⟩ (.int .i64 (wrap64 ((rd l0_2 x23_1) + 1))))) ?hg ?ho ?hn ?hr ?_; (case ho => rfl); (case hg => rfl); (case hn => rfl); (case hr => first | (go_simp; done) | (go_simp; rfl)); intro w45 hw; have hg : w43.grownBy w45 (some go34) := (by rw [hw]; exact HP44.2); have hp_ : Kd.R (Kd.int .i64) 2 w45 w.heap.size (fun k_ => some k_ ≠ (.slice (some ⟨go33, 0, none⟩) x6_1.length co40 : Value).ownBlock) (.slice (some ⟨go34, 0, none⟩) x7_1.length co41) y326 := (by rw [hw, Ny326.out]; exact HP44.1); clear HP44; have n0_ := mkA (Kd.R_after (v := (.slice (some ⟨go34, 0, none⟩) x7_1.length co41)) (v1 := (.slice (some ⟨go34, 0, none⟩) x7_1.length co41)) (ok := (fun _ => True)) (by (with_reducible repeat (first | apply Kd.R_alloc | apply Kd.R_drewN | apply Kd.R_drew)); exact Kd.R_mono HO_6.out (fun _ hk => ⟨trivial, hk⟩)) hg (.inl rfl)); have n1_ := mkA (hp_); have n2_ := mkA (blk_grown (g := gb309) (o := .cells #[.int .i64 a0_0, .int .i64 a0_1, .slice (some ad319) l0_2.length c0_2] 29 (0, 0)) (bl_ BK309.out) hg (Kd.R_ne HO_7.out BK309.out (by decide))); have n3_ := mkA (blk_grown (g := gb310) (o := .cells #[.int .i64 a1_0, .int .i64 a1_1, .int .i64 a1_2] 31 (0, 0)) (bl_ BK310.out) hg (Kd.R_ne HO_7.out BK310.out (by decide))); have n4_ := mkA ((by rw [hw]; exact below_set (HB.out) GB34.out : Below w.heap.size w w45)); clear HO_6; clear HO_7; clear BK309; clear BK310; clear HB; have HO_6 := n0_; have HO_7 := n1_; have BK309 := n2_; have BK310 := n3_; have HB := n4_; clear n0_ n1_ n2_ n3_ n4_; clear hg hw hp_))
         go_roundg k1
         case measure => have := HK1.out; omega
         case rel => exact ⟨(y325), (y326), (wrap64 (x23_1 + 1)), (by first | rfl | (simp; done) | (simp [*]; done) | (simp [i64_w, i32_w]; done)), H', ⟨by have := HK1.out; omega⟩, ⟨by (with_reducible repeat (first | apply Kd.R_alloc | apply Kd.R_drewN | apply Kd.R_drew)); exact Kd.R_mono HO_6.out (fun _ hk => hk.2)⟩, ⟨by (with_reducible repeat (first | apply Kd.R_alloc | apply Kd.R_drewN | apply Kd.R_drew)); exact HO_7.out⟩, ⟨by (with_reducible repeat (first | refine blk_drewN ?_ _ | refine blk_drew ?_ | refine blk_alloc ?_ _)); exact BK309.out⟩, ⟨by (with_reducible repeat (first | refine blk_drewN ?_ _ | refine blk_drew ?_ | refine blk_alloc ?_ _)); exact BK310.out⟩, ⟨by repeat (first | (with_reducible first | exact HB.out | apply below_alloc | apply pw_below_drewN | apply below_drew1 | refine below_set ?_ GE309.out | refine below_set ?_ GE310.out) | exact HB.out)⟩⟩
       · rw [if_neg c32] at H
         have c32b0 : ((rd x7_1 t322) == 0) = false := beq_eq_false_iff_ne.mpr c32
         have c32b1 : ((rd x7_1 t322) != 0) = true := bne_iff_ne.mpr c32
         by_cases c46 : (rd x7_1 t322) = (wrap64 ((rd l0_2 x23_1) + 1))
         rotate_left
         · rw [if_neg c46] at H
           have c46b0 : ((rd x7_1 t322) == (wrap64 ((rd l0_2 x23_1) + 1))) = false := beq_eq_false_iff_ne.mpr c46
           have c46b1 : ((rd x7_1 t322) != (wrap64 ((rd l0_2 x23_1) + 1))) = true := bne_iff_ne.mpr c46
           simp only [Option.some.injEq, Prod.mk.injEq] at H
           obtain ⟨rfl, rfl⟩ := H
           have p319 : 0 ≤ (x23_1 : Int) := dt_
           have q319 : x23_1 < (l0_2.length : Int) := dt_
           obtain ⟨ad319, e319, hx319_0⟩ := Kd.at_int HR0_2.out x23_1 p319 q319
           cases e319
           replace hx319_0 := bc_ HB.out hx319_0
           replace p319 := eq_true p319
           replace q319 := eq_true q319
           try go_wp2
           have n0_ := mkA (Kd.R_drew HO_6.out)
           have n1_ := mkA (Kd.R_drew HO_7.out)
           have n2_ := mkA (blk_drew BK309.out)
           have n3_ := mkA (blk_drew BK310.out)
           have n4_ := mkA (below_drew1 HB.out)
           clear HO_6
           clear HO_7
           clear BK309
           clear BK310
           clear HB
           have HO_6 := n0_
           have HO_7 := n1_
           have BK309 := n2_
           have BK310 := n3_
           have HB := n4_
           clear n0_ n1_ n2_ n3_ n4_
           refine start_ (n := 16) (S := fun w' => w'.cell? ⟨gb309, 0, none⟩ = some (.int .i64 a0_0) ∧ w'.cell? ⟨gb309, 1, none⟩ = some (.int .i64 a0_1) ∧ w'.cell? ⟨gb309, 2, none⟩ = some (.slice (some ad319) l0_2.length c0_2) ∧ w'.cell? ⟨gb310, 0, none⟩ = some (.int .i64 a1_0) ∧ w'.cell? ⟨gb310, 1, none⟩ = some (.int .i64 a1_1) ∧ w'.cell? ⟨gb310, 2, none⟩ = some (.int .i64 a1_2)) (ds := []) impl_images.d0 (by kernel_rfl) rfl rfl ⟨(blk_cell BK309.out 0).trans rfl, (blk_cell BK309.out 1).trans rfl, (blk_cell BK309.out 2).trans rfl, (blk_cell BK310.out 0).trans rfl, (blk_cell BK310.out 1).trans rfl, (blk_cell BK310.out 2).trans rfl⟩ (fun hHeld => ?_); refine with_tabW impl_images.tab6 impl_images.bits6 (fun HT_ HW_ => ?_)
           generalize wr.drew = w60 at HO_6 HO_7 BK309 BK310 HB hHeld ⊢
           refine p1_ HT_.out 2 31 impl_images.d1 ?_
           refine p1_ HT_.out 3 32 impl_images.d2 ?_
           refine p1_ HT_.out 6 35 impl_images.d3 ?_
           refine p1_ HT_.out 7 36 impl_images.d4 ?_
           refine take_ (i := 0) (N := some 29) (v := ?_) (a' := ?_) impl_images.d5 rfl rfl (take_ofW HT_.out HW_.out (by kernel_rfl)) (fun _ _ _ h => h) (Or.inl ⟨by rfl, ?_⟩) hHeld ?_ ?_
           rotate_left
           · rintro w' ⟨s0, s1, s2, s3, s4, s5⟩
             go_simp
             with_reducible rfl
           rotate_left
           · simp only [Act.put, sA, sB, sC, i64_w, i32_w]
             rfl
           refine take_ (i := 1) (N := some 30) (v := ?_) (a' := ?_) impl_images.d6 rfl rfl (take_ofW HT_.out HW_.out (by kernel_rfl)) (fun _ _ _ h => h) (Or.inl ⟨by rfl, ?_⟩) hHeld ?_ ?_
           rotate_left
           · rintro w' ⟨s0, s1, s2, s3, s4, s5⟩
             go_simp
             with_reducible rfl
           rotate_left
           · simp only [Act.put, sA, sB, sC, i64_w, i32_w]
             rfl
           refine take_ (i := 4) (N := some 33) (v := ?_) (a' := ?_) impl_images.d7 rfl rfl (take_ofW HT_.out HW_.out (by kernel_rfl)) (fun _ _ _ h => h) (Or.inl ⟨by rfl, ?_⟩) hHeld ?_ ?_
           rotate_left
           · rintro w' ⟨s0, s1, s2, s3, s4, s5⟩
             go_simp
             with_reducible rfl
           rotate_left
           · simp only [Act.put, sA, sB, sC, i64_w, i32_w]
             rfl
           refine p1_ HT_.out 5 34 impl_images.d8 ?_
           refine take_ (i := 8) (N := some 37) (v := ?_) (a' := ?_) impl_images.d9 rfl rfl (take_ofW HT_.out HW_.out (by kernel_rfl)) (fun _ _ _ h => h) (Or.inl ⟨by rfl, ?_⟩) hHeld ?_ ?_
           rotate_left
           · rintro w' ⟨s0, s1, s2, s3, s4, s5⟩
             go_simp
             with_reducible rfl
           rotate_left
           · simp only [Act.put, sA, sB, sC, i64_w, i32_w]
             rfl
           refine p1_ HT_.out 9 38 impl_images.d10 ?_
           refine one_ (i := 10) (N := some 39) impl_images.d11 rfl rfl (one_of HT_.out (by kernel_rfl)) (by decide) (fun K hK => ?_)
           refine goes_ Try.func59 (by kernel_rfl) rfl #[.agg #[.int .i64 a0_0, .int .i64 a0_1, .slice (some ad319) l0_2.length c0_2], .agg #[.int .i64 a1_0, .int .i64 a1_1, .int .i64 a1_2], .int .i64 (Int.tmod x23_1 a0_0), .int .i64 (wrap64 (Int.tdiv x23_1 a0_0))] (by rfl) rfl rfl (by (try simp only [List.map_toArray, List.map_cons, List.map_nil]); first | done | rfl | (simp only [List.length_drop, List.length_take]; rfl)) ?_
           with_reducible refine (impl_moveCell.calls k1 a0_0 a0_1 _ _ l0_2 a1_0 a1_1 a1_2 (Int.tmod x23_1 a0_0) (wrap64 (Int.tdiv x23_1 a0_0)) t320 t321 _ ?side1 ?side2 A25.out).mono ?_
           (case side1 => exact cb_ HR0_2.out HB.out)
           (case side2 => exact HC0_2.out)
           rintro e w61 ⟨rfl, hb⟩
           refine ⟨_, rfl, ?_⟩
           have n0_ := mkA (Kd.R_below (by (with_reducible repeat (first | apply Kd.R_alloc | apply Kd.R_drewN | apply Kd.R_drew)); exact HO_6.out) hb)
           have n1_ := mkA (Kd.R_below (by (with_reducible repeat (first | apply Kd.R_alloc | apply Kd.R_drewN | apply Kd.R_drew)); exact HO_7.out) hb)
           have n2_ := mkA (blk_below (g := gb309) (o := .cells #[.int .i64 a0_0, .int .i64 a0_1, .slice (some ad319) l0_2.length c0_2] 29 (0, 0)) (bl_ BK309.out) hb)
           have n3_ := mkA (blk_below (g := gb310) (o := .cells #[.int .i64 a1_0, .int .i64 a1_1, .int .i64 a1_2] 31 (0, 0)) (bl_ BK310.out) hb)
           have n4_ := mkA (below_step (bs2_ HB.out GE309.out GE310.out) hb)
           clear HO_6
           clear HO_7
           clear BK309
           clear BK310
           clear HB
           have HO_6 := n0_
           have HO_7 := n1_
           have BK309 := n2_
           have BK310 := n3_
           have HB := n4_
           clear n0_ n1_ n2_ n3_ n4_
           (try clear hb)
           (try clear hb2)
           (try clear hk)
           (try clear hi)
           refine hK.out _ _ ⟨(blk_cell BK309.out 0).trans rfl, (blk_cell BK309.out 1).trans rfl, (blk_cell BK309.out 2).trans rfl, (blk_cell BK310.out 0).trans rfl, (blk_cell BK310.out 1).trans rfl, (blk_cell BK310.out 2).trans rfl⟩ (fun hHeld => ?_)
           clear hK K
           refine norm_ (a' := ?_) ?_ ?_
           rotate_left
           · show Act.put _ (some 39) _ = _
             simp only [Act.put, sA, sB, sC, i64_w, i32_w]
             rfl
           refine p1_ HT_.out 11 28 impl_images.d12 ?_
           refine p1_ HT_.out 12 40 impl_images.d13 ?_
           refine p1_ HT_.out 13 41 impl_images.d14 ?_
           refine p1_ HT_.out 14 10 impl_images.d15 ?_
           refine p1_ HT_.out 15 11 impl_images.d16 ?_
           refine done_ (done_of HT_.out (by kernel_rfl)) ?_
           have hnb62 := NB309_310.out
           have hnc62 := NB310_309.out
           have hcz63_0 : w61.cell? ⟨gb309, 0, none⟩ = some (.int .i64 a0_0) := (blk_cell BK309.out 0).trans rfl
           have hcz63_1 : w61.cell? ⟨gb309, 1, none⟩ = some (.int .i64 a0_1) := (blk_cell BK309.out 1).trans rfl
           have hcz63_2 : w61.cell? ⟨gb309, 2, none⟩ = some (.slice (some ad319) l0_2.length c0_2) := (blk_cell BK309.out 2).trans rfl
           have hfz63_0 := blk_frozen BK309.out 0
           have hfz63_1 := blk_frozen BK309.out 1
           have hfz63_2 := blk_frozen BK309.out 2
           try go_wp2_with (first | ((with_reducible refine gate_callee (f := 64) rfl ?_); refine goesL_ (some 45) rfl rfl Try.func64 (by kernel_rfl) rfl #[.agg #[.int .i64 a0_0, .int .i64 a0_1, .slice (some ad319) l0_2.length c0_2], .int .i64 t320, .int .i64 t321] rfl (by (try simp only [List.map_toArray, List.map_cons, List.map_nil]); first | done | rfl | (simp only [List.length_drop, List.length_take]; rfl)) ?_; (with_reducible refine (impl_tileAt.calls a0_0 a0_1 _ _ l0_2 t320 t321 t322 _ ?side1 ?side2 A26.out).mono ?_); (case side1 => exact cb_ HR0_2.out HB.out); (case side2 => exact HC0_2.out); rintro e w64 ⟨rfl, hb⟩; refine ⟨_, rfl, ?_⟩; have n0_ := mkA (Kd.R_below (by (with_reducible repeat (first | apply Kd.R_alloc | apply Kd.R_drewN | apply Kd.R_drew)); exact HO_6.out) hb); have n1_ := mkA (Kd.R_below (by (with_reducible repeat (first | apply Kd.R_alloc | apply Kd.R_drewN | apply Kd.R_drew)); exact HO_7.out) hb); have n2_ := mkA (blk_below (g := gb309) (o := .cells #[.int .i64 a0_0, .int .i64 a0_1, .slice (some ad319) l0_2.length c0_2] 29 (0, 0)) (bl_ BK309.out) hb); have n3_ := mkA (blk_below (g := gb310) (o := .cells #[.int .i64 a1_0, .int .i64 a1_1, .int .i64 a1_2] 31 (0, 0)) (bl_ BK310.out) hb); have n4_ := mkA (below_step (bs2_ HB.out GE309.out GE310.out) hb); clear HO_6; clear HO_7; clear BK309; clear BK310; clear HB; have HO_6 := n0_; have HO_7 := n1_; have BK309 := n2_; have BK310 := n3_; have HB := n4_; clear n0_ n1_ n2_ n3_ n4_; (try clear hb); (try clear hb2); (try clear hk); (try clear hi); obtain ⟨Ao65, co65, eo65⟩ := Kd.R_slice HO_6.out; subst eo65; have p323 : 0 ≤ ((rd l0_2 x23_1) : Int) := dt_; have q323 : (rd l0_2 x23_1) < (x6_1.length : Int) := dt_; obtain ⟨ad323, e323, hx323_0⟩ := Kd.at_int (Kd.R_reads' HO_6.out).2.2 (rd l0_2 x23_1) p323 q323; cases e323; replace p323 := eq_true p323; replace q323 := eq_true q323; obtain ⟨Ao66, co66, eo66⟩ := Kd.R_slice HO_7.out; subst eo66; have p324 : 0 ≤ (t322 : Int) := dt_; have q324 : t322 < (x7_1.length : Int) := dt_; obtain ⟨ad324, e324, hx324_0⟩ := Kd.at_int (Kd.R_reads' HO_7.out).2.2 t322 p324 q324; cases e324; replace p324 := eq_true p324; replace q324 := eq_true q324; have p327 : 0 ≤ (t322 : Int) := dt_; have q327 : t322 < (x7_1.length : Int) := dt_; obtain ⟨ad327, e327, hx327_0⟩ := Kd.at_int (Kd.R_reads' HO_7.out).2.2 t322 p327 q327; obtain rfl : ad324 = ad327 := (by injection e327); replace p327 := eq_true p327; replace q327 := eq_true q327))
           go_ret2
           exact ⟨_, by first | rfl | (simp [errW_none, errW_some] <;> rfl) | (simp [*, errW_none, errW_some] <;> rfl), by first | exact Kd.R_nil _ _ _ _ _ | exact Kd.N_nil _ _ _ _ _ | exact Kd.V_nil _ _ _ _ _ | exact Kd.Q_nil _ _ _ _ _ | exact Kd.S_nil _ _ _ _ _, by repeat (first | (with_reducible first | exact HB.out | apply below_alloc | apply pw_below_drewN | apply below_drew1 | refine below_set ?_ GE309.out | refine below_set ?_ GE310.out) | exact HB.out)⟩
         rw [if_pos c46] at H
         have c46b0 : ((rd x7_1 t322) == (wrap64 ((rd l0_2 x23_1) + 1))) = true := beq_iff_eq.mpr c46
         have c46b1 : ((rd x7_1 t322) != (wrap64 ((rd l0_2 x23_1) + 1))) = false := bne_eq_false_iff_eq.mpr c46
         clear c46
         obtain ⟨y328, hy328⟩ : ∃ y_ : List Int, y_ = (x6_1.set ((rd l0_2 x23_1) : Int).toNat (wrap64 (t322 + 1))) := ⟨_, rfl⟩
         replace H : (impl_images.l0 k1 y328 (x7_1.set (t322 : Int).toNat (wrap64 ((rd l0_2 x23_1) + 1))) l0_2 (l0_2.length : Int) (wrap64 (x23_1 + 1)) a0_0 a0_1 l0_2 a1_0 a1_1 a1_2) = some (r1, r2) := by first | (rw [hy328]; with_reducible exact H) | (have H2_ := (Option.bind_some _ _).symm.trans H; rw [hy328]; with_reducible exact H2_) | (have H2_ := (Option.bind_some _ _).symm.trans H; with_reducible exact H2_) | with_reducible exact H | (rw [hy328]; exact H) | exact H
         have Ny328 := mkA hy328
         clear hy328
         obtain ⟨y329, hy329⟩ : ∃ y_ : List Int, y_ = (x7_1.set (t322 : Int).toNat (wrap64 ((rd l0_2 x23_1) + 1))) := ⟨_, rfl⟩
         replace H : (impl_images.l0 k1 y328 y329 l0_2 (l0_2.length : Int) (wrap64 (x23_1 + 1)) a0_0 a0_1 l0_2 a1_0 a1_1 a1_2) = some (r1, r2) := by first | (rw [hy329]; with_reducible exact H) | (have H2_ := (Option.bind_some _ _).symm.trans H; rw [hy329]; with_reducible exact H2_) | (have H2_ := (Option.bind_some _ _).symm.trans H; with_reducible exact H2_) | with_reducible exact H | (rw [hy329]; exact H) | exact H
         have Ny329 := mkA hy329
         clear hy329
         have H' := mkA H
         clear H
         have p319 : 0 ≤ (x23_1 : Int) := dt_
         have q319 : x23_1 < (l0_2.length : Int) := dt_
         obtain ⟨ad319, e319, hx319_0⟩ := Kd.at_int HR0_2.out x23_1 p319 q319
         cases e319
         replace hx319_0 := bc_ HB.out hx319_0
         replace p319 := eq_true p319
         replace q319 := eq_true q319
         try go_wp2
         have n0_ := mkA (Kd.R_drew HO_6.out)
         have n1_ := mkA (Kd.R_drew HO_7.out)
         have n2_ := mkA (blk_drew BK309.out)
         have n3_ := mkA (blk_drew BK310.out)
         have n4_ := mkA (below_drew1 HB.out)
         clear HO_6
         clear HO_7
         clear BK309
         clear BK310
         clear HB
         have HO_6 := n0_
         have HO_7 := n1_
         have BK309 := n2_
         have BK310 := n3_
         have HB := n4_
         clear n0_ n1_ n2_ n3_ n4_
         refine start_ (n := 16) (S := fun w' => w'.cell? ⟨gb309, 0, none⟩ = some (.int .i64 a0_0) ∧ w'.cell? ⟨gb309, 1, none⟩ = some (.int .i64 a0_1) ∧ w'.cell? ⟨gb309, 2, none⟩ = some (.slice (some ad319) l0_2.length c0_2) ∧ w'.cell? ⟨gb310, 0, none⟩ = some (.int .i64 a1_0) ∧ w'.cell? ⟨gb310, 1, none⟩ = some (.int .i64 a1_1) ∧ w'.cell? ⟨gb310, 2, none⟩ = some (.int .i64 a1_2)) (ds := []) impl_images.d0 (by kernel_rfl) rfl rfl ⟨(blk_cell BK309.out 0).trans rfl, (blk_cell BK309.out 1).trans rfl, (blk_cell BK309.out 2).trans rfl, (blk_cell BK310.out 0).trans rfl, (blk_cell BK310.out 1).trans rfl, (blk_cell BK310.out 2).trans rfl⟩ (fun hHeld => ?_); refine with_tabW impl_images.tab6 impl_images.bits6 (fun HT_ HW_ => ?_)
         generalize wr.drew = w49 at HO_6 HO_7 BK309 BK310 HB hHeld ⊢
         refine p1_ HT_.out 2 31 impl_images.d1 ?_
         refine p1_ HT_.out 3 32 impl_images.d2 ?_
         refine p1_ HT_.out 6 35 impl_images.d3 ?_
         refine p1_ HT_.out 7 36 impl_images.d4 ?_
         refine take_ (i := 0) (N := some 29) (v := ?_) (a' := ?_) impl_images.d5 rfl rfl (take_ofW HT_.out HW_.out (by kernel_rfl)) (fun _ _ _ h => h) (Or.inl ⟨by rfl, ?_⟩) hHeld ?_ ?_
         rotate_left
         · rintro w' ⟨s0, s1, s2, s3, s4, s5⟩
           go_simp
           with_reducible rfl
         rotate_left
         · simp only [Act.put, sA, sB, sC, i64_w, i32_w]
           rfl
         refine take_ (i := 1) (N := some 30) (v := ?_) (a' := ?_) impl_images.d6 rfl rfl (take_ofW HT_.out HW_.out (by kernel_rfl)) (fun _ _ _ h => h) (Or.inl ⟨by rfl, ?_⟩) hHeld ?_ ?_
         rotate_left
         · rintro w' ⟨s0, s1, s2, s3, s4, s5⟩
           go_simp
           with_reducible rfl
         rotate_left
         · simp only [Act.put, sA, sB, sC, i64_w, i32_w]
           rfl
         refine take_ (i := 4) (N := some 33) (v := ?_) (a' := ?_) impl_images.d7 rfl rfl (take_ofW HT_.out HW_.out (by kernel_rfl)) (fun _ _ _ h => h) (Or.inl ⟨by rfl, ?_⟩) hHeld ?_ ?_
         rotate_left
         · rintro w' ⟨s0, s1, s2, s3, s4, s5⟩
           go_simp
           with_reducible rfl
         rotate_left
         · simp only [Act.put, sA, sB, sC, i64_w, i32_w]
           rfl
         refine p1_ HT_.out 5 34 impl_images.d8 ?_
         refine take_ (i := 8) (N := some 37) (v := ?_) (a' := ?_) impl_images.d9 rfl rfl (take_ofW HT_.out HW_.out (by kernel_rfl)) (fun _ _ _ h => h) (Or.inl ⟨by rfl, ?_⟩) hHeld ?_ ?_
         rotate_left
         · rintro w' ⟨s0, s1, s2, s3, s4, s5⟩
           go_simp
           with_reducible rfl
         rotate_left
         · simp only [Act.put, sA, sB, sC, i64_w, i32_w]
           rfl
         refine p1_ HT_.out 9 38 impl_images.d10 ?_
         refine one_ (i := 10) (N := some 39) impl_images.d11 rfl rfl (one_of HT_.out (by kernel_rfl)) (by decide) (fun K hK => ?_)
         refine goes_ Try.func59 (by kernel_rfl) rfl #[.agg #[.int .i64 a0_0, .int .i64 a0_1, .slice (some ad319) l0_2.length c0_2], .agg #[.int .i64 a1_0, .int .i64 a1_1, .int .i64 a1_2], .int .i64 (Int.tmod x23_1 a0_0), .int .i64 (wrap64 (Int.tdiv x23_1 a0_0))] (by rfl) rfl rfl (by (try simp only [List.map_toArray, List.map_cons, List.map_nil]); first | done | rfl | (simp only [List.length_drop, List.length_take]; rfl)) ?_
         with_reducible refine (impl_moveCell.calls k1 a0_0 a0_1 _ _ l0_2 a1_0 a1_1 a1_2 (Int.tmod x23_1 a0_0) (wrap64 (Int.tdiv x23_1 a0_0)) t320 t321 _ ?side1 ?side2 A25.out).mono ?_
         (case side1 => exact cb_ HR0_2.out HB.out)
         (case side2 => exact HC0_2.out)
         rintro e w50 ⟨rfl, hb⟩
         refine ⟨_, rfl, ?_⟩
         have n0_ := mkA (Kd.R_below (by (with_reducible repeat (first | apply Kd.R_alloc | apply Kd.R_drewN | apply Kd.R_drew)); exact HO_6.out) hb)
         have n1_ := mkA (Kd.R_below (by (with_reducible repeat (first | apply Kd.R_alloc | apply Kd.R_drewN | apply Kd.R_drew)); exact HO_7.out) hb)
         have n2_ := mkA (blk_below (g := gb309) (o := .cells #[.int .i64 a0_0, .int .i64 a0_1, .slice (some ad319) l0_2.length c0_2] 29 (0, 0)) (bl_ BK309.out) hb)
         have n3_ := mkA (blk_below (g := gb310) (o := .cells #[.int .i64 a1_0, .int .i64 a1_1, .int .i64 a1_2] 31 (0, 0)) (bl_ BK310.out) hb)
         have n4_ := mkA (below_step (bs2_ HB.out GE309.out GE310.out) hb)
         clear HO_6
         clear HO_7
         clear BK309
         clear BK310
         clear HB
         have HO_6 := n0_
         have HO_7 := n1_
         have BK309 := n2_
         have BK310 := n3_
         have HB := n4_
         clear n0_ n1_ n2_ n3_ n4_
         (try clear hb)
         (try clear hb2)
         (try clear hk)
         (try clear hi)
         refine hK.out _ _ ⟨(blk_cell BK309.out 0).trans rfl, (blk_cell BK309.out 1).trans rfl, (blk_cell BK309.out 2).trans rfl, (blk_cell BK310.out 0).trans rfl, (blk_cell BK310.out 1).trans rfl, (blk_cell BK310.out 2).trans rfl⟩ (fun hHeld => ?_)
         clear hK K
         refine norm_ (a' := ?_) ?_ ?_
         rotate_left
         · show Act.put _ (some 39) _ = _
           simp only [Act.put, sA, sB, sC, i64_w, i32_w]
           rfl
         refine p1_ HT_.out 11 28 impl_images.d12 ?_
         refine p1_ HT_.out 12 40 impl_images.d13 ?_
         refine p1_ HT_.out 13 41 impl_images.d14 ?_
         refine p1_ HT_.out 14 10 impl_images.d15 ?_
         refine p1_ HT_.out 15 11 impl_images.d16 ?_
         refine done_ (done_of HT_.out (by kernel_rfl)) ?_
         have hnb51 := NB309_310.out
         have hnc51 := NB310_309.out
         have hcz52_0 : w50.cell? ⟨gb309, 0, none⟩ = some (.int .i64 a0_0) := (blk_cell BK309.out 0).trans rfl
         have hcz52_1 : w50.cell? ⟨gb309, 1, none⟩ = some (.int .i64 a0_1) := (blk_cell BK309.out 1).trans rfl
         have hcz52_2 : w50.cell? ⟨gb309, 2, none⟩ = some (.slice (some ad319) l0_2.length c0_2) := (blk_cell BK309.out 2).trans rfl
         have hfz52_0 := blk_frozen BK309.out 0
         have hfz52_1 := blk_frozen BK309.out 1
         have hfz52_2 := blk_frozen BK309.out 2
         try go_wp2_with (first | ((with_reducible refine gate_callee (f := 64) rfl ?_); refine goesL_ (some 45) rfl rfl Try.func64 (by kernel_rfl) rfl #[.agg #[.int .i64 a0_0, .int .i64 a0_1, .slice (some ad319) l0_2.length c0_2], .int .i64 t320, .int .i64 t321] rfl (by (try simp only [List.map_toArray, List.map_cons, List.map_nil]); first | done | rfl | (simp only [List.length_drop, List.length_take]; rfl)) ?_; (with_reducible refine (impl_tileAt.calls a0_0 a0_1 _ _ l0_2 t320 t321 t322 _ ?side1 ?side2 A26.out).mono ?_); (case side1 => exact cb_ HR0_2.out HB.out); (case side2 => exact HC0_2.out); rintro e w53 ⟨rfl, hb⟩; refine ⟨_, rfl, ?_⟩; have n0_ := mkA (Kd.R_below (by (with_reducible repeat (first | apply Kd.R_alloc | apply Kd.R_drewN | apply Kd.R_drew)); exact HO_6.out) hb); have n1_ := mkA (Kd.R_below (by (with_reducible repeat (first | apply Kd.R_alloc | apply Kd.R_drewN | apply Kd.R_drew)); exact HO_7.out) hb); have n2_ := mkA (blk_below (g := gb309) (o := .cells #[.int .i64 a0_0, .int .i64 a0_1, .slice (some ad319) l0_2.length c0_2] 29 (0, 0)) (bl_ BK309.out) hb); have n3_ := mkA (blk_below (g := gb310) (o := .cells #[.int .i64 a1_0, .int .i64 a1_1, .int .i64 a1_2] 31 (0, 0)) (bl_ BK310.out) hb); have n4_ := mkA (below_step (bs2_ HB.out GE309.out GE310.out) hb); clear HO_6; clear HO_7; clear BK309; clear BK310; clear HB; have HO_6 := n0_; have HO_7 := n1_; have BK309 := n2_; have BK310 := n3_; have HB := n4_; clear n0_ n1_ n2_ n3_ n4_; (try clear hb); (try clear hb2); (try clear hk); (try clear hi); obtain ⟨Ao54, co54, eo54⟩ := Kd.R_slice HO_6.out; subst eo54; have p323 : 0 ≤ ((rd l0_2 x23_1) : Int) := dt_; have q323 : (rd l0_2 x23_1) < (x6_1.length : Int) := dt_; obtain ⟨ad323, e323, hx323_0⟩ := Kd.at_int (Kd.R_reads' HO_6.out).2.2 (rd l0_2 x23_1) p323 q323; cases e323; replace p323 := eq_true p323; replace q323 := eq_true q323; obtain ⟨Ao55, co55, eo55⟩ := Kd.R_slice HO_7.out; subst eo55; have p324 : 0 ≤ (t322 : Int) := dt_; have q324 : t322 < (x7_1.length : Int) := dt_; obtain ⟨ad324, e324, hx324_0⟩ := Kd.at_int (Kd.R_reads' HO_7.out).2.2 t322 p324 q324; cases e324; replace p324 := eq_true p324; replace q324 := eq_true q324; have p327 : 0 ≤ (t322 : Int) := dt_; have q327 : t322 < (x7_1.length : Int) := dt_; obtain ⟨ad327, e327, hx327_0⟩ := Kd.at_int (Kd.R_reads' HO_7.out).2.2 t322 p327 q327; obtain rfl : ad324 = ad327 := (by injection e327); replace p327 := eq_true p327; replace q327 := eq_true q327; have p47 : 0 ≤ ((rd l0_2 x23_1) : Int) := dt_; have q47 : ((rd l0_2 x23_1) : Int) < ((x6_1.length : Int) : Int) := dt_; obtain ⟨go47, co47, eo47, gb47, gl47, cl47, HG47⟩ := Kd.R_form HO_6.out (by omega); (first | cases eo47 | (injection eo47 with ea_ en_ ec_; (first | subst ea_ | (injection ea_ with ea_; subst ea_)); subst ec_; clear en_)); have GB47 := mkA gb47; have GG47 := mkA HG47; clear gb47 gl47 HG47; (first | simp only [add_plain] at hx323_0 | skip); obtain ⟨hx47_0, hf47_0⟩ := Kd.R_celln 0 HO_6.out ((rd l0_2 x23_1) : Int) p47 q47; replace p47 := eq_true p47; replace q47 := eq_true q47; obtain ⟨hy56_, hz56_⟩ := Kd.R_celln 0 HO_6.out ((rd l0_2 x23_1) : Int) (dt_) (dt_); have HP56 := Kd.R_putg HO_6.out ((rd l0_2 x23_1) : Int) (wrap64 (t322 + 1))) | ((with_reducible refine gate_store (t := 2) (p := 84) rfl ?_); refine store_event (t := 2) (p := 84) (v := ?vo_w57) (w1 := (w53.setCell ⟨go47, ((rd l0_2 x23_1) : Int).toNat, none⟩ (.int .i64 (wrap64 (t322 + 1))))) ?hg ?ho ?hn ?hr ?_; (case ho => rfl); (case hg => rfl); (case hn => rfl); (case hr => first | (go_simp; done) | (go_simp; rfl)); intro w57 hw; have hg : w53.grownBy w57 (some go47) := (by rw [hw]; exact HP56.2); have hp_ : Kd.R (Kd.int .i64) 2 w57 w.heap.size (fun k_ => some k_ ≠ (.slice (some ad324) x7_1.length co55 : Value).ownBlock) (.slice (some ⟨go47, 0, none⟩) x6_1.length co54) y328 := (by rw [hw, Ny328.out]; exact HP56.1); clear HP56; have n0_ := mkA (hp_); have n1_ := mkA (Kd.R_after (v := (.slice (some ⟨go47, 0, none⟩) x6_1.length co54)) (v1 := (.slice (some ⟨go47, 0, none⟩) x6_1.length co54)) (ok := (fun _ => True)) (by (with_reducible repeat (first | apply Kd.R_alloc | apply Kd.R_drewN | apply Kd.R_drew)); exact Kd.R_mono HO_7.out (fun _ hk => ⟨trivial, hk⟩)) hg (.inl rfl)); have n2_ := mkA (blk_grown (g := gb309) (o := .cells #[.int .i64 a0_0, .int .i64 a0_1, .slice (some ad319) l0_2.length c0_2] 29 (0, 0)) (bl_ BK309.out) hg (Kd.R_ne HO_6.out BK309.out (by decide))); have n3_ := mkA (blk_grown (g := gb310) (o := .cells #[.int .i64 a1_0, .int .i64 a1_1, .int .i64 a1_2] 31 (0, 0)) (bl_ BK310.out) hg (Kd.R_ne HO_6.out BK310.out (by decide))); have n4_ := mkA ((by rw [hw]; exact below_set (HB.out) GB47.out : Below w.heap.size w w57)); clear HO_6; clear HO_7; clear BK309; clear BK310; clear HB; have HO_6 := n0_; have HO_7 := n1_; have BK309 := n2_; have BK310 := n3_; have HB := n4_; clear n0_ n1_ n2_ n3_ n4_; clear hg hw hp_; have p48 : 0 ≤ (t322 : Int) := dt_; have q48 : (t322 : Int) < ((x7_1.length : Int) : Int) := dt_; obtain ⟨go48, co48, eo48, gb48, gl48, cl48, HG48⟩ := Kd.R_form HO_7.out (by omega); (first | cases eo48 | (injection eo48 with ea_ en_ ec_; (first | subst ea_ | (injection ea_ with ea_; subst ea_)); subst ec_; clear en_)); have GB48 := mkA gb48; have GG48 := mkA HG48; clear gb48 gl48 HG48; (first | simp only [add_plain] at hx324_0 | skip); (first | simp only [add_plain] at hx327_0 | skip); obtain ⟨hx48_0, hf48_0⟩ := Kd.R_celln 0 HO_7.out (t322 : Int) p48 q48; replace p48 := eq_true p48; replace q48 := eq_true q48; have n_ := mkA (Kd.R_mono (ok' := (fun k_ => some k_ ≠ (.slice (some ⟨go47, 0, none⟩) x6_1.length co54 : Value).ownBlock)) HO_7.out (fun k_ hk => hk.2)); clear HO_7; have HO_7 := n_; clear n_; obtain ⟨hy58_, hz58_⟩ := Kd.R_celln 0 HO_7.out (t322 : Int) (dt_) (dt_); have HP58 := Kd.R_putg HO_7.out (t322 : Int) (wrap64 ((rd l0_2 x23_1) + 1))) | ((with_reducible refine gate_store (t := 2) (p := 85) rfl ?_); refine store_event (t := 2) (p := 85) (v := ?vo_w59) (w1 := (w57.setCell ⟨go48, (t322 : Int).toNat, none⟩ (.int .i64 (wrap64 ((rd l0_2 x23_1) + 1))))) ?hg ?ho ?hn ?hr ?_; (case ho => rfl); (case hg => rfl); (case hn => rfl); (case hr => first | (go_simp; done) | (go_simp; rfl)); intro w59 hw; have hg : w57.grownBy w59 (some go48) := (by rw [hw]; exact HP58.2); have hp_ : Kd.R (Kd.int .i64) 2 w59 w.heap.size (fun k_ => some k_ ≠ (.slice (some ⟨go47, 0, none⟩) x6_1.length co54 : Value).ownBlock) (.slice (some ⟨go48, 0, none⟩) x7_1.length co55) y329 := (by rw [hw, Ny329.out]; exact HP58.1); clear HP58; have n0_ := mkA (Kd.R_after (v := (.slice (some ⟨go48, 0, none⟩) x7_1.length co55)) (v1 := (.slice (some ⟨go48, 0, none⟩) x7_1.length co55)) (ok := (fun _ => True)) (by (with_reducible repeat (first | apply Kd.R_alloc | apply Kd.R_drewN | apply Kd.R_drew)); exact Kd.R_mono HO_6.out (fun _ hk => ⟨trivial, hk⟩)) hg (.inl rfl)); have n1_ := mkA (hp_); have n2_ := mkA (blk_grown (g := gb309) (o := .cells #[.int .i64 a0_0, .int .i64 a0_1, .slice (some ad319) l0_2.length c0_2] 29 (0, 0)) (bl_ BK309.out) hg (Kd.R_ne HO_7.out BK309.out (by decide))); have n3_ := mkA (blk_grown (g := gb310) (o := .cells #[.int .i64 a1_0, .int .i64 a1_1, .int .i64 a1_2] 31 (0, 0)) (bl_ BK310.out) hg (Kd.R_ne HO_7.out BK310.out (by decide))); have n4_ := mkA ((by rw [hw]; exact below_set (HB.out) GB48.out : Below w.heap.size w w59)); clear HO_6; clear HO_7; clear BK309; clear BK310; clear HB; have HO_6 := n0_; have HO_7 := n1_; have BK309 := n2_; have BK310 := n3_; have HB := n4_; clear n0_ n1_ n2_ n3_ n4_; clear hg hw hp_))
         go_roundg k1
         case measure => have := HK1.out; omega
         case rel => exact ⟨(y328), (y329), (wrap64 (x23_1 + 1)), (by first | rfl | (simp; done) | (simp [*]; done) | (simp [i64_w, i32_w]; done)), H', ⟨by have := HK1.out; omega⟩, ⟨by (with_reducible repeat (first | apply Kd.R_alloc | apply Kd.R_drewN | apply Kd.R_drew)); exact Kd.R_mono HO_6.out (fun _ hk => hk.2)⟩, ⟨by (with_reducible repeat (first | apply Kd.R_alloc | apply Kd.R_drewN | apply Kd.R_drew)); exact HO_7.out⟩, ⟨by (with_reducible repeat (first | refine blk_drewN ?_ _ | refine blk_drew ?_ | refine blk_alloc ?_ _)); exact BK309.out⟩, ⟨by (with_reducible repeat (first | refine blk_drewN ?_ _ | refine blk_drew ?_ | refine blk_alloc ?_ _)); exact BK310.out⟩, ⟨by repeat (first | (with_reducible first | exact HB.out | apply below_alloc | apply pw_below_drewN | apply below_drew1 | refine below_set ?_ GE309.out | refine below_set ?_ GE310.out) | exact HB.out)⟩⟩
     · rw [if_neg c29] at H
       have c29b0 : ((rd x6_1 (rd l0_2 x23_1)) == 0) = false := beq_eq_false_iff_ne.mpr c29
       have c29b1 : ((rd x6_1 (rd l0_2 x23_1)) != 0) = true := bne_iff_ne.mpr c29
       by_cases c67 : (rd x6_1 (rd l0_2 x23_1)) = (wrap64 (t322 + 1))
       rotate_left
       · rw [if_neg c67] at H
         have c67b0 : ((rd x6_1 (rd l0_2 x23_1)) == (wrap64 (t322 + 1))) = false := beq_eq_false_iff_ne.mpr c67
         have c67b1 : ((rd x6_1 (rd l0_2 x23_1)) != (wrap64 (t322 + 1))) = true := bne_iff_ne.mpr c67
         simp only [Option.some.injEq, Prod.mk.injEq] at H
         obtain ⟨rfl, rfl⟩ := H
         have p319 : 0 ≤ (x23_1 : Int) := dt_
         have q319 : x23_1 < (l0_2.length : Int) := dt_
         obtain ⟨ad319, e319, hx319_0⟩ := Kd.at_int HR0_2.out x23_1 p319 q319
         cases e319
         replace hx319_0 := bc_ HB.out hx319_0
         replace p319 := eq_true p319
         replace q319 := eq_true q319
         try go_wp2
         have n0_ := mkA (Kd.R_drew HO_6.out)
         have n1_ := mkA (Kd.R_drew HO_7.out)
         have n2_ := mkA (blk_drew BK309.out)
         have n3_ := mkA (blk_drew BK310.out)
         have n4_ := mkA (below_drew1 HB.out)
         clear HO_6
         clear HO_7
         clear BK309
         clear BK310
         clear HB
         have HO_6 := n0_
         have HO_7 := n1_
         have BK309 := n2_
         have BK310 := n3_
         have HB := n4_
         clear n0_ n1_ n2_ n3_ n4_
         refine start_ (n := 16) (S := fun w' => w'.cell? ⟨gb309, 0, none⟩ = some (.int .i64 a0_0) ∧ w'.cell? ⟨gb309, 1, none⟩ = some (.int .i64 a0_1) ∧ w'.cell? ⟨gb309, 2, none⟩ = some (.slice (some ad319) l0_2.length c0_2) ∧ w'.cell? ⟨gb310, 0, none⟩ = some (.int .i64 a1_0) ∧ w'.cell? ⟨gb310, 1, none⟩ = some (.int .i64 a1_1) ∧ w'.cell? ⟨gb310, 2, none⟩ = some (.int .i64 a1_2)) (ds := []) impl_images.d0 (by kernel_rfl) rfl rfl ⟨(blk_cell BK309.out 0).trans rfl, (blk_cell BK309.out 1).trans rfl, (blk_cell BK309.out 2).trans rfl, (blk_cell BK310.out 0).trans rfl, (blk_cell BK310.out 1).trans rfl, (blk_cell BK310.out 2).trans rfl⟩ (fun hHeld => ?_); refine with_tabW impl_images.tab6 impl_images.bits6 (fun HT_ HW_ => ?_)
         generalize wr.drew = w105 at HO_6 HO_7 BK309 BK310 HB hHeld ⊢
         refine p1_ HT_.out 2 31 impl_images.d1 ?_
         refine p1_ HT_.out 3 32 impl_images.d2 ?_
         refine p1_ HT_.out 6 35 impl_images.d3 ?_
         refine p1_ HT_.out 7 36 impl_images.d4 ?_
         refine take_ (i := 0) (N := some 29) (v := ?_) (a' := ?_) impl_images.d5 rfl rfl (take_ofW HT_.out HW_.out (by kernel_rfl)) (fun _ _ _ h => h) (Or.inl ⟨by rfl, ?_⟩) hHeld ?_ ?_
         rotate_left
         · rintro w' ⟨s0, s1, s2, s3, s4, s5⟩
           go_simp
           with_reducible rfl
         rotate_left
         · simp only [Act.put, sA, sB, sC, i64_w, i32_w]
           rfl
         refine take_ (i := 1) (N := some 30) (v := ?_) (a' := ?_) impl_images.d6 rfl rfl (take_ofW HT_.out HW_.out (by kernel_rfl)) (fun _ _ _ h => h) (Or.inl ⟨by rfl, ?_⟩) hHeld ?_ ?_
         rotate_left
         · rintro w' ⟨s0, s1, s2, s3, s4, s5⟩
           go_simp
           with_reducible rfl
         rotate_left
         · simp only [Act.put, sA, sB, sC, i64_w, i32_w]
           rfl
         refine take_ (i := 4) (N := some 33) (v := ?_) (a' := ?_) impl_images.d7 rfl rfl (take_ofW HT_.out HW_.out (by kernel_rfl)) (fun _ _ _ h => h) (Or.inl ⟨by rfl, ?_⟩) hHeld ?_ ?_
         rotate_left
         · rintro w' ⟨s0, s1, s2, s3, s4, s5⟩
           go_simp
           with_reducible rfl
         rotate_left
         · simp only [Act.put, sA, sB, sC, i64_w, i32_w]
           rfl
         refine p1_ HT_.out 5 34 impl_images.d8 ?_
         refine take_ (i := 8) (N := some 37) (v := ?_) (a' := ?_) impl_images.d9 rfl rfl (take_ofW HT_.out HW_.out (by kernel_rfl)) (fun _ _ _ h => h) (Or.inl ⟨by rfl, ?_⟩) hHeld ?_ ?_
         rotate_left
         · rintro w' ⟨s0, s1, s2, s3, s4, s5⟩
           go_simp
           with_reducible rfl
         rotate_left
         · simp only [Act.put, sA, sB, sC, i64_w, i32_w]
           rfl
         refine p1_ HT_.out 9 38 impl_images.d10 ?_
         refine one_ (i := 10) (N := some 39) impl_images.d11 rfl rfl (one_of HT_.out (by kernel_rfl)) (by decide) (fun K hK => ?_)
         refine goes_ Try.func59 (by kernel_rfl) rfl #[.agg #[.int .i64 a0_0, .int .i64 a0_1, .slice (some ad319) l0_2.length c0_2], .agg #[.int .i64 a1_0, .int .i64 a1_1, .int .i64 a1_2], .int .i64 (Int.tmod x23_1 a0_0), .int .i64 (wrap64 (Int.tdiv x23_1 a0_0))] (by rfl) rfl rfl (by (try simp only [List.map_toArray, List.map_cons, List.map_nil]); first | done | rfl | (simp only [List.length_drop, List.length_take]; rfl)) ?_
         with_reducible refine (impl_moveCell.calls k1 a0_0 a0_1 _ _ l0_2 a1_0 a1_1 a1_2 (Int.tmod x23_1 a0_0) (wrap64 (Int.tdiv x23_1 a0_0)) t320 t321 _ ?side1 ?side2 A25.out).mono ?_
         (case side1 => exact cb_ HR0_2.out HB.out)
         (case side2 => exact HC0_2.out)
         rintro e w106 ⟨rfl, hb⟩
         refine ⟨_, rfl, ?_⟩
         have n0_ := mkA (Kd.R_below (by (with_reducible repeat (first | apply Kd.R_alloc | apply Kd.R_drewN | apply Kd.R_drew)); exact HO_6.out) hb)
         have n1_ := mkA (Kd.R_below (by (with_reducible repeat (first | apply Kd.R_alloc | apply Kd.R_drewN | apply Kd.R_drew)); exact HO_7.out) hb)
         have n2_ := mkA (blk_below (g := gb309) (o := .cells #[.int .i64 a0_0, .int .i64 a0_1, .slice (some ad319) l0_2.length c0_2] 29 (0, 0)) (bl_ BK309.out) hb)
         have n3_ := mkA (blk_below (g := gb310) (o := .cells #[.int .i64 a1_0, .int .i64 a1_1, .int .i64 a1_2] 31 (0, 0)) (bl_ BK310.out) hb)
         have n4_ := mkA (below_step (bs2_ HB.out GE309.out GE310.out) hb)
         clear HO_6
         clear HO_7
         clear BK309
         clear BK310
         clear HB
         have HO_6 := n0_
         have HO_7 := n1_
         have BK309 := n2_
         have BK310 := n3_
         have HB := n4_
         clear n0_ n1_ n2_ n3_ n4_
         (try clear hb)
         (try clear hb2)
         (try clear hk)
         (try clear hi)
         refine hK.out _ _ ⟨(blk_cell BK309.out 0).trans rfl, (blk_cell BK309.out 1).trans rfl, (blk_cell BK309.out 2).trans rfl, (blk_cell BK310.out 0).trans rfl, (blk_cell BK310.out 1).trans rfl, (blk_cell BK310.out 2).trans rfl⟩ (fun hHeld => ?_)
         clear hK K
         refine norm_ (a' := ?_) ?_ ?_
         rotate_left
         · show Act.put _ (some 39) _ = _
           simp only [Act.put, sA, sB, sC, i64_w, i32_w]
           rfl
         refine p1_ HT_.out 11 28 impl_images.d12 ?_
         refine p1_ HT_.out 12 40 impl_images.d13 ?_
         refine p1_ HT_.out 13 41 impl_images.d14 ?_
         refine p1_ HT_.out 14 10 impl_images.d15 ?_
         refine p1_ HT_.out 15 11 impl_images.d16 ?_
         refine done_ (done_of HT_.out (by kernel_rfl)) ?_
         have hnb107 := NB309_310.out
         have hnc107 := NB310_309.out
         have hcz108_0 : w106.cell? ⟨gb309, 0, none⟩ = some (.int .i64 a0_0) := (blk_cell BK309.out 0).trans rfl
         have hcz108_1 : w106.cell? ⟨gb309, 1, none⟩ = some (.int .i64 a0_1) := (blk_cell BK309.out 1).trans rfl
         have hcz108_2 : w106.cell? ⟨gb309, 2, none⟩ = some (.slice (some ad319) l0_2.length c0_2) := (blk_cell BK309.out 2).trans rfl
         have hfz108_0 := blk_frozen BK309.out 0
         have hfz108_1 := blk_frozen BK309.out 1
         have hfz108_2 := blk_frozen BK309.out 2
         try go_wp2_with (first | ((with_reducible refine gate_callee (f := 64) rfl ?_); refine goesL_ (some 45) rfl rfl Try.func64 (by kernel_rfl) rfl #[.agg #[.int .i64 a0_0, .int .i64 a0_1, .slice (some ad319) l0_2.length c0_2], .int .i64 t320, .int .i64 t321] rfl (by (try simp only [List.map_toArray, List.map_cons, List.map_nil]); first | done | rfl | (simp only [List.length_drop, List.length_take]; rfl)) ?_; (with_reducible refine (impl_tileAt.calls a0_0 a0_1 _ _ l0_2 t320 t321 t322 _ ?side1 ?side2 A26.out).mono ?_); (case side1 => exact cb_ HR0_2.out HB.out); (case side2 => exact HC0_2.out); rintro e w109 ⟨rfl, hb⟩; refine ⟨_, rfl, ?_⟩; have n0_ := mkA (Kd.R_below (by (with_reducible repeat (first | apply Kd.R_alloc | apply Kd.R_drewN | apply Kd.R_drew)); exact HO_6.out) hb); have n1_ := mkA (Kd.R_below (by (with_reducible repeat (first | apply Kd.R_alloc | apply Kd.R_drewN | apply Kd.R_drew)); exact HO_7.out) hb); have n2_ := mkA (blk_below (g := gb309) (o := .cells #[.int .i64 a0_0, .int .i64 a0_1, .slice (some ad319) l0_2.length c0_2] 29 (0, 0)) (bl_ BK309.out) hb); have n3_ := mkA (blk_below (g := gb310) (o := .cells #[.int .i64 a1_0, .int .i64 a1_1, .int .i64 a1_2] 31 (0, 0)) (bl_ BK310.out) hb); have n4_ := mkA (below_step (bs2_ HB.out GE309.out GE310.out) hb); clear HO_6; clear HO_7; clear BK309; clear BK310; clear HB; have HO_6 := n0_; have HO_7 := n1_; have BK309 := n2_; have BK310 := n3_; have HB := n4_; clear n0_ n1_ n2_ n3_ n4_; (try clear hb); (try clear hb2); (try clear hk); (try clear hi); obtain ⟨Ao110, co110, eo110⟩ := Kd.R_slice HO_6.out; subst eo110; have p323 : 0 ≤ ((rd l0_2 x23_1) : Int) := dt_; have q323 : (rd l0_2 x23_1) < (x6_1.length : Int) := dt_; obtain ⟨ad323, e323, hx323_0⟩ := Kd.at_int (Kd.R_reads' HO_6.out).2.2 (rd l0_2 x23_1) p323 q323; cases e323; replace p323 := eq_true p323; replace q323 := eq_true q323; have p330 : 0 ≤ ((rd l0_2 x23_1) : Int) := dt_; have q330 : (rd l0_2 x23_1) < (x6_1.length : Int) := dt_; obtain ⟨ad330, e330, hx330_0⟩ := Kd.at_int (Kd.R_reads' HO_6.out).2.2 (rd l0_2 x23_1) p330 q330; obtain rfl : ad323 = ad330 := (by injection e330); replace p330 := eq_true p330; replace q330 := eq_true q330))
         go_ret2
         exact ⟨_, by first | rfl | (simp [errW_none, errW_some] <;> rfl) | (simp [*, errW_none, errW_some] <;> rfl), by first | exact Kd.R_nil _ _ _ _ _ | exact Kd.N_nil _ _ _ _ _ | exact Kd.V_nil _ _ _ _ _ | exact Kd.Q_nil _ _ _ _ _ | exact Kd.S_nil _ _ _ _ _, by repeat (first | (with_reducible first | exact HB.out | apply below_alloc | apply pw_below_drewN | apply below_drew1 | refine below_set ?_ GE309.out | refine below_set ?_ GE310.out) | exact HB.out)⟩
       rw [if_pos c67] at H
       have c67b0 : ((rd x6_1 (rd l0_2 x23_1)) == (wrap64 (t322 + 1))) = true := beq_iff_eq.mpr c67
       have c67b1 : ((rd x6_1 (rd l0_2 x23_1)) != (wrap64 (t322 + 1))) = false := bne_eq_false_iff_eq.mpr c67
       clear c67
       by_cases c68 : 0 ≤ t322
       rotate_left
       · rw [if_neg c68] at H
         exact absurd H (by simp)
       rw [if_pos c68] at H
       have c68b0 : decide (0 ≤ t322) = true := decide_eq_true c68
       clear c68
       by_cases c69 : t322 < (x7_1.length : Int)
       rotate_left
       · rw [if_neg c69] at H
         exact absurd H (by simp)
       rw [if_pos c69] at H
       have c69b0 : decide (t322 < (x7_1.length : Int)) = true := decide_eq_true c69
       clear c69
       by_cases c70 : (rd x7_1 t322) = 0
       · rw [if_pos c70] at H
         have c70b0 : ((rd x7_1 t322) == 0) = true := beq_iff_eq.mpr c70
         have c70b1 : ((rd x7_1 t322) != 0) = false := bne_eq_false_iff_eq.mpr c70
         clear c70
         obtain ⟨y332, hy332⟩ : ∃ y_ : List Int, y_ = (x6_1.set ((rd l0_2 x23_1) : Int).toNat (wrap64 (t322 + 1))) := ⟨_, rfl⟩
         replace H : (impl_images.l0 k1 y332 (x7_1.set (t322 : Int).toNat (wrap64 ((rd l0_2 x23_1) + 1))) l0_2 (l0_2.length : Int) (wrap64 (x23_1 + 1)) a0_0 a0_1 l0_2 a1_0 a1_1 a1_2) = some (r1, r2) := by first | (rw [hy332]; with_reducible exact H) | (have H2_ := (Option.bind_some _ _).symm.trans H; rw [hy332]; with_reducible exact H2_) | (have H2_ := (Option.bind_some _ _).symm.trans H; with_reducible exact H2_) | with_reducible exact H | (rw [hy332]; exact H) | exact H
         have Ny332 := mkA hy332
         clear hy332
         obtain ⟨y333, hy333⟩ : ∃ y_ : List Int, y_ = (x7_1.set (t322 : Int).toNat (wrap64 ((rd l0_2 x23_1) + 1))) := ⟨_, rfl⟩
         replace H : (impl_images.l0 k1 y332 y333 l0_2 (l0_2.length : Int) (wrap64 (x23_1 + 1)) a0_0 a0_1 l0_2 a1_0 a1_1 a1_2) = some (r1, r2) := by first | (rw [hy333]; with_reducible exact H) | (have H2_ := (Option.bind_some _ _).symm.trans H; rw [hy333]; with_reducible exact H2_) | (have H2_ := (Option.bind_some _ _).symm.trans H; with_reducible exact H2_) | with_reducible exact H | (rw [hy333]; exact H) | exact H
         have Ny333 := mkA hy333
         clear hy333
         have H' := mkA H
         clear H
         have p319 : 0 ≤ (x23_1 : Int) := dt_
         have q319 : x23_1 < (l0_2.length : Int) := dt_
         obtain ⟨ad319, e319, hx319_0⟩ := Kd.at_int HR0_2.out x23_1 p319 q319
         cases e319
         replace hx319_0 := bc_ HB.out hx319_0
         replace p319 := eq_true p319
         replace q319 := eq_true q319
         try go_wp2
         have n0_ := mkA (Kd.R_drew HO_6.out)
         have n1_ := mkA (Kd.R_drew HO_7.out)
         have n2_ := mkA (blk_drew BK309.out)
         have n3_ := mkA (blk_drew BK310.out)
         have n4_ := mkA (below_drew1 HB.out)
         clear HO_6
         clear HO_7
         clear BK309
         clear BK310
         clear HB
         have HO_6 := n0_
         have HO_7 := n1_
         have BK309 := n2_
         have BK310 := n3_
         have HB := n4_
         clear n0_ n1_ n2_ n3_ n4_
         refine start_ (n := 16) (S := fun w' => w'.cell? ⟨gb309, 0, none⟩ = some (.int .i64 a0_0) ∧ w'.cell? ⟨gb309, 1, none⟩ = some (.int .i64 a0_1) ∧ w'.cell? ⟨gb309, 2, none⟩ = some (.slice (some ad319) l0_2.length c0_2) ∧ w'.cell? ⟨gb310, 0, none⟩ = some (.int .i64 a1_0) ∧ w'.cell? ⟨gb310, 1, none⟩ = some (.int .i64 a1_1) ∧ w'.cell? ⟨gb310, 2, none⟩ = some (.int .i64 a1_2)) (ds := []) impl_images.d0 (by kernel_rfl) rfl rfl ⟨(blk_cell BK309.out 0).trans rfl, (blk_cell BK309.out 1).trans rfl, (blk_cell BK309.out 2).trans rfl, (blk_cell BK310.out 0).trans rfl, (blk_cell BK310.out 1).trans rfl, (blk_cell BK310.out 2).trans rfl⟩ (fun hHeld => ?_); refine with_tabW impl_images.tab6 impl_images.bits6 (fun HT_ HW_ => ?_)
         generalize wr.drew = w73 at HO_6 HO_7 BK309 BK310 HB hHeld ⊢
         refine p1_ HT_.out 2 31 impl_images.d1 ?_
         refine p1_ HT_.out 3 32 impl_images.d2 ?_
         refine p1_ HT_.out 6 35 impl_images.d3 ?_
         refine p1_ HT_.out 7 36 impl_images.d4 ?_
         refine take_ (i := 0) (N := some 29) (v := ?_) (a' := ?_) impl_images.d5 rfl rfl (take_ofW HT_.out HW_.out (by kernel_rfl)) (fun _ _ _ h => h) (Or.inl ⟨by rfl, ?_⟩) hHeld ?_ ?_
         rotate_left
         · rintro w' ⟨s0, s1, s2, s3, s4, s5⟩
           go_simp
           with_reducible rfl
         rotate_left
         · simp only [Act.put, sA, sB, sC, i64_w, i32_w]
           rfl
         refine take_ (i := 1) (N := some 30) (v := ?_) (a' := ?_) impl_images.d6 rfl rfl (take_ofW HT_.out HW_.out (by kernel_rfl)) (fun _ _ _ h => h) (Or.inl ⟨by rfl, ?_⟩) hHeld ?_ ?_
         rotate_left
         · rintro w' ⟨s0, s1, s2, s3, s4, s5⟩
           go_simp
           with_reducible rfl
         rotate_left
         · simp only [Act.put, sA, sB, sC, i64_w, i32_w]
           rfl
         refine take_ (i := 4) (N := some 33) (v := ?_) (a' := ?_) impl_images.d7 rfl rfl (take_ofW HT_.out HW_.out (by kernel_rfl)) (fun _ _ _ h => h) (Or.inl ⟨by rfl, ?_⟩) hHeld ?_ ?_
         rotate_left
         · rintro w' ⟨s0, s1, s2, s3, s4, s5⟩
           go_simp
           with_reducible rfl
         rotate_left
         · simp only [Act.put, sA, sB, sC, i64_w, i32_w]
           rfl
         refine p1_ HT_.out 5 34 impl_images.d8 ?_
         refine take_ (i := 8) (N := some 37) (v := ?_) (a' := ?_) impl_images.d9 rfl rfl (take_ofW HT_.out HW_.out (by kernel_rfl)) (fun _ _ _ h => h) (Or.inl ⟨by rfl, ?_⟩) hHeld ?_ ?_
         rotate_left
         · rintro w' ⟨s0, s1, s2, s3, s4, s5⟩
           go_simp
           with_reducible rfl
         rotate_left
         · simp only [Act.put, sA, sB, sC, i64_w, i32_w]
           rfl
         refine p1_ HT_.out 9 38 impl_images.d10 ?_
         refine one_ (i := 10) (N := some 39) impl_images.d11 rfl rfl (one_of HT_.out (by kernel_rfl)) (by decide) (fun K hK => ?_)
         refine goes_ Try.func59 (by kernel_rfl) rfl #[.agg #[.int .i64 a0_0, .int .i64 a0_1, .slice (some ad319) l0_2.length c0_2], .agg #[.int .i64 a1_0, .int .i64 a1_1, .int .i64 a1_2], .int .i64 (Int.tmod x23_1 a0_0), .int .i64 (wrap64 (Int.tdiv x23_1 a0_0))] (by rfl) rfl rfl (by (try simp only [List.map_toArray, List.map_cons, List.map_nil]); first | done | rfl | (simp only [List.length_drop, List.length_take]; rfl)) ?_
         with_reducible refine (impl_moveCell.calls k1 a0_0 a0_1 _ _ l0_2 a1_0 a1_1 a1_2 (Int.tmod x23_1 a0_0) (wrap64 (Int.tdiv x23_1 a0_0)) t320 t321 _ ?side1 ?side2 A25.out).mono ?_
         (case side1 => exact cb_ HR0_2.out HB.out)
         (case side2 => exact HC0_2.out)
         rintro e w74 ⟨rfl, hb⟩
         refine ⟨_, rfl, ?_⟩
         have n0_ := mkA (Kd.R_below (by (with_reducible repeat (first | apply Kd.R_alloc | apply Kd.R_drewN | apply Kd.R_drew)); exact HO_6.out) hb)
         have n1_ := mkA (Kd.R_below (by (with_reducible repeat (first | apply Kd.R_alloc | apply Kd.R_drewN | apply Kd.R_drew)); exact HO_7.out) hb)
         have n2_ := mkA (blk_below (g := gb309) (o := .cells #[.int .i64 a0_0, .int .i64 a0_1, .slice (some ad319) l0_2.length c0_2] 29 (0, 0)) (bl_ BK309.out) hb)
         have n3_ := mkA (blk_below (g := gb310) (o := .cells #[.int .i64 a1_0, .int .i64 a1_1, .int .i64 a1_2] 31 (0, 0)) (bl_ BK310.out) hb)
         have n4_ := mkA (below_step (bs2_ HB.out GE309.out GE310.out) hb)
         clear HO_6
         clear HO_7
         clear BK309
         clear BK310
         clear HB
         have HO_6 := n0_
         have HO_7 := n1_
         have BK309 := n2_
         have BK310 := n3_
         have HB := n4_
         clear n0_ n1_ n2_ n3_ n4_
         (try clear hb)
         (try clear hb2)
         (try clear hk)
         (try clear hi)
         refine hK.out _ _ ⟨(blk_cell BK309.out 0).trans rfl, (blk_cell BK309.out 1).trans rfl, (blk_cell BK309.out 2).trans rfl, (blk_cell BK310.out 0).trans rfl, (blk_cell BK310.out 1).trans rfl, (blk_cell BK310.out 2).trans rfl⟩ (fun hHeld => ?_)
         clear hK K
         refine norm_ (a' := ?_) ?_ ?_
         rotate_left
         · show Act.put _ (some 39) _ = _
           simp only [Act.put, sA, sB, sC, i64_w, i32_w]
           rfl
         refine p1_ HT_.out 11 28 impl_images.d12 ?_
         refine p1_ HT_.out 12 40 impl_images.d13 ?_
         refine p1_ HT_.out 13 41 impl_images.d14 ?_
         refine p1_ HT_.out 14 10 impl_images.d15 ?_
         refine p1_ HT_.out 15 11 impl_images.d16 ?_
         refine done_ (done_of HT_.out (by kernel_rfl)) ?_
         have hnb75 := NB309_310.out
         have hnc75 := NB310_309.out
         have hcz76_0 : w74.cell? ⟨gb309, 0, none⟩ = some (.int .i64 a0_0) := (blk_cell BK309.out 0).trans rfl
         have hcz76_1 : w74.cell? ⟨gb309, 1, none⟩ = some (.int .i64 a0_1) := (blk_cell BK309.out 1).trans rfl
         have hcz76_2 : w74.cell? ⟨gb309, 2, none⟩ = some (.slice (some ad319) l0_2.length c0_2) := (blk_cell BK309.out 2).trans rfl
         have hfz76_0 := blk_frozen BK309.out 0
         have hfz76_1 := blk_frozen BK309.out 1
         have hfz76_2 := blk_frozen BK309.out 2
         try go_wp2_with (first | ((with_reducible refine gate_callee (f := 64) rfl ?_); refine goesL_ (some 45) rfl rfl Try.func64 (by kernel_rfl) rfl #[.agg #[.int .i64 a0_0, .int .i64 a0_1, .slice (some ad319) l0_2.length c0_2], .int .i64 t320, .int .i64 t321] rfl (by (try simp only [List.map_toArray, List.map_cons, List.map_nil]); first | done | rfl | (simp only [List.length_drop, List.length_take]; rfl)) ?_; (with_reducible refine (impl_tileAt.calls a0_0 a0_1 _ _ l0_2 t320 t321 t322 _ ?side1 ?side2 A26.out).mono ?_); (case side1 => exact cb_ HR0_2.out HB.out); (case side2 => exact HC0_2.out); rintro e w77 ⟨rfl, hb⟩; refine ⟨_, rfl, ?_⟩; have n0_ := mkA (Kd.R_below (by (with_reducible repeat (first | apply Kd.R_alloc | apply Kd.R_drewN | apply Kd.R_drew)); exact HO_6.out) hb); have n1_ := mkA (Kd.R_below (by (with_reducible repeat (first | apply Kd.R_alloc | apply Kd.R_drewN | apply Kd.R_drew)); exact HO_7.out) hb); have n2_ := mkA (blk_below (g := gb309) (o := .cells #[.int .i64 a0_0, .int .i64 a0_1, .slice (some ad319) l0_2.length c0_2] 29 (0, 0)) (bl_ BK309.out) hb); have n3_ := mkA (blk_below (g := gb310) (o := .cells #[.int .i64 a1_0, .int .i64 a1_1, .int .i64 a1_2] 31 (0, 0)) (bl_ BK310.out) hb); have n4_ := mkA (below_step (bs2_ HB.out GE309.out GE310.out) hb); clear HO_6; clear HO_7; clear BK309; clear BK310; clear HB; have HO_6 := n0_; have HO_7 := n1_; have BK309 := n2_; have BK310 := n3_; have HB := n4_; clear n0_ n1_ n2_ n3_ n4_; (try clear hb); (try clear hb2); (try clear hk); (try clear hi); obtain ⟨Ao78, co78, eo78⟩ := Kd.R_slice HO_6.out; subst eo78; have p323 : 0 ≤ ((rd l0_2 x23_1) : Int) := dt_; have q323 : (rd l0_2 x23_1) < (x6_1.length : Int) := dt_; obtain ⟨ad323, e323, hx323_0⟩ := Kd.at_int (Kd.R_reads' HO_6.out).2.2 (rd l0_2 x23_1) p323 q323; cases e323; replace p323 := eq_true p323; replace q323 := eq_true q323; have p330 : 0 ≤ ((rd l0_2 x23_1) : Int) := dt_; have q330 : (rd l0_2 x23_1) < (x6_1.length : Int) := dt_; obtain ⟨ad330, e330, hx330_0⟩ := Kd.at_int (Kd.R_reads' HO_6.out).2.2 (rd l0_2 x23_1) p330 q330; obtain rfl : ad323 = ad330 := (by injection e330); replace p330 := eq_true p330; replace q330 := eq_true q330; obtain ⟨Ao79, co79, eo79⟩ := Kd.R_slice HO_7.out; subst eo79; have p331 : 0 ≤ (t322 : Int) := dt_; have q331 : t322 < (x7_1.length : Int) := dt_; obtain ⟨ad331, e331, hx331_0⟩ := Kd.at_int (Kd.R_reads' HO_7.out).2.2 t322 p331 q331; cases e331; replace p331 := eq_true p331; replace q331 := eq_true q331; have p71 : 0 ≤ ((rd l0_2 x23_1) : Int) := dt_; have q71 : ((rd l0_2 x23_1) : Int) < ((x6_1.length : Int) : Int) := dt_; obtain ⟨go71, co71, eo71, gb71, gl71, cl71, HG71⟩ := Kd.R_form HO_6.out (by omega); (first | cases eo71 | (injection eo71 with ea_ en_ ec_; (first | subst ea_ | (injection ea_ with ea_; subst ea_)); subst ec_; clear en_)); have GB71 := mkA gb71; have GG71 := mkA HG71; clear gb71 gl71 HG71; (first | simp only [add_plain] at hx323_0 | skip); (first | simp only [add_plain] at hx330_0 | skip); obtain ⟨hx71_0, hf71_0⟩ := Kd.R_celln 0 HO_6.out ((rd l0_2 x23_1) : Int) p71 q71; replace p71 := eq_true p71; replace q71 := eq_true q71; obtain ⟨hy80_, hz80_⟩ := Kd.R_celln 0 HO_6.out ((rd l0_2 x23_1) : Int) (dt_) (dt_); have HP80 := Kd.R_putg HO_6.out ((rd l0_2 x23_1) : Int) (wrap64 (t322 + 1))) | ((with_reducible refine gate_store (t := 2) (p := 84) rfl ?_); refine store_event (t := 2) (p := 84) (v := ?vo_w81) (w1 := (w77.setCell ⟨go71, ((rd l0_2 x23_1) : Int).toNat, none⟩ (.int .i64 (wrap64 (t322 + 1))))) ?hg ?ho ?hn ?hr ?_; (case ho => rfl); (case hg => rfl); (case hn => rfl); (case hr => first | (go_simp; done) | (go_simp; rfl)); intro w81 hw; have hg : w77.grownBy w81 (some go71) := (by rw [hw]; exact HP80.2); have hp_ : Kd.R (Kd.int .i64) 2 w81 w.heap.size (fun k_ => some k_ ≠ (.slice (some ad331) x7_1.length co79 : Value).ownBlock) (.slice (some ⟨go71, 0, none⟩) x6_1.length co78) y332 := (by rw [hw, Ny332.out]; exact HP80.1); clear HP80; have n0_ := mkA (hp_); have n1_ := mkA (Kd.R_after (v := (.slice (some ⟨go71, 0, none⟩) x6_1.length co78)) (v1 := (.slice (some ⟨go71, 0, none⟩) x6_1.length co78)) (ok := (fun _ => True)) (by (with_reducible repeat (first | apply Kd.R_alloc | apply Kd.R_drewN | apply Kd.R_drew)); exact Kd.R_mono HO_7.out (fun _ hk => ⟨trivial, hk⟩)) hg (.inl rfl)); have n2_ := mkA (blk_grown (g := gb309) (o := .cells #[.int .i64 a0_0, .int .i64 a0_1, .slice (some ad319) l0_2.length c0_2] 29 (0, 0)) (bl_ BK309.out) hg (Kd.R_ne HO_6.out BK309.out (by decide))); have n3_ := mkA (blk_grown (g := gb310) (o := .cells #[.int .i64 a1_0, .int .i64 a1_1, .int .i64 a1_2] 31 (0, 0)) (bl_ BK310.out) hg (Kd.R_ne HO_6.out BK310.out (by decide))); have n4_ := mkA ((by rw [hw]; exact below_set (HB.out) GB71.out : Below w.heap.size w w81)); clear HO_6; clear HO_7; clear BK309; clear BK310; clear HB; have HO_6 := n0_; have HO_7 := n1_; have BK309 := n2_; have BK310 := n3_; have HB := n4_; clear n0_ n1_ n2_ n3_ n4_; clear hg hw hp_; have p72 : 0 ≤ (t322 : Int) := dt_; have q72 : (t322 : Int) < ((x7_1.length : Int) : Int) := dt_; obtain ⟨go72, co72, eo72, gb72, gl72, cl72, HG72⟩ := Kd.R_form HO_7.out (by omega); (first | cases eo72 | (injection eo72 with ea_ en_ ec_; (first | subst ea_ | (injection ea_ with ea_; subst ea_)); subst ec_; clear en_)); have GB72 := mkA gb72; have GG72 := mkA HG72; clear gb72 gl72 HG72; (first | simp only [add_plain] at hx331_0 | skip); obtain ⟨hx72_0, hf72_0⟩ := Kd.R_celln 0 HO_7.out (t322 : Int) p72 q72; replace p72 := eq_true p72; replace q72 := eq_true q72; have n_ := mkA (Kd.R_mono (ok' := (fun k_ => some k_ ≠ (.slice (some ⟨go71, 0, none⟩) x6_1.length co78 : Value).ownBlock)) HO_7.out (fun k_ hk => hk.2)); clear HO_7; have HO_7 := n_; clear n_; obtain ⟨hy82_, hz82_⟩ := Kd.R_celln 0 HO_7.out (t322 : Int) (dt_) (dt_); have HP82 := Kd.R_putg HO_7.out (t322 : Int) (wrap64 ((rd l0_2 x23_1) + 1))) | ((with_reducible refine gate_store (t := 2) (p := 85) rfl ?_); refine store_event (t := 2) (p := 85) (v := ?vo_w83) (w1 := (w81.setCell ⟨go72, (t322 : Int).toNat, none⟩ (.int .i64 (wrap64 ((rd l0_2 x23_1) + 1))))) ?hg ?ho ?hn ?hr ?_; (case ho => rfl); (case hg => rfl); (case hn => rfl); (case hr => first | (go_simp; done) | (go_simp; rfl)); intro w83 hw; have hg : w81.grownBy w83 (some go72) := (by rw [hw]; exact HP82.2); have hp_ : Kd.R (Kd.int .i64) 2 w83 w.heap.size (fun k_ => some k_ ≠ (.slice (some ⟨go71, 0, none⟩) x6_1.length co78 : Value).ownBlock) (.slice (some ⟨go72, 0, none⟩) x7_1.length co79) y333 := (by rw [hw, Ny333.out]; exact HP82.1); clear HP82; have n0_ := mkA (Kd.R_after (v := (.slice (some ⟨go72, 0, none⟩) x7_1.length co79)) (v1 := (.slice (some ⟨go72, 0, none⟩) x7_1.length co79)) (ok := (fun _ => True)) (by (with_reducible repeat (first | apply Kd.R_alloc | apply Kd.R_drewN | apply Kd.R_drew)); exact Kd.R_mono HO_6.out (fun _ hk => ⟨trivial, hk⟩)) hg (.inl rfl)); have n1_ := mkA (hp_); have n2_ := mkA (blk_grown (g := gb309) (o := .cells #[.int .i64 a0_0, .int .i64 a0_1, .slice (some ad319) l0_2.length c0_2] 29 (0, 0)) (bl_ BK309.out) hg (Kd.R_ne HO_7.out BK309.out (by decide))); have n3_ := mkA (blk_grown (g := gb310) (o := .cells #[.int .i64 a1_0, .int .i64 a1_1, .int .i64 a1_2] 31 (0, 0)) (bl_ BK310.out) hg (Kd.R_ne HO_7.out BK310.out (by decide))); have n4_ := mkA ((by rw [hw]; exact below_set (HB.out) GB72.out : Below w.heap.size w w83)); clear HO_6; clear HO_7; clear BK309; clear BK310; clear HB; have HO_6 := n0_; have HO_7 := n1_; have BK309 := n2_; have BK310 := n3_; have HB := n4_; clear n0_ n1_ n2_ n3_ n4_; clear hg hw hp_))
         go_roundg k1
         case measure => have := HK1.out; omega
         case rel => exact ⟨(y332), (y333), (wrap64 (x23_1 + 1)), (by first | rfl | (simp; done) | (simp [*]; done) | (simp [i64_w, i32_w]; done)), H', ⟨by have := HK1.out; omega⟩, ⟨by (with_reducible repeat (first | apply Kd.R_alloc | apply Kd.R_drewN | apply Kd.R_drew)); exact Kd.R_mono HO_6.out (fun _ hk => hk.2)⟩, ⟨by (with_reducible repeat (first | apply Kd.R_alloc | apply Kd.R_drewN | apply Kd.R_drew)); exact HO_7.out⟩, ⟨by (with_reducible repeat (first | refine blk_drewN ?_ _ | refine blk_drew ?_ | refine blk_alloc ?_ _)); exact BK309.out⟩, ⟨by (with_reducible repeat (first | refine blk_drewN ?_ _ | refine blk_drew ?_ | refine blk_alloc ?_ _)); exact BK310.out⟩, ⟨by repeat (first | (with_reducible first | exact HB.out | apply below_alloc | apply pw_below_drewN | apply below_drew1 | refine below_set ?_ GE309.out | refine below_set ?_ GE310.out) | exact HB.out)⟩⟩
       · rw [if_neg c70] at H
         have c70b0 : ((rd x7_1 t322) == 0) = false := beq_eq_false_iff_ne.mpr c70
         have c70b1 : ((rd x7_1 t322) != 0) = true := bne_iff_ne.mpr c70
         by_cases c84 : (rd x7_1 t322) = (wrap64 ((rd l0_2 x23_1) + 1))
         rotate_left
         · rw [if_neg c84] at H
           have c84b0 : ((rd x7_1 t322) == (wrap64 ((rd l0_2 x23_1) + 1))) = false := beq_eq_false_iff_ne.mpr c84
           have c84b1 : ((rd x7_1 t322) != (wrap64 ((rd l0_2 x23_1) + 1))) = true := bne_iff_ne.mpr c84
           simp only [Option.some.injEq, Prod.mk.injEq] at H
           obtain ⟨rfl, rfl⟩ := H
           have p319 : 0 ≤ (x23_1 : Int) := dt_
           have q319 : x23_1 < (l0_2.length : Int) := dt_
           obtain ⟨ad319, e319, hx319_0⟩ := Kd.at_int HR0_2.out x23_1 p319 q319
           cases e319
           replace hx319_0 := bc_ HB.out hx319_0
           replace p319 := eq_true p319
           replace q319 := eq_true q319
           try go_wp2
           have n0_ := mkA (Kd.R_drew HO_6.out)
           have n1_ := mkA (Kd.R_drew HO_7.out)
           have n2_ := mkA (blk_drew BK309.out)
           have n3_ := mkA (blk_drew BK310.out)
           have n4_ := mkA (below_drew1 HB.out)
           clear HO_6
           clear HO_7
           clear BK309
           clear BK310
           clear HB
           have HO_6 := n0_
           have HO_7 := n1_
           have BK309 := n2_
           have BK310 := n3_
           have HB := n4_
           clear n0_ n1_ n2_ n3_ n4_
           refine start_ (n := 16) (S := fun w' => w'.cell? ⟨gb309, 0, none⟩ = some (.int .i64 a0_0) ∧ w'.cell? ⟨gb309, 1, none⟩ = some (.int .i64 a0_1) ∧ w'.cell? ⟨gb309, 2, none⟩ = some (.slice (some ad319) l0_2.length c0_2) ∧ w'.cell? ⟨gb310, 0, none⟩ = some (.int .i64 a1_0) ∧ w'.cell? ⟨gb310, 1, none⟩ = some (.int .i64 a1_1) ∧ w'.cell? ⟨gb310, 2, none⟩ = some (.int .i64 a1_2)) (ds := []) impl_images.d0 (by kernel_rfl) rfl rfl ⟨(blk_cell BK309.out 0).trans rfl, (blk_cell BK309.out 1).trans rfl, (blk_cell BK309.out 2).trans rfl, (blk_cell BK310.out 0).trans rfl, (blk_cell BK310.out 1).trans rfl, (blk_cell BK310.out 2).trans rfl⟩ (fun hHeld => ?_); refine with_tabW impl_images.tab6 impl_images.bits6 (fun HT_ HW_ => ?_)
           generalize wr.drew = w98 at HO_6 HO_7 BK309 BK310 HB hHeld ⊢
           refine p1_ HT_.out 2 31 impl_images.d1 ?_
           refine p1_ HT_.out 3 32 impl_images.d2 ?_
           refine p1_ HT_.out 6 35 impl_images.d3 ?_
           refine p1_ HT_.out 7 36 impl_images.d4 ?_
           refine take_ (i := 0) (N := some 29) (v := ?_) (a' := ?_) impl_images.d5 rfl rfl (take_ofW HT_.out HW_.out (by kernel_rfl)) (fun _ _ _ h => h) (Or.inl ⟨by rfl, ?_⟩) hHeld ?_ ?_
           rotate_left
           · rintro w' ⟨s0, s1, s2, s3, s4, s5⟩
             go_simp
             with_reducible rfl
           rotate_left
           · simp only [Act.put, sA, sB, sC, i64_w, i32_w]
             rfl
           refine take_ (i := 1) (N := some 30) (v := ?_) (a' := ?_) impl_images.d6 rfl rfl (take_ofW HT_.out HW_.out (by kernel_rfl)) (fun _ _ _ h => h) (Or.inl ⟨by rfl, ?_⟩) hHeld ?_ ?_
           rotate_left
           · rintro w' ⟨s0, s1, s2, s3, s4, s5⟩
             go_simp
             with_reducible rfl
           rotate_left
           · simp only [Act.put, sA, sB, sC, i64_w, i32_w]
             rfl
           refine take_ (i := 4) (N := some 33) (v := ?_) (a' := ?_) impl_images.d7 rfl rfl (take_ofW HT_.out HW_.out (by kernel_rfl)) (fun _ _ _ h => h) (Or.inl ⟨by rfl, ?_⟩) hHeld ?_ ?_
           rotate_left
           · rintro w' ⟨s0, s1, s2, s3, s4, s5⟩
             go_simp
             with_reducible rfl
           rotate_left
           · simp only [Act.put, sA, sB, sC, i64_w, i32_w]
             rfl
           refine p1_ HT_.out 5 34 impl_images.d8 ?_
           refine take_ (i := 8) (N := some 37) (v := ?_) (a' := ?_) impl_images.d9 rfl rfl (take_ofW HT_.out HW_.out (by kernel_rfl)) (fun _ _ _ h => h) (Or.inl ⟨by rfl, ?_⟩) hHeld ?_ ?_
           rotate_left
           · rintro w' ⟨s0, s1, s2, s3, s4, s5⟩
             go_simp
             with_reducible rfl
           rotate_left
           · simp only [Act.put, sA, sB, sC, i64_w, i32_w]
             rfl
           refine p1_ HT_.out 9 38 impl_images.d10 ?_
           refine one_ (i := 10) (N := some 39) impl_images.d11 rfl rfl (one_of HT_.out (by kernel_rfl)) (by decide) (fun K hK => ?_)
           refine goes_ Try.func59 (by kernel_rfl) rfl #[.agg #[.int .i64 a0_0, .int .i64 a0_1, .slice (some ad319) l0_2.length c0_2], .agg #[.int .i64 a1_0, .int .i64 a1_1, .int .i64 a1_2], .int .i64 (Int.tmod x23_1 a0_0), .int .i64 (wrap64 (Int.tdiv x23_1 a0_0))] (by rfl) rfl rfl (by (try simp only [List.map_toArray, List.map_cons, List.map_nil]); first | done | rfl | (simp only [List.length_drop, List.length_take]; rfl)) ?_
           with_reducible refine (impl_moveCell.calls k1 a0_0 a0_1 _ _ l0_2 a1_0 a1_1 a1_2 (Int.tmod x23_1 a0_0) (wrap64 (Int.tdiv x23_1 a0_0)) t320 t321 _ ?side1 ?side2 A25.out).mono ?_
           (case side1 => exact cb_ HR0_2.out HB.out)
           (case side2 => exact HC0_2.out)
           rintro e w99 ⟨rfl, hb⟩
           refine ⟨_, rfl, ?_⟩
           have n0_ := mkA (Kd.R_below (by (with_reducible repeat (first | apply Kd.R_alloc | apply Kd.R_drewN | apply Kd.R_drew)); exact HO_6.out) hb)
           have n1_ := mkA (Kd.R_below (by (with_reducible repeat (first | apply Kd.R_alloc | apply Kd.R_drewN | apply Kd.R_drew)); exact HO_7.out) hb)
           have n2_ := mkA (blk_below (g := gb309) (o := .cells #[.int .i64 a0_0, .int .i64 a0_1, .slice (some ad319) l0_2.length c0_2] 29 (0, 0)) (bl_ BK309.out) hb)
           have n3_ := mkA (blk_below (g := gb310) (o := .cells #[.int .i64 a1_0, .int .i64 a1_1, .int .i64 a1_2] 31 (0, 0)) (bl_ BK310.out) hb)
           have n4_ := mkA (below_step (bs2_ HB.out GE309.out GE310.out) hb)
           clear HO_6
           clear HO_7
           clear BK309
           clear BK310
           clear HB
           have HO_6 := n0_
           have HO_7 := n1_
           have BK309 := n2_
           have BK310 := n3_
           have HB := n4_
           clear n0_ n1_ n2_ n3_ n4_
           (try clear hb)
           (try clear hb2)
           (try clear hk)
           (try clear hi)
           refine hK.out _ _ ⟨(blk_cell BK309.out 0).trans rfl, (blk_cell BK309.out 1).trans rfl, (blk_cell BK309.out 2).trans rfl, (blk_cell BK310.out 0).trans rfl, (blk_cell BK310.out 1).trans rfl, (blk_cell BK310.out 2).trans rfl⟩ (fun hHeld => ?_)
           clear hK K
           refine norm_ (a' := ?_) ?_ ?_
           rotate_left
           · show Act.put _ (some 39) _ = _
             simp only [Act.put, sA, sB, sC, i64_w, i32_w]
             rfl
           refine p1_ HT_.out 11 28 impl_images.d12 ?_
           refine p1_ HT_.out 12 40 impl_images.d13 ?_
           refine p1_ HT_.out 13 41 impl_images.d14 ?_
           refine p1_ HT_.out 14 10 impl_images.d15 ?_
           refine p1_ HT_.out 15 11 impl_images.d16 ?_
           refine done_ (done_of HT_.out (by kernel_rfl)) ?_
           have hnb100 := NB309_310.out
           have hnc100 := NB310_309.out
           have hcz101_0 : w99.cell? ⟨gb309, 0, none⟩ = some (.int .i64 a0_0) := (blk_cell BK309.out 0).trans rfl
           have hcz101_1 : w99.cell? ⟨gb309, 1, none⟩ = some (.int .i64 a0_1) := (blk_cell BK309.out 1).trans rfl
           have hcz101_2 : w99.cell? ⟨gb309, 2, none⟩ = some (.slice (some ad319) l0_2.length c0_2) := (blk_cell BK309.out 2).trans rfl
           have hfz101_0 := blk_frozen BK309.out 0
           have hfz101_1 := blk_frozen BK309.out 1
           have hfz101_2 := blk_frozen BK309.out 2
           try go_wp2_with (first | ((with_reducible refine gate_callee (f := 64) rfl ?_); refine goesL_ (some 45) rfl rfl Try.func64 (by kernel_rfl) rfl #[.agg #[.int .i64 a0_0, .int .i64 a0_1, .slice (some ad319) l0_2.length c0_2], .int .i64 t320, .int .i64 t321] rfl (by (try simp only [List.map_toArray, List.map_cons, List.map_nil]); first | done | rfl | (simp only [List.length_drop, List.length_take]; rfl)) ?_; (with_reducible refine (impl_tileAt.calls a0_0 a0_1 _ _ l0_2 t320 t321 t322 _ ?side1 ?side2 A26.out).mono ?_); (case side1 => exact cb_ HR0_2.out HB.out); (case side2 => exact HC0_2.out); rintro e w102 ⟨rfl, hb⟩; refine ⟨_, rfl, ?_⟩; have n0_ := mkA (Kd.R_below (by (with_reducible repeat (first | apply Kd.R_alloc | apply Kd.R_drewN | apply Kd.R_drew)); exact HO_6.out) hb); have n1_ := mkA (Kd.R_below (by (with_reducible repeat (first | apply Kd.R_alloc | apply Kd.R_drewN | apply Kd.R_drew)); exact HO_7.out) hb); have n2_ := mkA (blk_below (g := gb309) (o := .cells #[.int .i64 a0_0, .int .i64 a0_1, .slice (some ad319) l0_2.length c0_2] 29 (0, 0)) (bl_ BK309.out) hb); have n3_ := mkA (blk_below (g := gb310) (o := .cells #[.int .i64 a1_0, .int .i64 a1_1, .int .i64 a1_2] 31 (0, 0)) (bl_ BK310.out) hb); have n4_ := mkA (below_step (bs2_ HB.out GE309.out GE310.out) hb); clear HO_6; clear HO_7; clear BK309; clear BK310; clear HB; have HO_6 := n0_; have HO_7 := n1_; have BK309 := n2_; have BK310 := n3_; have HB := n4_; clear n0_ n1_ n2_ n3_ n4_; (try clear hb); (try clear hb2); (try clear hk); (try clear hi); obtain ⟨Ao103, co103, eo103⟩ := Kd.R_slice HO_6.out; subst eo103; have p323 : 0 ≤ ((rd l0_2 x23_1) : Int) := dt_; have q323 : (rd l0_2 x23_1) < (x6_1.length : Int) := dt_; obtain ⟨ad323, e323, hx323_0⟩ := Kd.at_int (Kd.R_reads' HO_6.out).2.2 (rd l0_2 x23_1) p323 q323; cases e323; replace p323 := eq_true p323; replace q323 := eq_true q323; have p330 : 0 ≤ ((rd l0_2 x23_1) : Int) := dt_; have q330 : (rd l0_2 x23_1) < (x6_1.length : Int) := dt_; obtain ⟨ad330, e330, hx330_0⟩ := Kd.at_int (Kd.R_reads' HO_6.out).2.2 (rd l0_2 x23_1) p330 q330; obtain rfl : ad323 = ad330 := (by injection e330); replace p330 := eq_true p330; replace q330 := eq_true q330; obtain ⟨Ao104, co104, eo104⟩ := Kd.R_slice HO_7.out; subst eo104; have p331 : 0 ≤ (t322 : Int) := dt_; have q331 : t322 < (x7_1.length : Int) := dt_; obtain ⟨ad331, e331, hx331_0⟩ := Kd.at_int (Kd.R_reads' HO_7.out).2.2 t322 p331 q331; cases e331; replace p331 := eq_true p331; replace q331 := eq_true q331; have p334 : 0 ≤ (t322 : Int) := dt_; have q334 : t322 < (x7_1.length : Int) := dt_; obtain ⟨ad334, e334, hx334_0⟩ := Kd.at_int (Kd.R_reads' HO_7.out).2.2 t322 p334 q334; obtain rfl : ad331 = ad334 := (by injection e334); replace p334 := eq_true p334; replace q334 := eq_true q334))
           go_ret2
           exact ⟨_, by first | rfl | (simp [errW_none, errW_some] <;> rfl) | (simp [*, errW_none, errW_some] <;> rfl), by first | exact Kd.R_nil _ _ _ _ _ | exact Kd.N_nil _ _ _ _ _ | exact Kd.V_nil _ _ _ _ _ | exact Kd.Q_nil _ _ _ _ _ | exact Kd.S_nil _ _ _ _ _, by repeat (first | (with_reducible first | exact HB.out | apply below_alloc | apply pw_below_drewN | apply below_drew1 | refine below_set ?_ GE309.out | refine below_set ?_ GE310.out) | exact HB.out)⟩
         rw [if_pos c84] at H
         have c84b0 : ((rd x7_1 t322) == (wrap64 ((rd l0_2 x23_1) + 1))) = true := beq_iff_eq.mpr c84
         have c84b1 : ((rd x7_1 t322) != (wrap64 ((rd l0_2 x23_1) + 1))) = false := bne_eq_false_iff_eq.mpr c84
         clear c84
         obtain ⟨y335, hy335⟩ : ∃ y_ : List Int, y_ = (x6_1.set ((rd l0_2 x23_1) : Int).toNat (wrap64 (t322 + 1))) := ⟨_, rfl⟩
         replace H : (impl_images.l0 k1 y335 (x7_1.set (t322 : Int).toNat (wrap64 ((rd l0_2 x23_1) + 1))) l0_2 (l0_2.length : Int) (wrap64 (x23_1 + 1)) a0_0 a0_1 l0_2 a1_0 a1_1 a1_2) = some (r1, r2) := by first | (rw [hy335]; with_reducible exact H) | (have H2_ := (Option.bind_some _ _).symm.trans H; rw [hy335]; with_reducible exact H2_) | (have H2_ := (Option.bind_some _ _).symm.trans H; with_reducible exact H2_) | with_reducible exact H | (rw [hy335]; exact H) | exact H
         have Ny335 := mkA hy335
         clear hy335
         obtain ⟨y336, hy336⟩ : ∃ y_ : List Int, y_ = (x7_1.set (t322 : Int).toNat (wrap64 ((rd l0_2 x23_1) + 1))) := ⟨_, rfl⟩
         replace H : (impl_images.l0 k1 y335 y336 l0_2 (l0_2.length : Int) (wrap64 (x23_1 + 1)) a0_0 a0_1 l0_2 a1_0 a1_1 a1_2) = some (r1, r2) := by first | (rw [hy336]; with_reducible exact H) | (have H2_ := (Option.bind_some _ _).symm.trans H; rw [hy336]; with_reducible exact H2_) | (have H2_ := (Option.bind_some _ _).symm.trans H; with_reducible exact H2_) | with_reducible exact H | (rw [hy336]; exact H) | exact H
         have Ny336 := mkA hy336
         clear hy336
         have H' := mkA H
         clear H
         have p319 : 0 ≤ (x23_1 : Int) := dt_
         have q319 : x23_1 < (l0_2.length : Int) := dt_
         obtain ⟨ad319, e319, hx319_0⟩ := Kd.at_int HR0_2.out x23_1 p319 q319
         cases e319
         replace hx319_0 := bc_ HB.out hx319_0
         replace p319 := eq_true p319
         replace q319 := eq_true q319
         try go_wp2
         have n0_ := mkA (Kd.R_drew HO_6.out)
         have n1_ := mkA (Kd.R_drew HO_7.out)
         have n2_ := mkA (blk_drew BK309.out)
         have n3_ := mkA (blk_drew BK310.out)
         have n4_ := mkA (below_drew1 HB.out)
         clear HO_6
         clear HO_7
         clear BK309
         clear BK310
         clear HB
         have HO_6 := n0_
         have HO_7 := n1_
         have BK309 := n2_
         have BK310 := n3_
         have HB := n4_
         clear n0_ n1_ n2_ n3_ n4_
         refine start_ (n := 16) (S := fun w' => w'.cell? ⟨gb309, 0, none⟩ = some (.int .i64 a0_0) ∧ w'.cell? ⟨gb309, 1, none⟩ = some (.int .i64 a0_1) ∧ w'.cell? ⟨gb309, 2, none⟩ = some (.slice (some ad319) l0_2.length c0_2) ∧ w'.cell? ⟨gb310, 0, none⟩ = some (.int .i64 a1_0) ∧ w'.cell? ⟨gb310, 1, none⟩ = some (.int .i64 a1_1) ∧ w'.cell? ⟨gb310, 2, none⟩ = some (.int .i64 a1_2)) (ds := []) impl_images.d0 (by kernel_rfl) rfl rfl ⟨(blk_cell BK309.out 0).trans rfl, (blk_cell BK309.out 1).trans rfl, (blk_cell BK309.out 2).trans rfl, (blk_cell BK310.out 0).trans rfl, (blk_cell BK310.out 1).trans rfl, (blk_cell BK310.out 2).trans rfl⟩ (fun hHeld => ?_); refine with_tabW impl_images.tab6 impl_images.bits6 (fun HT_ HW_ => ?_)
         generalize wr.drew = w87 at HO_6 HO_7 BK309 BK310 HB hHeld ⊢
         refine p1_ HT_.out 2 31 impl_images.d1 ?_
         refine p1_ HT_.out 3 32 impl_images.d2 ?_
         refine p1_ HT_.out 6 35 impl_images.d3 ?_
         refine p1_ HT_.out 7 36 impl_images.d4 ?_
         refine take_ (i := 0) (N := some 29) (v := ?_) (a' := ?_) impl_images.d5 rfl rfl (take_ofW HT_.out HW_.out (by kernel_rfl)) (fun _ _ _ h => h) (Or.inl ⟨by rfl, ?_⟩) hHeld ?_ ?_
         rotate_left
         · rintro w' ⟨s0, s1, s2, s3, s4, s5⟩
           go_simp
           with_reducible rfl
         rotate_left
         · simp only [Act.put, sA, sB, sC, i64_w, i32_w]
           rfl
         refine take_ (i := 1) (N := some 30) (v := ?_) (a' := ?_) impl_images.d6 rfl rfl (take_ofW HT_.out HW_.out (by kernel_rfl)) (fun _ _ _ h => h) (Or.inl ⟨by rfl, ?_⟩) hHeld ?_ ?_
         rotate_left
         · rintro w' ⟨s0, s1, s2, s3, s4, s5⟩
           go_simp
           with_reducible rfl
         rotate_left
         · simp only [Act.put, sA, sB, sC, i64_w, i32_w]
           rfl
         refine take_ (i := 4) (N := some 33) (v := ?_) (a' := ?_) impl_images.d7 rfl rfl (take_ofW HT_.out HW_.out (by kernel_rfl)) (fun _ _ _ h => h) (Or.inl ⟨by rfl, ?_⟩) hHeld ?_ ?_
         rotate_left
         · rintro w' ⟨s0, s1, s2, s3, s4, s5⟩
           go_simp
           with_reducible rfl
         rotate_left
         · simp only [Act.put, sA, sB, sC, i64_w, i32_w]
           rfl
         refine p1_ HT_.out 5 34 impl_images.d8 ?_
         refine take_ (i := 8) (N := some 37) (v := ?_) (a' := ?_) impl_images.d9 rfl rfl (take_ofW HT_.out HW_.out (by kernel_rfl)) (fun _ _ _ h => h) (Or.inl ⟨by rfl, ?_⟩) hHeld ?_ ?_
         rotate_left
         · rintro w' ⟨s0, s1, s2, s3, s4, s5⟩
           go_simp
           with_reducible rfl
         rotate_left
         · simp only [Act.put, sA, sB, sC, i64_w, i32_w]
           rfl
         refine p1_ HT_.out 9 38 impl_images.d10 ?_
         refine one_ (i := 10) (N := some 39) impl_images.d11 rfl rfl (one_of HT_.out (by kernel_rfl)) (by decide) (fun K hK => ?_)
         refine goes_ Try.func59 (by kernel_rfl) rfl #[.agg #[.int .i64 a0_0, .int .i64 a0_1, .slice (some ad319) l0_2.length c0_2], .agg #[.int .i64 a1_0, .int .i64 a1_1, .int .i64 a1_2], .int .i64 (Int.tmod x23_1 a0_0), .int .i64 (wrap64 (Int.tdiv x23_1 a0_0))] (by rfl) rfl rfl (by (try simp only [List.map_toArray, List.map_cons, List.map_nil]); first | done | rfl | (simp only [List.length_drop, List.length_take]; rfl)) ?_
         with_reducible refine (impl_moveCell.calls k1 a0_0 a0_1 _ _ l0_2 a1_0 a1_1 a1_2 (Int.tmod x23_1 a0_0) (wrap64 (Int.tdiv x23_1 a0_0)) t320 t321 _ ?side1 ?side2 A25.out).mono ?_
         (case side1 => exact cb_ HR0_2.out HB.out)
         (case side2 => exact HC0_2.out)
         rintro e w88 ⟨rfl, hb⟩
         refine ⟨_, rfl, ?_⟩
         have n0_ := mkA (Kd.R_below (by (with_reducible repeat (first | apply Kd.R_alloc | apply Kd.R_drewN | apply Kd.R_drew)); exact HO_6.out) hb)
         have n1_ := mkA (Kd.R_below (by (with_reducible repeat (first | apply Kd.R_alloc | apply Kd.R_drewN | apply Kd.R_drew)); exact HO_7.out) hb)
         have n2_ := mkA (blk_below (g := gb309) (o := .cells #[.int .i64 a0_0, .int .i64 a0_1, .slice (some ad319) l0_2.length c0_2] 29 (0, 0)) (bl_ BK309.out) hb)
         have n3_ := mkA (blk_below (g := gb310) (o := .cells #[.int .i64 a1_0, .int .i64 a1_1, .int .i64 a1_2] 31 (0, 0)) (bl_ BK310.out) hb)
         have n4_ := mkA (below_step (bs2_ HB.out GE309.out GE310.out) hb)
         clear HO_6
         clear HO_7
         clear BK309
         clear BK310
         clear HB
         have HO_6 := n0_
         have HO_7 := n1_
         have BK309 := n2_
         have BK310 := n3_
         have HB := n4_
         clear n0_ n1_ n2_ n3_ n4_
         (try clear hb)
         (try clear hb2)
         (try clear hk)
         (try clear hi)
         refine hK.out _ _ ⟨(blk_cell BK309.out 0).trans rfl, (blk_cell BK309.out 1).trans rfl, (blk_cell BK309.out 2).trans rfl, (blk_cell BK310.out 0).trans rfl, (blk_cell BK310.out 1).trans rfl, (blk_cell BK310.out 2).trans rfl⟩ (fun hHeld => ?_)
         clear hK K
         refine norm_ (a' := ?_) ?_ ?_
         rotate_left
         · show Act.put _ (some 39) _ = _
           simp only [Act.put, sA, sB, sC, i64_w, i32_w]
           rfl
         refine p1_ HT_.out 11 28 impl_images.d12 ?_
         refine p1_ HT_.out 12 40 impl_images.d13 ?_
         refine p1_ HT_.out 13 41 impl_images.d14 ?_
         refine p1_ HT_.out 14 10 impl_images.d15 ?_
         refine p1_ HT_.out 15 11 impl_images.d16 ?_
         refine done_ (done_of HT_.out (by kernel_rfl)) ?_
         have hnb89 := NB309_310.out
         have hnc89 := NB310_309.out
         have hcz90_0 : w88.cell? ⟨gb309, 0, none⟩ = some (.int .i64 a0_0) := (blk_cell BK309.out 0).trans rfl
         have hcz90_1 : w88.cell? ⟨gb309, 1, none⟩ = some (.int .i64 a0_1) := (blk_cell BK309.out 1).trans rfl
         have hcz90_2 : w88.cell? ⟨gb309, 2, none⟩ = some (.slice (some ad319) l0_2.length c0_2) := (blk_cell BK309.out 2).trans rfl
         have hfz90_0 := blk_frozen BK309.out 0
         have hfz90_1 := blk_frozen BK309.out 1
         have hfz90_2 := blk_frozen BK309.out 2
         try go_wp2_with (first | ((with_reducible refine gate_callee (f := 64) rfl ?_); refine goesL_ (some 45) rfl rfl Try.func64 (by kernel_rfl) rfl #[.agg #[.int .i64 a0_0, .int .i64 a0_1, .slice (some ad319) l0_2.length c0_2], .int .i64 t320, .int .i64 t321] rfl (by (try simp only [List.map_toArray, List.map_cons, List.map_nil]); first | done | rfl | (simp only [List.length_drop, List.length_take]; rfl)) ?_; (with_reducible refine (impl_tileAt.calls a0_0 a0_1 _ _ l0_2 t320 t321 t322 _ ?side1 ?side2 A26.out).mono ?_); (case side1 => exact cb_ HR0_2.out HB.out); (case side2 => exact HC0_2.out); rintro e w91 ⟨rfl, hb⟩; refine ⟨_, rfl, ?_⟩; have n0_ := mkA (Kd.R_below (by (with_reducible repeat (first | apply Kd.R_alloc | apply Kd.R_drewN | apply Kd.R_drew)); exact HO_6.out) hb); have n1_ := mkA (Kd.R_below (by (with_reducible repeat (first | apply Kd.R_alloc | apply Kd.R_drewN | apply Kd.R_drew)); exact HO_7.out) hb); have n2_ := mkA (blk_below (g := gb309) (o := .cells #[.int .i64 a0_0, .int .i64 a0_1, .slice (some ad319) l0_2.length c0_2] 29 (0, 0)) (bl_ BK309.out) hb); have n3_ := mkA (blk_below (g := gb310) (o := .cells #[.int .i64 a1_0, .int .i64 a1_1, .int .i64 a1_2] 31 (0, 0)) (bl_ BK310.out) hb); have n4_ := mkA (below_step (bs2_ HB.out GE309.out GE310.out) hb); clear HO_6; clear HO_7; clear BK309; clear BK310; clear HB; have HO_6 := n0_; have HO_7 := n1_; have BK309 := n2_; have BK310 := n3_; have HB := n4_; clear n0_ n1_ n2_ n3_ n4_; (try clear hb); (try clear hb2); (try clear hk); (try clear hi); obtain ⟨Ao92, co92, eo92⟩ := Kd.R_slice HO_6.out; subst eo92; have p323 : 0 ≤ ((rd l0_2 x23_1) : Int) := dt_; have q323 : (rd l0_2 x23_1) < (x6_1.length : Int) := dt_; obtain ⟨ad323, e323, hx323_0⟩ := Kd.at_int (Kd.R_reads' HO_6.out).2.2 (rd l0_2 x23_1) p323 q323; cases e323; replace p323 := eq_true p323; replace q323 := eq_true q323; have p330 : 0 ≤ ((rd l0_2 x23_1) : Int) := dt_; have q330 : (rd l0_2 x23_1) < (x6_1.length : Int) := dt_; obtain ⟨ad330, e330, hx330_0⟩ := Kd.at_int (Kd.R_reads' HO_6.out).2.2 (rd l0_2 x23_1) p330 q330; obtain rfl : ad323 = ad330 := (by injection e330); replace p330 := eq_true p330; replace q330 := eq_true q330; obtain ⟨Ao93, co93, eo93⟩ := Kd.R_slice HO_7.out; subst eo93; have p331 : 0 ≤ (t322 : Int) := dt_; have q331 : t322 < (x7_1.length : Int) := dt_; obtain ⟨ad331, e331, hx331_0⟩ := Kd.at_int (Kd.R_reads' HO_7.out).2.2 t322 p331 q331; cases e331; replace p331 := eq_true p331; replace q331 := eq_true q331; have p334 : 0 ≤ (t322 : Int) := dt_; have q334 : t322 < (x7_1.length : Int) := dt_; obtain ⟨ad334, e334, hx334_0⟩ := Kd.at_int (Kd.R_reads' HO_7.out).2.2 t322 p334 q334; obtain rfl : ad331 = ad334 := (by injection e334); replace p334 := eq_true p334; replace q334 := eq_true q334; have p85 : 0 ≤ ((rd l0_2 x23_1) : Int) := dt_; have q85 : ((rd l0_2 x23_1) : Int) < ((x6_1.length : Int) : Int) := dt_; obtain ⟨go85, co85, eo85, gb85, gl85, cl85, HG85⟩ := Kd.R_form HO_6.out (by omega); (first | cases eo85 | (injection eo85 with ea_ en_ ec_; (first | subst ea_ | (injection ea_ with ea_; subst ea_)); subst ec_; clear en_)); have GB85 := mkA gb85; have GG85 := mkA HG85; clear gb85 gl85 HG85; (first | simp only [add_plain] at hx323_0 | skip); (first | simp only [add_plain] at hx330_0 | skip); obtain ⟨hx85_0, hf85_0⟩ := Kd.R_celln 0 HO_6.out ((rd l0_2 x23_1) : Int) p85 q85; replace p85 := eq_true p85; replace q85 := eq_true q85; obtain ⟨hy94_, hz94_⟩ := Kd.R_celln 0 HO_6.out ((rd l0_2 x23_1) : Int) (dt_) (dt_); have HP94 := Kd.R_putg HO_6.out ((rd l0_2 x23_1) : Int) (wrap64 (t322 + 1))) | ((with_reducible refine gate_store (t := 2) (p := 84) rfl ?_); refine store_event (t := 2) (p := 84) (v := ?vo_w95) (w1 := (w91.setCell ⟨go85, ((rd l0_2 x23_1) : Int).toNat, none⟩ (.int .i64 (wrap64 (t322 + 1))))) ?hg ?ho ?hn ?hr ?_; (case ho => rfl); (case hg => rfl); (case hn => rfl); (case hr => first | (go_simp; done) | (go_simp; rfl)); intro w95 hw; have hg : w91.grownBy w95 (some go85) := (by rw [hw]; exact HP94.2); have hp_ : Kd.R (Kd.int .i64) 2 w95 w.heap.size (fun k_ => some k_ ≠ (.slice (some ad331) x7_1.length co93 : Value).ownBlock) (.slice (some ⟨go85, 0, none⟩) x6_1.length co92) y335 := (by rw [hw, Ny335.out]; exact HP94.1); clear HP94; have n0_ := mkA (hp_); have n1_ := mkA (Kd.R_after (v := (.slice (some ⟨go85, 0, none⟩) x6_1.length co92)) (v1 := (.slice (some ⟨go85, 0, none⟩) x6_1.length co92)) (ok := (fun _ => True)) (by (with_reducible repeat (first | apply Kd.R_alloc | apply Kd.R_drewN | apply Kd.R_drew)); exact Kd.R_mono HO_7.out (fun _ hk => ⟨trivial, hk⟩)) hg (.inl rfl)); have n2_ := mkA (blk_grown (g := gb309) (o := .cells #[.int .i64 a0_0, .int .i64 a0_1, .slice (some ad319) l0_2.length c0_2] 29 (0, 0)) (bl_ BK309.out) hg (Kd.R_ne HO_6.out BK309.out (by decide))); have n3_ := mkA (blk_grown (g := gb310) (o := .cells #[.int .i64 a1_0, .int .i64 a1_1, .int .i64 a1_2] 31 (0, 0)) (bl_ BK310.out) hg (Kd.R_ne HO_6.out BK310.out (by decide))); have n4_ := mkA ((by rw [hw]; exact below_set (HB.out) GB85.out : Below w.heap.size w w95)); clear HO_6; clear HO_7; clear BK309; clear BK310; clear HB; have HO_6 := n0_; have HO_7 := n1_; have BK309 := n2_; have BK310 := n3_; have HB := n4_; clear n0_ n1_ n2_ n3_ n4_; clear hg hw hp_; have p86 : 0 ≤ (t322 : Int) := dt_; have q86 : (t322 : Int) < ((x7_1.length : Int) : Int) := dt_; obtain ⟨go86, co86, eo86, gb86, gl86, cl86, HG86⟩ := Kd.R_form HO_7.out (by omega); (first | cases eo86 | (injection eo86 with ea_ en_ ec_; (first | subst ea_ | (injection ea_ with ea_; subst ea_)); subst ec_; clear en_)); have GB86 := mkA gb86; have GG86 := mkA HG86; clear gb86 gl86 HG86; (first | simp only [add_plain] at hx331_0 | skip); (first | simp only [add_plain] at hx334_0 | skip); obtain ⟨hx86_0, hf86_0⟩ := Kd.R_celln 0 HO_7.out (t322 : Int) p86 q86; replace p86 := eq_true p86; replace q86 := eq_true q86; have n_ := mkA (Kd.R_mono (ok' := (fun k_ => some k_ ≠ (.slice (some ⟨go85, 0, none⟩) x6_1.length co92 : Value).ownBlock)) HO_7.out (fun k_ hk => hk.2)); clear HO_7; have HO_7 := n_; clear n_; obtain ⟨hy96_, hz96_⟩ := Kd.R_celln 0 HO_7.out (t322 : Int) (dt_) (dt_); have HP96 := Kd.R_putg HO_7.out (t322 : Int) (wrap64 ((rd l0_2 x23_1) + 1))) | ((with_reducible refine gate_store (t := 2) (p := 85) rfl ?_); refine store_event (t := 2) (p := 85) (v := ?vo_w97) (w1 := (w95.setCell ⟨go86, (t322 : Int).toNat, none⟩ (.int .i64 (wrap64 ((rd l0_2 x23_1) + 1))))) ?hg ?ho ?hn ?hr ?_; (case ho => rfl); (case hg => rfl); (case hn => rfl); (case hr => first | (go_simp; done) | (go_simp; rfl)); intro w97 hw; have hg : w95.grownBy w97 (some go86) := (by rw [hw]; exact HP96.2); have hp_ : Kd.R (Kd.int .i64) 2 w97 w.heap.size (fun k_ => some k_ ≠ (.slice (some ⟨go85, 0, none⟩) x6_1.length co92 : Value).ownBlock) (.slice (some ⟨go86, 0, none⟩) x7_1.length co93) y336 := (by rw [hw, Ny336.out]; exact HP96.1); clear HP96; have n0_ := mkA (Kd.R_after (v := (.slice (some ⟨go86, 0, none⟩) x7_1.length co93)) (v1 := (.slice (some ⟨go86, 0, none⟩) x7_1.length co93)) (ok := (fun _ => True)) (by (with_reducible repeat (first | apply Kd.R_alloc | apply Kd.R_drewN | apply Kd.R_drew)); exact Kd.R_mono HO_6.out (fun _ hk => ⟨trivial, hk⟩)) hg (.inl rfl)); have n1_ := mkA (hp_); have n2_ := mkA (blk_grown (g := gb309) (o := .cells #[.int .i64 a0_0, .int .i64 a0_1, .slice (some ad319) l0_2.length c0_2] 29 (0, 0)) (bl_ BK309.out) hg (Kd.R_ne HO_7.out BK309.out (by decide))); have n3_ := mkA (blk_grown (g := gb310) (o := .cells #[.int .i64 a1_0, .int .i64 a1_1, .int .i64 a1_2] 31 (0, 0)) (bl_ BK310.out) hg (Kd.R_ne HO_7.out BK310.out (by decide))); have n4_ := mkA ((by rw [hw]; exact below_set (HB.out) GB86.out : Below w.heap.size w w97)); clear HO_6; clear HO_7; clear BK309; clear BK310; clear HB; have HO_6 := n0_; have HO_7 := n1_; have BK309 := n2_; have BK310 := n3_; have HB := n4_; clear n0_ n1_ n2_ n3_ n4_; clear hg hw hp_))
         go_roundg k1
         case measure => have := HK1.out; omega
         case rel => exact ⟨(y335), (y336), (wrap64 (x23_1 + 1)), (by first | rfl | (simp; done) | (simp [*]; done) | (simp [i64_w, i32_w]; done)), H', ⟨by have := HK1.out; omega⟩, ⟨by (with_reducible repeat (first | apply Kd.R_alloc | apply Kd.R_drewN | apply Kd.R_drew)); exact Kd.R_mono HO_6.out (fun _ hk => hk.2)⟩, ⟨by (with_reducible repeat (first | apply Kd.R_alloc | apply Kd.R_drewN | apply Kd.R_drew)); exact HO_7.out⟩, ⟨by (with_reducible repeat (first | refine blk_drewN ?_ _ | refine blk_drew ?_ | refine blk_alloc ?_ _)); exact BK309.out⟩, ⟨by (with_reducible repeat (first | refine blk_drewN ?_ _ | refine blk_drew ?_ | refine blk_alloc ?_ _)); exact BK310.out⟩, ⟨by repeat (first | (with_reducible first | exact HB.out | apply below_alloc | apply pw_below_drewN | apply below_drew1 | refine below_set ?_ GE309.out | refine below_set ?_ GE310.out) | exact HB.out)⟩⟩
end Go.Proofs.Ytnidibnhojedoaa.GFnExactSymmetriesOf

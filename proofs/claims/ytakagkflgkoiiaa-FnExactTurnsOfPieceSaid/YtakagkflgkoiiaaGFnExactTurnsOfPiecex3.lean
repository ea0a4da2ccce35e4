-- Written by the session's own program (gen.py) out of the translation's print. Lean checks it.
import Derived.Test.YtakagkflgkoiiaaGFnExactTurnsOfPiecex0
import Derived.Test.YtakagkflgkoiiaaGFnExactTurnsOfPiecex2
namespace Go.Proofs.Ytakagkflgkoiiaa.GFnExactTurnsOfPiece
open Go.RowKit Go.Proofs.YtakagkflgkoiiaaW.PrintWords Go.Proofs.YtakagkflgkoiiaaW.PrintLast Go.Proofs.YtakagkflgkoiiaaW.PrintMore
attribute [local go_sem] max2_int min2_int max_two min_two max_three min_three max_four min_four   -- for this text's walks alone
set_option linter.unusedVariables false
set_option linter.unusedSimpArgs false

/-! ### spec_l03Bounds: function 93 -/
def spec_l03Bounds.l0 : Nat → List (S105) → Int → Int → Int → Int → Int → Option (Int × Int × Int × Int)
  | 0, _, _, _, _, _, _ => none
  | k + 1, x0, x6, x112000, x112001, x114000, x114001 => if x6 < (x0.length : Int) then (if 0 ≤ x6 then ((spec_l00Min.f x112000 ((rd_T105 x0 x6).f0)).bind fun t115 => ((spec_l00Min.f x112001 ((rd_T105 x0 x6).f1)).bind fun t117 => ((spec_l00Max.f x114000 ((rd_T105 x0 x6).f0)).bind fun t119 => ((spec_l00Max.f x114001 ((rd_T105 x0 x6).f1)).bind fun t121 => (spec_l03Bounds.l0 k x0 (wrap64 (x6 + 1)) t115 t117 t119 t121))))) else (none)) else (some (x112000, x112001, x114000, x114001))
def spec_l03Bounds.f (k : Nat) (l0 : List (S105)) : Option (Int × Int × Int × Int) := if 0 < (l0.length : Int) then (spec_l03Bounds.l0 k l0 1 ((rd_T105 l0 0).f0) ((rd_T105 l0 0).f1) ((rd_T105 l0 0).f0) ((rd_T105 l0 0).f1)) else (none)
def spec_l03Bounds.T6 : Bool × List (List Nat × List Nat) := (true, [([], []), ([0], [0]), ([], []), ([], []), ([2, 3], [2, 3]), ([4], [4]), ([5], [5]), ([1, 6], [1, 6]), ([0, 1, 2, 3, 4, 5, 6, 7], []), ([8, 7, 7, 0, 1, 2, 3, 4, 5, 6, 7], [7, 8])])
def spec_l03Bounds.B6 : List Nat := [0, 1, 0, 0, 12, 28, 60, 127, 255, 511]
theorem spec_l03Bounds.tab6 : rtab .any (opsOf Try.f93 6) = spec_l03Bounds.T6 := by kernel_rfl
theorem spec_l03Bounds.bits6 : waitsOk spec_l03Bounds.T6.2 spec_l03Bounds.B6 = true := by kernel_rfl
def spec_l03Bounds.T7 : Bool × List (List Nat × List Nat) := (true, [([], []), ([0], [0]), ([], []), ([], []), ([2, 3], [2, 3]), ([4], [4]), ([5], [5]), ([1, 6], [1, 6]), ([0, 1, 2, 3, 4, 5, 6, 7], []), ([8, 7, 7, 0, 1, 2, 3, 4, 5, 6, 7], [7, 8])])
def spec_l03Bounds.B7 : List Nat := [0, 1, 0, 0, 12, 28, 60, 127, 255, 511]
theorem spec_l03Bounds.tab7 : rtab .any (opsOf Try.f93 7) = spec_l03Bounds.T7 := by kernel_rfl
theorem spec_l03Bounds.bits7 : waitsOk spec_l03Bounds.T7.2 spec_l03Bounds.B7 = true := by kernel_rfl
def spec_l03Bounds.T8 : Bool × List (List Nat × List Nat) := (true, [([], []), ([0], [0]), ([], []), ([], []), ([2, 3], [2, 3]), ([4], [4]), ([5], [5]), ([1, 6], [1, 6]), ([0, 1, 2, 3, 4, 5, 6, 7], []), ([8, 7, 7, 0, 1, 2, 3, 4, 5, 6, 7], [7, 8])])
def spec_l03Bounds.B8 : List Nat := [0, 1, 0, 0, 12, 28, 60, 127, 255, 511]
theorem spec_l03Bounds.tab8 : rtab .any (opsOf Try.f93 8) = spec_l03Bounds.T8 := by kernel_rfl
theorem spec_l03Bounds.bits8 : waitsOk spec_l03Bounds.T8.2 spec_l03Bounds.B8 = true := by kernel_rfl
def spec_l03Bounds.T9 : Bool × List (List Nat × List Nat) := (true, [([], []), ([0], [0]), ([], []), ([], []), ([2, 3], [2, 3]), ([4], [4]), ([5], [5]), ([1, 6], [1, 6]), ([0, 1, 2, 3, 4, 5, 6, 7], []), ([8, 7, 7, 0, 1, 2, 3, 4, 5, 6, 7], [7, 8])])
def spec_l03Bounds.B9 : List Nat := [0, 1, 0, 0, 12, 28, 60, 127, 255, 511]
theorem spec_l03Bounds.tab9 : rtab .any (opsOf Try.f93 9) = spec_l03Bounds.T9 := by kernel_rfl
theorem spec_l03Bounds.bits9 : waitsOk spec_l03Bounds.T9.2 spec_l03Bounds.B9 = true := by kernel_rfl
open List renaming setIfInBounds_toArray → sA, set_cons_zero → sB, set_cons_succ → sC
open Go.Proofs.YtakagkflgkoiiaaW.PrintWords.Aside0 renaming mk → mkA
open Go.Proofs.YtakagkflgkoiiaaX (dt_ bc_ p0_ p1_ bl_ cb_ bs0_ bs1_ bs2_ bs3_ bs4_ bs5_ bs6_ bs7_ bs8_ bs9_ bs10_ bs11_ bs12_)
abbrev spec_l03Bounds.d0 : Array Bool := #[false, false, false, false, false, false, false, false, false, false]
abbrev spec_l03Bounds.d1 : Array Bool := #[true, false, false, false, false, false, false, false, false, false]
abbrev spec_l03Bounds.d2 : Array Bool := #[true, false, true, false, false, false, false, false, false, false]
abbrev spec_l03Bounds.d3 : Array Bool := #[true, false, true, true, false, false, false, false, false, false]
abbrev spec_l03Bounds.d4 : Array Bool := #[true, false, true, true, true, false, false, false, false, false]
abbrev spec_l03Bounds.d5 : Array Bool := #[true, false, true, true, true, true, false, false, false, false]
abbrev spec_l03Bounds.d6 : Array Bool := #[true, true, true, true, true, true, false, false, false, false]
abbrev spec_l03Bounds.d7 : Array Bool := #[true, true, true, true, true, true, true, false, false, false]
abbrev spec_l03Bounds.d8 : Array Bool := #[true, true, true, true, true, true, true, true, false, false]
abbrev spec_l03Bounds.d9 : Array Bool := #[true, true, true, true, true, true, true, true, true, false]
abbrev spec_l03Bounds.d10 : Array Bool := #[true, true, true, true, true, true, true, true, true, true]
set_option maxHeartbeats 8000000 in
set_option maxRecDepth 100000 in
theorem spec_l03Bounds.calls (k : Nat) (A0 : Option Addr) (c0 : Nat) (l0 : List (S105)) (r1 : Int) (r2 : Int) (r3 : Int) (r4 : Int) (w : World) (hr0 : Kd.C k105 w A0 l0.length l0) (hc0 : l0.length ≤ c0) (h : spec_l03Bounds.f k l0 = some (r1, r2, r3, r4)) :
 Calls Try.prog 93 #[.slice A0 l0.length c0] w fun e w' => e = .returned (.tuple #[.agg #[.int .i64 r1, .int .i64 r2], .agg #[.int .i64 r3, .int .i64 r4]]) ∧ Below w.heap.size w w' := by
 have hu105 := Try.underlying105
 have HR0 := mkA hr0
 have HC0 := mkA hc0
 clear hr0 hc0
 have HB := mkA (Below.refl w.heap.size w)
 have H : (if 0 < (l0.length : Int) then (spec_l03Bounds.l0 k l0 1 ((rd_T105 l0 0).f0) ((rd_T105 l0 0).f1) ((rd_T105 l0 0).f0) ((rd_T105 l0 0).f1)) else (none)) = some (r1, r2, r3, r4) := h
 clear h
 by_cases c2 : 0 < (l0.length : Int)
 rotate_left
 · rw [if_neg c2] at H
   exact absurd H (by simp)

 rw [if_pos c2] at H
 have c2b0 : decide (0 < (l0.length : Int)) = true := decide_eq_true c2
 have c2b1 : decide (0 < l0.length) = true := decide_eq_true (by omega)
 clear c2
 have H' := mkA H
 clear H
 go_enter Try.func93, Try.ntmps93
 go_wp2_with (first | ((with_reducible refine gate_dst (N := 2) rfl ?_); refine box_event ?hg (N := 2) ?hd (cs := #[.int .i64 0, .int .i64 0]) (t := 105) ?hr ?_; (case hd => rfl); (case hg => rfl); (case hr => first | (go_simp; done) | (go_simp; rfl)); intro gb108 hg w3 hbox hb; have n0_ := mkA (below_step (bs0_ HB.out) hb); have n1_ := mkA (hbox); have n2_ := mkA ((by rw [hg]; exact (below_size (bs0_ HB.out)) : w.heap.size ≤ gb108)); have n3_ := mkA ((by rw [hg]; exact (below_size (bs0_ HB.out)) : w.heap.size ≤ gb108)); clear HB; have HB := n0_; have BK108 := n1_; have GW108 := n2_; have GE108 := n3_; clear n0_ n1_ n2_ n3_; clear hb hbox hg) | ((with_reducible refine gate_dst (N := 3) rfl ?_); refine box_event ?hg (N := 3) ?hd (cs := #[.int .i64 0, .int .i64 0]) (t := 105) ?hr ?_; (case hd => rfl); (case hg => rfl); (case hr => first | (go_simp; done) | (go_simp; rfl)); intro gb109 hg w4 hbox hb; have n0_ := mkA (blk_below (g := gb108) (o := .cells #[.int .i64 0, .int .i64 0] 105 (0, 0)) (bl_ BK108.out) hb); have n1_ := mkA (below_step (bs1_ HB.out GE108.out) hb); have n2_ := mkA (hbox); have n3_ := mkA ((by rw [hg]; exact (below_size (bs1_ HB.out GE108.out)) : w.heap.size ≤ gb109)); have n4_ := mkA ((by rw [hg]; exact (below_size (bs1_ HB.out GE108.out)) : w.heap.size ≤ gb109)); have n5_ := mkA ((by rw [hg]; exact Nat.ne_of_lt (blk_lt (g := gb108) (o := .cells #[.int .i64 0, .int .i64 0] 105 (0, 0)) (bl_ BK108.out)) : gb108 ≠ gb109)); have n6_ := mkA ((by rw [hg]; exact Nat.ne_of_gt (blk_lt (g := gb108) (o := .cells #[.int .i64 0, .int .i64 0] 105 (0, 0)) (bl_ BK108.out)) : gb109 ≠ gb108)); clear BK108; clear HB; have BK108 := n0_; have HB := n1_; have BK109 := n2_; have GW109 := n3_; have GE109 := n4_; have NB108_109 := n5_; have NB109_108 := n6_; clear n0_ n1_ n2_ n3_ n4_ n5_ n6_; clear hb hbox hg; have p110 : 0 ≤ (0 : Int) := (by omega); have q110 : 0 < (l0.length : Int) := dt_; obtain ⟨ad110, e110, hx110_0, hx110_1⟩ := at_T105 HR0.out 0 p110 q110; cases e110; have qi110 : (0 < l0.length) = True := eq_true (by omega); (try rw [show ((0 : Int)).toNat = 0 from rfl] at hx110_0); (try rw [show 0 * 2 = 0 from rfl] at hx110_0); (try rw [Addr.add_zero'] at hx110_0); (try rw [show ((0 : Int)).toNat = 0 from rfl] at hx110_1); (try rw [show 0 * 2 = 0 from rfl] at hx110_1); (try rw [Addr.add_zero'] at hx110_1); replace hx110_0 := bc_ HB.out hx110_0; replace hx110_1 := bc_ HB.out hx110_1; replace p110 := eq_true p110; replace q110 := eq_true q110) | ((with_reducible refine gate_dst (N := 4) rfl ?_); refine box_event ?hg (N := 4) ?hd (cs := #[.int .i64 0, .int .i64 0]) (t := 105) ?hr ?_; (case hd => rfl); (case hg => rfl); (case hr => first | (go_simp; done) | (go_simp; rfl)); intro gb111 hg w5 hbox hb; have n0_ := mkA (blk_below (g := gb108) (o := .cells #[.int .i64 0, .int .i64 0] 105 (0, 0)) (bl_ BK108.out) hb); have n1_ := mkA (blk_below (g := gb109) (o := .cells #[.int .i64 0, .int .i64 0] 105 (0, 0)) (bl_ BK109.out) hb); have n2_ := mkA (below_step (bs2_ HB.out GE108.out GE109.out) hb); have n3_ := mkA (hbox); have n4_ := mkA ((by rw [hg]; exact (below_size (bs2_ HB.out GE108.out GE109.out)) : w.heap.size ≤ gb111)); have n5_ := mkA ((by rw [hg]; exact (below_size (bs2_ HB.out GE108.out GE109.out)) : w.heap.size ≤ gb111)); have n6_ := mkA ((by rw [hg]; exact Nat.ne_of_lt (blk_lt (g := gb108) (o := .cells #[.int .i64 0, .int .i64 0] 105 (0, 0)) (bl_ BK108.out)) : gb108 ≠ gb111)); have n7_ := mkA ((by rw [hg]; exact Nat.ne_of_gt (blk_lt (g := gb108) (o := .cells #[.int .i64 0, .int .i64 0] 105 (0, 0)) (bl_ BK108.out)) : gb111 ≠ gb108)); have n8_ := mkA ((by rw [hg]; exact Nat.ne_of_lt (blk_lt (g := gb109) (o := .cells #[.int .i64 0, .int .i64 0] 105 (0, 0)) (bl_ BK109.out)) : gb109 ≠ gb111)); have n9_ := mkA ((by rw [hg]; exact Nat.ne_of_gt (blk_lt (g := gb109) (o := .cells #[.int .i64 0, .int .i64 0] 105 (0, 0)) (bl_ BK109.out)) : gb111 ≠ gb109)); clear BK108; clear BK109; clear HB; have BK108 := n0_; have BK109 := n1_; have HB := n2_; have BK111 := n3_; have GW111 := n4_; have GE111 := n5_; have NB108_111 := n6_; have NB111_108 := n7_; have NB109_111 := n8_; have NB111_109 := n9_; clear n0_ n1_ n2_ n3_ n4_ n5_ n6_ n7_ n8_ n9_; clear hb hbox hg; have hnb6 := NB111_108.out; have hnc6 := NB108_111.out; have hnb7 := NB111_109.out; have hnc7 := NB109_111.out; have hcz8_0 : w5.cell? ⟨gb111, 0, none⟩ = some (.int .i64 0) := (blk_cell BK111.out 0).trans rfl; have hcz8_1 : w5.cell? ⟨gb111, 1, none⟩ = some (.int .i64 0) := (blk_cell BK111.out 1).trans rfl; have hfz8_0 := blk_frozen BK111.out 0; have hfz8_1 := blk_frozen BK111.out 1; have p112 : 0 ≤ (0 : Int) := (by omega); have q112 : 0 < (l0.length : Int) := dt_; obtain ⟨ad112, e112, hx112_0, hx112_1⟩ := at_T105 HR0.out 0 p112 q112; obtain rfl : ad110 = ad112 := (by injection e112); have qi112 : (0 < l0.length) = True := eq_true (by omega); (try rw [show ((0 : Int)).toNat = 0 from rfl] at hx112_0); (try rw [show 0 * 2 = 0 from rfl] at hx112_0); (try rw [Addr.add_zero'] at hx112_0); (try rw [show ((0 : Int)).toNat = 0 from rfl] at hx112_1); (try rw [show 0 * 2 = 0 from rfl] at hx112_1); (try rw [Addr.add_zero'] at hx112_1); have hn112_0 : ad110.block ≠ gb111 := Nat.ne_of_lt (Nat.lt_of_lt_of_le (by have := World.block_lt_of_cell? _ _ hx112_0; first | rwa [add_block] at this | exact this) GW111.out); have hn112_1 : ad110.block ≠ gb111 := Nat.ne_of_lt (Nat.lt_of_lt_of_le (by have := World.block_lt_of_cell? _ _ hx112_0; first | rwa [add_block] at this | exact this) GW111.out); replace hx112_0 := bc_ HB.out hx112_0; replace hx112_1 := bc_ HB.out hx112_1; replace hx112_0 := (cell_far (p := ⟨gb111, 0, none⟩) (by first | (rw [add_block]; exact hn112_0) | (show (Addr.add _ _).block ≠ _; rw [add_block]; exact hn112_0) | exact hn112_0) (.int .i64 ((rd_T105 l0 0).f0))).trans hx112_0; replace hx112_1 := (cell_far (p := ⟨gb111, 0, none⟩) (by first | (rw [add_block]; exact hn112_0) | (show (Addr.add _ _).block ≠ _; rw [add_block]; exact hn112_0) | exact hn112_0) (.int .i64 ((rd_T105 l0 0).f0))).trans hx112_1; replace hx112_0 := (cell_far (p := ⟨gb111, 1, none⟩) (by first | (rw [add_block]; exact hn112_1) | (show (Addr.add _ _).block ≠ _; rw [add_block]; exact hn112_1) | exact hn112_1) (.int .i64 ((rd_T105 l0 0).f1))).trans hx112_0; replace hx112_1 := (cell_far (p := ⟨gb111, 1, none⟩) (by first | (rw [add_block]; exact hn112_1) | (show (Addr.add _ _).block ≠ _; rw [add_block]; exact hn112_1) | exact hn112_1) (.int .i64 ((rd_T105 l0 0).f1))).trans hx112_1; clear hn112_0; clear hn112_1; replace p112 := eq_true p112; replace q112 := eq_true q112) | ((with_reducible refine gate_dst (N := 5) rfl ?_); refine box_event ?hg (N := 5) ?hd (cs := #[.int .i64 0, .int .i64 0]) (t := 105) ?hr ?_; (case hd => rfl); (case hg => rfl); (case hr => first | (go_simp; done) | (go_simp; rfl)); intro gb113 hg w9 hbox hb; have n0_ := mkA (blk_below (g := gb108) (o := .cells #[.int .i64 0, .int .i64 0] 105 (0, 0)) (by (with_reducible repeat (first | refine blk_drewN ?_ _ | refine blk_drew ?_ | refine blk_alloc ?_ _)); refine blk_far ?_ NB108_111.out _; (with_reducible repeat (first | refine blk_drewN ?_ _ | refine blk_drew ?_ | refine blk_alloc ?_ _)); refine blk_far ?_ NB108_111.out _; (with_reducible repeat (first | refine blk_drewN ?_ _ | refine blk_drew ?_ | refine blk_alloc ?_ _)); exact BK108.out) hb); have n1_ := mkA (blk_below (g := gb109) (o := .cells #[.int .i64 0, .int .i64 0] 105 (0, 0)) (by (with_reducible repeat (first | refine blk_drewN ?_ _ | refine blk_drew ?_ | refine blk_alloc ?_ _)); refine blk_far ?_ NB109_111.out _; (with_reducible repeat (first | refine blk_drewN ?_ _ | refine blk_drew ?_ | refine blk_alloc ?_ _)); refine blk_far ?_ NB109_111.out _; (with_reducible repeat (first | refine blk_drewN ?_ _ | refine blk_drew ?_ | refine blk_alloc ?_ _)); exact BK109.out) hb); have n2_ := mkA (blk_below (g := gb111) (o := .cells #[.int .i64 ((rd_T105 l0 0).f0), .int .i64 ((rd_T105 l0 0).f1)] 105 (0, 0)) (by (with_reducible repeat (first | refine blk_drewN ?_ _ | refine blk_drew ?_ | refine blk_alloc ?_ _)); refine blk_put (cs := #[.int .i64 ((rd_T105 l0 0).f0), .int .i64 0]) ?_ 1 _ rfl; (with_reducible repeat (first | refine blk_drewN ?_ _ | refine blk_drew ?_ | refine blk_alloc ?_ _)); refine blk_put (cs := #[.int .i64 0, .int .i64 0]) ?_ 0 _ rfl; (with_reducible repeat (first | refine blk_drewN ?_ _ | refine blk_drew ?_ | refine blk_alloc ?_ _)); exact BK111.out) hb); have n3_ := mkA (below_step (bs3_ HB.out GE108.out GE109.out GE111.out) hb); have n4_ := mkA (hbox); have n5_ := mkA ((by rw [hg]; exact (below_size (bs3_ HB.out GE108.out GE109.out GE111.out)) : w.heap.size ≤ gb113)); have n6_ := mkA ((by rw [hg]; exact (below_size (bs3_ HB.out GE108.out GE109.out GE111.out)) : w.heap.size ≤ gb113)); have n7_ := mkA ((by rw [hg]; exact Nat.ne_of_lt (blk_lt (g := gb108) (o := .cells #[.int .i64 0, .int .i64 0] 105 (0, 0)) (by (with_reducible repeat (first | refine blk_drewN ?_ _ | refine blk_drew ?_ | refine blk_alloc ?_ _)); refine blk_far ?_ NB108_111.out _; (with_reducible repeat (first | refine blk_drewN ?_ _ | refine blk_drew ?_ | refine blk_alloc ?_ _)); refine blk_far ?_ NB108_111.out _; (with_reducible repeat (first | refine blk_drewN ?_ _ | refine blk_drew ?_ | refine blk_alloc ?_ _)); exact BK108.out)) : gb108 ≠ gb113)); have n8_ := mkA ((by rw [hg]; exact Nat.ne_of_gt (blk_lt (g := gb108) (o := .cells #[.int .i64 0, .int .i64 0] 105 (0, 0)) (by (with_reducible repeat (first | refine blk_drewN ?_ _ | refine blk_drew ?_ | refine blk_alloc ?_ _)); refine blk_far ?_ NB108_111.out _; (with_reducible repeat (first | refine blk_drewN ?_ _ | refine blk_drew ?_ | refine blk_alloc ?_ _)); refine blk_far ?_ NB108_111.out _; (with_reducible repeat (first | refine blk_drewN ?_ _ | refine blk_drew ?_ | refine blk_alloc ?_ _)); exact BK108.out)) : gb113 ≠ gb108)); have n9_ := mkA ((by rw [hg]; exact Nat.ne_of_lt (blk_lt (g := gb109) (o := .cells #[.int .i64 0, .int .i64 0] 105 (0, 0)) (by (with_reducible repeat (first | refine blk_drewN ?_ _ | refine blk_drew ?_ | refine blk_alloc ?_ _)); refine blk_far ?_ NB109_111.out _; (with_reducible repeat (first | refine blk_drewN ?_ _ | refine blk_drew ?_ | refine blk_alloc ?_ _)); refine blk_far ?_ NB109_111.out _; (with_reducible repeat (first | refine blk_drewN ?_ _ | refine blk_drew ?_ | refine blk_alloc ?_ _)); exact BK109.out)) : gb109 ≠ gb113)); have n10_ := mkA ((by rw [hg]; exact Nat.ne_of_gt (blk_lt (g := gb109) (o := .cells #[.int .i64 0, .int .i64 0] 105 (0, 0)) (by (with_reducible repeat (first | refine blk_drewN ?_ _ | refine blk_drew ?_ | refine blk_alloc ?_ _)); refine blk_far ?_ NB109_111.out _; (with_reducible repeat (first | refine blk_drewN ?_ _ | refine blk_drew ?_ | refine blk_alloc ?_ _)); refine blk_far ?_ NB109_111.out _; (with_reducible repeat (first | refine blk_drewN ?_ _ | refine blk_drew ?_ | refine blk_alloc ?_ _)); exact BK109.out)) : gb113 ≠ gb109)); have n11_ := mkA ((by rw [hg]; exact Nat.ne_of_lt (blk_lt (g := gb111) (o := .cells #[.int .i64 ((rd_T105 l0 0).f0), .int .i64 ((rd_T105 l0 0).f1)] 105 (0, 0)) (by (with_reducible repeat (first | refine blk_drewN ?_ _ | refine blk_drew ?_ | refine blk_alloc ?_ _)); refine blk_put (cs := #[.int .i64 ((rd_T105 l0 0).f0), .int .i64 0]) ?_ 1 _ rfl; (with_reducible repeat (first | refine blk_drewN ?_ _ | refine blk_drew ?_ | refine blk_alloc ?_ _)); refine blk_put (cs := #[.int .i64 0, .int .i64 0]) ?_ 0 _ rfl; (with_reducible repeat (first | refine blk_drewN ?_ _ | refine blk_drew ?_ | refine blk_alloc ?_ _)); exact BK111.out)) : gb111 ≠ gb113)); have n12_ := mkA ((by rw [hg]; exact Nat.ne_of_gt (blk_lt (g := gb111) (o := .cells #[.int .i64 ((rd_T105 l0 0).f0), .int .i64 ((rd_T105 l0 0).f1)] 105 (0, 0)) (by (with_reducible repeat (first | refine blk_drewN ?_ _ | refine blk_drew ?_ | refine blk_alloc ?_ _)); refine blk_put (cs := #[.int .i64 ((rd_T105 l0 0).f0), .int .i64 0]) ?_ 1 _ rfl; (with_reducible repeat (first | refine blk_drewN ?_ _ | refine blk_drew ?_ | refine blk_alloc ?_ _)); refine blk_put (cs := #[.int .i64 0, .int .i64 0]) ?_ 0 _ rfl; (with_reducible repeat (first | refine blk_drewN ?_ _ | refine blk_drew ?_ | refine blk_alloc ?_ _)); exact BK111.out)) : gb113 ≠ gb111)); clear BK108; clear BK109; clear BK111; clear HB; have BK108 := n0_; have BK109 := n1_; have BK111 := n2_; have HB := n3_; have BK113 := n4_; have GW113 := n5_; have GE113 := n6_; have NB108_113 := n7_; have NB113_108 := n8_; have NB109_113 := n9_; have NB113_109 := n10_; have NB111_113 := n11_; have NB113_111 := n12_; clear n0_ n1_ n2_ n3_ n4_ n5_ n6_ n7_ n8_ n9_ n10_ n11_ n12_; clear hb hbox hg; have hnb10 := NB113_108.out; have hnc10 := NB108_113.out; have hnb11 := NB113_109.out; have hnc11 := NB109_113.out; have hnb12 := NB113_111.out; have hnc12 := NB111_113.out; have hcz13_0 : w9.cell? ⟨gb113, 0, none⟩ = some (.int .i64 0) := (blk_cell BK113.out 0).trans rfl; have hcz13_1 : w9.cell? ⟨gb113, 1, none⟩ = some (.int .i64 0) := (blk_cell BK113.out 1).trans rfl; have hfz13_0 := blk_frozen BK113.out 0; have hfz13_1 := blk_frozen BK113.out 1))
 go_loopg [6] k (fun kq v6 w' => ∃ (x6_1 : Int) (x112000_1 : Int) (x112001_1 : Int) (x114000_1 : Int) (x114001_1 : Int), v6 = .int .i64 x6_1 ∧ Aside0 (spec_l03Bounds.l0 kq l0 x6_1 x112000_1 x112001_1 x114000_1 x114001_1 = some (r1, r2, r3, r4)) ∧ Aside0 (kq ≤ k) ∧ Aside0 (w'.heap[gb108]? = some (.cells #[.int .i64 0, .int .i64 0] 105 (0, 0))) ∧ Aside0 (w'.heap[gb109]? = some (.cells #[.int .i64 0, .int .i64 0] 105 (0, 0))) ∧ Aside0 (w'.heap[gb111]? = some (.cells #[.int .i64 x112000_1, .int .i64 x112001_1] 105 (0, 0))) ∧ Aside0 (w'.heap[gb113]? = some (.cells #[.int .i64 x114000_1, .int .i64 x114001_1] 105 (0, 0))) ∧ Aside0 (Below w.heap.size w w'))
 case atStart => exact ⟨(1), ((rd_T105 l0 0).f0), ((rd_T105 l0 0).f1), ((rd_T105 l0 0).f0), ((rd_T105 l0 0).f1), (by first | rfl | (simp; done) | (simp [*]; done) | (simp [i64_w, i32_w]; done)), H', ⟨Nat.le_refl _⟩, ⟨by (with_reducible repeat (first | refine blk_drewN ?_ _ | refine blk_drew ?_ | refine blk_alloc ?_ _)); refine blk_far ?_ NB108_113.out _; (with_reducible repeat (first | refine blk_drewN ?_ _ | refine blk_drew ?_ | refine blk_alloc ?_ _)); refine blk_far ?_ NB108_113.out _; (with_reducible repeat (first | refine blk_drewN ?_ _ | refine blk_drew ?_ | refine blk_alloc ?_ _)); exact BK108.out⟩, ⟨by (with_reducible repeat (first | refine blk_drewN ?_ _ | refine blk_drew ?_ | refine blk_alloc ?_ _)); refine blk_far ?_ NB109_113.out _; (with_reducible repeat (first | refine blk_drewN ?_ _ | refine blk_drew ?_ | refine blk_alloc ?_ _)); refine blk_far ?_ NB109_113.out _; (with_reducible repeat (first | refine blk_drewN ?_ _ | refine blk_drew ?_ | refine blk_alloc ?_ _)); exact BK109.out⟩, ⟨by (with_reducible repeat (first | refine blk_drewN ?_ _ | refine blk_drew ?_ | refine blk_alloc ?_ _)); refine blk_far ?_ NB111_113.out _; (with_reducible repeat (first | refine blk_drewN ?_ _ | refine blk_drew ?_ | refine blk_alloc ?_ _)); refine blk_far ?_ NB111_113.out _; (with_reducible repeat (first | refine blk_drewN ?_ _ | refine blk_drew ?_ | refine blk_alloc ?_ _)); exact BK111.out⟩, ⟨by (with_reducible repeat (first | refine blk_drewN ?_ _ | refine blk_drew ?_ | refine blk_alloc ?_ _)); refine blk_put (cs := #[.int .i64 ((rd_T105 l0 0).f0), .int .i64 0]) ?_ 1 _ rfl; (with_reducible repeat (first | refine blk_drewN ?_ _ | refine blk_drew ?_ | refine blk_alloc ?_ _)); refine blk_put (cs := #[.int .i64 0, .int .i64 0]) ?_ 0 _ rfl; (with_reducible repeat (first | refine blk_drewN ?_ _ | refine blk_drew ?_ | refine blk_alloc ?_ _)); exact BK113.out⟩, ⟨by repeat (first | (with_reducible first | exact HB.out | apply below_alloc | apply pw_below_drewN | apply below_drew1 | refine below_set ?_ GE108.out | refine below_set ?_ GE109.out | refine below_set ?_ GE111.out | refine below_set ?_ GE113.out) | exact HB.out)⟩⟩
 case round =>
  clear H'
  try clear c1
  try clear p1
  try clear q1
  try clear hx1
  try clear qi1
  try clear c2
  try clear c2b0
  try clear c2b1
  try clear p2
  try clear c6
  try clear c7
  try clear c9
  try clear c10
  try clear c11
  try clear p11
  try clear q11
  try clear hx11
  try clear qi11
  try clear c12
  try clear hcz13_0
  try clear hcz13_1
  try clear hcz8_0
  try clear hcz8_1
  try clear hfz13_0
  try clear hfz13_1
  try clear hfz8_0
  try clear hfz8_1
  try clear hx110_0
  try clear hx110_1
  try clear hx112_0
  try clear hx112_1
  try clear p110
  try clear p112
  try clear q110
  try clear q112
  obtain ⟨x6_1, x112000_1, x112001_1, x114000_1, x114001_1, rfl, HA, HK1, BK108, BK109, BK111, BK113, HB⟩ := hrel
  cases gk with
  | zero => exact absurd HA.out (by simp [spec_l03Bounds.l0])
  | succ k1 =>
   have H := HA.out
   clear HA
   simp only [spec_l03Bounds.l0] at H
   by_cases c14 : x6_1 < (l0.length : Int)
   rotate_left
   · rw [if_neg c14] at H
     have c14b0 : decide (x6_1 < (l0.length : Int)) = false := decide_eq_false c14
     clear c14
     simp only [Option.some.injEq, Prod.mk.injEq] at H
     obtain ⟨rfl, rfl, rfl, rfl⟩ := H
     try go_wp2
     have n0_ := mkA (blk_drew BK108.out)
     have n1_ := mkA (blk_drew BK109.out)
     have n2_ := mkA (blk_drew BK111.out)
     have n3_ := mkA (blk_drew BK113.out)
     have n4_ := mkA (below_drew1 HB.out)
     clear BK108
     clear BK109
     clear BK111
     clear BK113
     clear HB
     have BK108 := n0_
     have BK109 := n1_
     have BK111 := n2_
     have BK113 := n3_
     have HB := n4_
     clear n0_ n1_ n2_ n3_ n4_
     refine start_ (n := 4) (S := fun w' => w'.cell? ⟨gb111, 0, none⟩ = some (.int .i64 x112000_1) ∧ w'.cell? ⟨gb111, 1, none⟩ = some (.int .i64 x112001_1) ∧ w'.cell? ⟨gb113, 0, none⟩ = some (.int .i64 x114000_1) ∧ w'.cell? ⟨gb113, 1, none⟩ = some (.int .i64 x114001_1)) (ds := []) #[false, false, false, false] (by kernel_rfl) rfl rfl ⟨(blk_cell BK111.out 0).trans rfl, (blk_cell BK111.out 1).trans rfl, (blk_cell BK113.out 0).trans rfl, (blk_cell BK113.out 1).trans rfl⟩ (fun hHeld => ?_)
     generalize wr.drew = w31 at BK108 BK109 BK111 BK113 HB hHeld ⊢
     refine take_ (i := 0) (N := some 55) (v := ?_) (a' := ?_) #[true, false, false, false] rfl rfl (by kernel_rfl) (fun _ _ _ h => h) (Or.inl ⟨by rfl, ?_⟩) hHeld ?_ ?_
     rotate_left
     · rintro w' ⟨s0, s1, s2, s3⟩
       go_simp
       with_reducible rfl
     rotate_left
     · simp only [Act.put, sA, sB, sC, i64_w, i32_w]
       rfl
     refine take_ (i := 1) (N := some 56) (v := ?_) (a' := ?_) #[true, true, false, false] rfl rfl (by kernel_rfl) (fun _ _ _ h => h) (Or.inl ⟨by rfl, ?_⟩) hHeld ?_ ?_
     rotate_left
     · rintro w' ⟨s0, s1, s2, s3⟩
       go_simp
       with_reducible rfl
     rotate_left
     · simp only [Act.put, sA, sB, sC, i64_w, i32_w]
       rfl
     refine one_ (i := 2) (N := none) #[true, true, true, false] rfl rfl (by kernel_rfl) (by decide) (fun K hK => ?_)
     have hs32 : w31.cell? ⟨gb108, 0, none⟩ = some (.int .i64 0) := (blk_cell BK108.out 0).trans rfl
     have hfs32 := blk_frozen BK108.out 0
     have hns32_1 := NB109_108.out
     have hns32_2 := NB111_108.out
     have hns32_3 := NB113_108.out
     have hms32_1 := NB108_109.out
     have hms32_2 := NB108_111.out
     have hms32_3 := NB108_113.out
     have hs33 : w31.cell? ⟨gb108, 1, none⟩ = some (.int .i64 0) := (blk_cell BK108.out 1).trans rfl
     have hfs33 := blk_frozen BK108.out 1
     have hns33_1 := NB109_108.out
     have hns33_2 := NB111_108.out
     have hns33_3 := NB113_108.out
     have hms33_1 := NB108_109.out
     have hms33_2 := NB108_111.out
     have hms33_3 := NB108_113.out
     refine skip_ (w1 := ?_) (by rfl) rfl ?_ ?_
     rotate_left
     · go_simp
       rfl
     refine hK.out _ _ ⟨((cell_far (p := ⟨gb108, _, none⟩) NB111_108.out _).trans (((cell_far (p := ⟨gb108, _, none⟩) NB111_108.out _).trans (hHeld.1)))), ((cell_far (p := ⟨gb108, _, none⟩) NB111_108.out _).trans (((cell_far (p := ⟨gb108, _, none⟩) NB111_108.out _).trans (hHeld.2.1)))), ((cell_far (p := ⟨gb108, _, none⟩) NB113_108.out _).trans (((cell_far (p := ⟨gb108, _, none⟩) NB113_108.out _).trans (hHeld.2.2.1)))), ((cell_far (p := ⟨gb108, _, none⟩) NB113_108.out _).trans (((cell_far (p := ⟨gb108, _, none⟩) NB113_108.out _).trans (hHeld.2.2.2))))⟩ (fun hHeld => ?_)
     clear hK K
     refine one_ (i := 3) (N := none) #[true, true, true, true] rfl rfl (by kernel_rfl) (by decide) (fun K hK => ?_)
     have hs34 : w31.cell? ⟨gb109, 0, none⟩ = some (.int .i64 0) := (blk_cell BK109.out 0).trans rfl
     have hfs34 := blk_frozen BK109.out 0
     have hns34_0 := NB108_109.out
     have hns34_2 := NB111_109.out
     have hns34_3 := NB113_109.out
     have hms34_0 := NB109_108.out
     have hms34_2 := NB109_111.out
     have hms34_3 := NB109_113.out
     have hs35 : w31.cell? ⟨gb109, 1, none⟩ = some (.int .i64 0) := (blk_cell BK109.out 1).trans rfl
     have hfs35 := blk_frozen BK109.out 1
     have hns35_0 := NB108_109.out
     have hns35_2 := NB111_109.out
     have hns35_3 := NB113_109.out
     have hms35_0 := NB109_108.out
     have hms35_2 := NB109_111.out
     have hms35_3 := NB109_113.out
     refine skip_ (w1 := ?_) (by rfl) rfl ?_ ?_
     rotate_left
     · go_simp
       rfl
     refine hK.out _ _ ⟨((cell_far (p := ⟨gb109, _, none⟩) NB111_109.out _).trans (((cell_far (p := ⟨gb109, _, none⟩) NB111_109.out _).trans (hHeld.1)))), ((cell_far (p := ⟨gb109, _, none⟩) NB111_109.out _).trans (((cell_far (p := ⟨gb109, _, none⟩) NB111_109.out _).trans (hHeld.2.1)))), ((cell_far (p := ⟨gb109, _, none⟩) NB113_109.out _).trans (((cell_far (p := ⟨gb109, _, none⟩) NB113_109.out _).trans (hHeld.2.2.1)))), ((cell_far (p := ⟨gb109, _, none⟩) NB113_109.out _).trans (((cell_far (p := ⟨gb109, _, none⟩) NB113_109.out _).trans (hHeld.2.2.2))))⟩ (fun hHeld => ?_)
     clear hK K
     refine done_ (by kernel_rfl) ?_
     try go_wp2
     refine bodyPost_ret (results_cc rfl _ _ gb108 gb109 105 105 #[.int .i64 x112000_1, .int .i64 x112001_1] #[.int .i64 x114000_1, .int .i64 x114001_1] (0, 0) (0, 0) _ _ rfl (by (with_reducible repeat (first | refine blk_drewN ?_ _ | refine blk_drew ?_ | refine blk_alloc ?_ _)); refine blk_far ?_ NB108_109.out _; (with_reducible repeat (first | refine blk_drewN ?_ _ | refine blk_drew ?_ | refine blk_alloc ?_ _)); refine blk_far ?_ NB108_109.out _; (with_reducible repeat (first | refine blk_drewN ?_ _ | refine blk_drew ?_ | refine blk_alloc ?_ _)); refine blk_put (cs := #[.int .i64 x112000_1, .int .i64 0]) ?_ 1 _ rfl; (with_reducible repeat (first | refine blk_drewN ?_ _ | refine blk_drew ?_ | refine blk_alloc ?_ _)); refine blk_put (cs := #[.int .i64 0, .int .i64 0]) ?_ 0 _ rfl; (with_reducible repeat (first | refine blk_drewN ?_ _ | refine blk_drew ?_ | refine blk_alloc ?_ _)); exact BK108.out) Try.underlying105 rfl (by kernel_rfl) rfl (by (with_reducible repeat (first | refine blk_drewN ?_ _ | refine blk_drew ?_ | refine blk_alloc ?_ _)); refine blk_put (cs := #[.int .i64 x114000_1, .int .i64 0]) ?_ 1 _ rfl; (with_reducible repeat (first | refine blk_drewN ?_ _ | refine blk_drew ?_ | refine blk_alloc ?_ _)); refine blk_put (cs := #[.int .i64 0, .int .i64 0]) ?_ 0 _ rfl; (with_reducible repeat (first | refine blk_drewN ?_ _ | refine blk_drew ?_ | refine blk_alloc ?_ _)); refine blk_far ?_ NB109_108.out _; (with_reducible repeat (first | refine blk_drewN ?_ _ | refine blk_drew ?_ | refine blk_alloc ?_ _)); refine blk_far ?_ NB109_108.out _; (with_reducible repeat (first | refine blk_drewN ?_ _ | refine blk_drew ?_ | refine blk_alloc ?_ _)); exact BK109.out) Try.underlying105 rfl (by kernel_rfl)) rfl ?_
     exact ⟨by first | rfl | (simp [errW_none, errW_some] <;> rfl) | (simp [*, errW_none, errW_some] <;> rfl), by repeat (first | (with_reducible first | exact HB.out | apply below_alloc | apply pw_below_drewN | apply below_drew1 | refine below_set ?_ GE108.out | refine below_set ?_ GE109.out | refine below_set ?_ GE111.out | refine below_set ?_ GE113.out) | exact HB.out)⟩
   rw [if_pos c14] at H
   have c14b0 : decide (x6_1 < (l0.length : Int)) = true := decide_eq_true c14
   clear c14
   by_cases c15 : 0 ≤ x6_1
   rotate_left
   · rw [if_neg c15] at H
     exact absurd H (by simp)
   rw [if_pos c15] at H
   have c15b0 : decide (0 ≤ x6_1) = true := decide_eq_true c15
   clear c15
   replace H := Option.bind_eq_some_iff.mp H
   obtain ⟨t115, A160, H⟩ := H
   replace H : ((spec_l00Min.f x112001_1 ((rd_T105 l0 x6_1).f1)).bind fun t117 => ((spec_l00Max.f x114000_1 ((rd_T105 l0 x6_1).f0)).bind fun t119 => ((spec_l00Max.f x114001_1 ((rd_T105 l0 x6_1).f1)).bind fun t121 => (spec_l03Bounds.l0 k1 l0 (wrap64 (x6_1 + 1)) t115 t117 t119 t121)))) = some (r1, r2, r3, r4) := H
   have A16 := mkA A160
   clear A160
   replace H := Option.bind_eq_some_iff.mp H
   obtain ⟨t117, A170, H⟩ := H
   replace H : ((spec_l00Max.f x114000_1 ((rd_T105 l0 x6_1).f0)).bind fun t119 => ((spec_l00Max.f x114001_1 ((rd_T105 l0 x6_1).f1)).bind fun t121 => (spec_l03Bounds.l0 k1 l0 (wrap64 (x6_1 + 1)) t115 t117 t119 t121))) = some (r1, r2, r3, r4) := H
   have A17 := mkA A170
   clear A170
   replace H := Option.bind_eq_some_iff.mp H
   obtain ⟨t119, A180, H⟩ := H
   replace H : ((spec_l00Max.f x114001_1 ((rd_T105 l0 x6_1).f1)).bind fun t121 => (spec_l03Bounds.l0 k1 l0 (wrap64 (x6_1 + 1)) t115 t117 t119 t121)) = some (r1, r2, r3, r4) := H
   have A18 := mkA A180
   clear A180
   replace H := Option.bind_eq_some_iff.mp H
   obtain ⟨t121, A190, H⟩ := H
   replace H : (spec_l03Bounds.l0 k1 l0 (wrap64 (x6_1 + 1)) t115 t117 t119 t121) = some (r1, r2, r3, r4) := H
   have A19 := mkA A190
   clear A190
   have H' := mkA H
   clear H
   try go_wp2
   have n0_ := mkA (blk_drew BK108.out)
   have n1_ := mkA (blk_drew BK109.out)
   have n2_ := mkA (blk_drew BK111.out)
   have n3_ := mkA (blk_drew BK113.out)
   have n4_ := mkA (below_drew1 HB.out)
   clear BK108
   clear BK109
   clear BK111
   clear BK113
   clear HB
   have BK108 := n0_
   have BK109 := n1_
   have BK111 := n2_
   have BK113 := n3_
   have HB := n4_
   clear n0_ n1_ n2_ n3_ n4_
   have p114 : 0 ≤ (x6_1 : Int) := dt_
   have q114 : x6_1 < (l0.length : Int) := dt_
   obtain ⟨ad114, e114, hx114_0, hx114_1⟩ := at_T105 HR0.out x6_1 p114 q114
   have hw114_1 := hx114_1
   have hw114_0 := hx114_0
   obtain rfl : ad110 = ad114 := (by injection e114)
   replace hx114_0 := bc_ HB.out hx114_0
   replace hx114_1 := bc_ HB.out hx114_1
   replace p114 := eq_true p114
   replace q114 := eq_true q114
   refine start_ (n := 10) (S := fun w' => w'.cell? ⟨gb111, 0, none⟩ = some (.int .i64 x112000_1) ∧ w'.cell? ⟨gb111, 1, none⟩ = some (.int .i64 x112001_1) ∧ w'.cell? (ad110.add ((x6_1).toNat * 2)) = some (.int .i64 ((rd_T105 l0 x6_1).f0)) ∧ w'.cell? ⟨(ad110.add ((x6_1).toNat * 2)).block, (ad110.add ((x6_1).toNat * 2)).off + 1, none⟩ = some (.int .i64 ((rd_T105 l0 x6_1).f1))) (ds := [9]) spec_l03Bounds.d0 (by kernel_rfl) rfl rfl ⟨(blk_cell BK111.out 0).trans rfl, (blk_cell BK111.out 1).trans rfl, (bc_ HB.out hw114_0 :), (bc_ HB.out hw114_1 :)⟩ (fun hHeld => ?_); refine with_tabW spec_l03Bounds.tab6 spec_l03Bounds.bits6 (fun HT_ HW_ => ?_)
   generalize wr.drew = w20 at BK108 BK109 BK111 BK113 HB hx114_0 hx114_1 hHeld ⊢
   refine p1_ HT_.out 0 19 spec_l03Bounds.d1 ?_
   refine p1_ HT_.out 2 21 spec_l03Bounds.d2 ?_
   refine p1_ HT_.out 3 22 spec_l03Bounds.d3 ?_
   refine p1_ HT_.out 4 23 spec_l03Bounds.d4 ?_
   refine p1_ HT_.out 5 24 spec_l03Bounds.d5 ?_
   refine take_ (i := 1) (N := some 20) (v := ?_) (a' := ?_) spec_l03Bounds.d6 rfl rfl (take_ofW HT_.out HW_.out (by kernel_rfl)) (fun _ _ _ h => h) (Or.inl ⟨by rfl, ?_⟩) hHeld ?_ ?_
   rotate_left
   · rintro w' ⟨s0, s1, s2, s3⟩
     go_simp
     with_reducible rfl
   rotate_left
   · simp only [Act.put, sA, sB, sC, i64_w, i32_w]
     rfl
   refine take_ (i := 6) (N := some 25) (v := ?_) (a' := ?_) spec_l03Bounds.d7 rfl rfl (take_ofW HT_.out HW_.out (by kernel_rfl)) (fun _ _ _ h => h) (Or.inl ⟨by rfl, ?_⟩) hHeld ?_ ?_
   rotate_left
   · rintro w' ⟨s0, s1, s2, s3⟩
     go_simp
     with_reducible rfl
   rotate_left
   · simp only [Act.put, sA, sB, sC, i64_w, i32_w]
     rfl
   refine one_ (i := 7) (N := some 26) spec_l03Bounds.d8 rfl rfl (one_of HT_.out (by kernel_rfl)) (by decide) (fun K hK => ?_)
   refine goes_ Try.func108 (by kernel_rfl) rfl #[.int .i64 x112000_1, .int .i64 ((rd_T105 l0 x6_1).f0)] (by rfl) rfl rfl (by (try simp only [List.map_toArray, List.map_cons, List.map_nil]); first | done | rfl | (simp only [List.length_drop, List.length_take]; rfl)) ?_
   with_reducible refine (spec_l00Min.calls x112000_1 ((rd_T105 l0 x6_1).f0) t115 _ A16.out).mono ?_
   rintro e w' ⟨rfl, ⟨nd, rfl⟩⟩
   refine ⟨_, rfl, ?_⟩
   (try (rw [drewN_self w20]; generalize hq_ : World.drewN w20 _ = w20; have n0_ := mkA (blk_at hq_ BK108.out); have n1_ := mkA (blk_at hq_ BK109.out); have n2_ := mkA (blk_at hq_ BK111.out); have n3_ := mkA (blk_at hq_ BK113.out); have n4_ := mkA (below_at hq_ HB.out); clear hq_ BK108 BK109 BK111 BK113 HB; have BK108 := n0_; have BK109 := n1_; have BK111 := n2_; have BK113 := n3_; have HB := n4_; clear n0_ n1_ n2_ n3_ n4_))
   refine hK.out _ _ ⟨(blk_cell BK111.out 0).trans rfl, (blk_cell BK111.out 1).trans rfl, (bc_ HB.out hw114_0 :), (bc_ HB.out hw114_1 :)⟩ (fun hHeld => ?_)
   clear hK K
   refine norm_ (a' := ?_) ?_ ?_
   rotate_left
   · show Act.put _ (some 26) _ = _
     simp only [Act.put, sA, sB, sC, i64_w, i32_w]
     rfl
   refine p1_ HT_.out 8 27 spec_l03Bounds.d9 ?_
   refine last_ (i := 9) (N := none) spec_l03Bounds.d10 rfl rfl (one_of HT_.out (by kernel_rfl)) (by decide) (fun K hK => ?_)
   have hs21 : w20.cell? ⟨gb111, 0, none⟩ = some (.int .i64 x112000_1) := (blk_cell BK111.out 0).trans rfl
   have hfs21 := blk_frozen BK111.out 0
   have hns21_0 := NB108_111.out
   have hns21_1 := NB109_111.out
   have hns21_3 := NB113_111.out
   have hms21_0 := NB111_108.out
   have hms21_1 := NB111_109.out
   have hms21_3 := NB111_113.out
   refine skip_ (w1 := ?_) (by rfl) rfl ?_ ?_
   rotate_left
   · go_simp
     rfl
   refine hK.out _ _ ?_
   clear hK K
   refine done_ (done_of HT_.out (by kernel_rfl)) ?_
   try go_wp2
   have n0_ : Aside0 ((w20.setCell ⟨gb111, 0, none⟩ (.int .i64 t115)).heap[gb108]? = some (.cells #[.int .i64 0, .int .i64 0] 105 (0, 0))) := ⟨by (with_reducible repeat (first | refine blk_drewN ?_ _ | refine blk_drew ?_ | refine blk_alloc ?_ _)); refine blk_far ?_ NB108_111.out _; (with_reducible repeat (first | refine blk_drewN ?_ _ | refine blk_drew ?_ | refine blk_alloc ?_ _)); exact BK108.out⟩
   have n1_ : Aside0 ((w20.setCell ⟨gb111, 0, none⟩ (.int .i64 t115)).heap[gb109]? = some (.cells #[.int .i64 0, .int .i64 0] 105 (0, 0))) := ⟨by (with_reducible repeat (first | refine blk_drewN ?_ _ | refine blk_drew ?_ | refine blk_alloc ?_ _)); refine blk_far ?_ NB109_111.out _; (with_reducible repeat (first | refine blk_drewN ?_ _ | refine blk_drew ?_ | refine blk_alloc ?_ _)); exact BK109.out⟩
   have n2_ : Aside0 ((w20.setCell ⟨gb111, 0, none⟩ (.int .i64 t115)).heap[gb111]? = some (.cells #[.int .i64 t115, .int .i64 x112001_1] 105 (0, 0))) := ⟨by (with_reducible repeat (first | refine blk_drewN ?_ _ | refine blk_drew ?_ | refine blk_alloc ?_ _)); refine blk_put (cs := #[.int .i64 x112000_1, .int .i64 x112001_1]) ?_ 0 _ rfl; (with_reducible repeat (first | refine blk_drewN ?_ _ | refine blk_drew ?_ | refine blk_alloc ?_ _)); exact BK111.out⟩
   have n3_ : Aside0 ((w20.setCell ⟨gb111, 0, none⟩ (.int .i64 t115)).heap[gb113]? = some (.cells #[.int .i64 x114000_1, .int .i64 x114001_1] 105 (0, 0))) := ⟨by (with_reducible repeat (first | refine blk_drewN ?_ _ | refine blk_drew ?_ | refine blk_alloc ?_ _)); refine blk_far ?_ NB113_111.out _; (with_reducible repeat (first | refine blk_drewN ?_ _ | refine blk_drew ?_ | refine blk_alloc ?_ _)); exact BK113.out⟩
   have n4_ : Aside0 (Below w.heap.size w (w20.setCell ⟨gb111, 0, none⟩ (.int .i64 t115))) := ⟨by repeat (first | (with_reducible first | exact HB.out | apply below_alloc | apply pw_below_drewN | apply below_drew1 | refine below_set ?_ GE108.out | refine below_set ?_ GE109.out | refine below_set ?_ GE111.out | refine below_set ?_ GE113.out) | exact HB.out)⟩
   (try clear BK108)
   (try clear BK109)
   (try clear BK111)
   (try clear BK113)
   (try clear HB)
   generalize (w20.setCell ⟨gb111, 0, none⟩ (.int .i64 t115)) = w22 at n0_ n1_ n2_ n3_ n4_ ⊢
   have BK108 := n0_
   have BK109 := n1_
   have BK111 := n2_
   have BK113 := n3_
   have HB := n4_
   clear n0_ n1_ n2_ n3_ n4_
   (try (rw [drewN_self w22]; generalize hq_ : World.drewN w22 _ = w22; have n0_ : Aside0 (w22.heap[gb108]? = some (.cells #[.int .i64 0, .int .i64 0] 105 (0, 0))) := ⟨by rw [← hq_]; exact (bl_ BK108.out)⟩; have n1_ : Aside0 (w22.heap[gb109]? = some (.cells #[.int .i64 0, .int .i64 0] 105 (0, 0))) := ⟨by rw [← hq_]; exact (bl_ BK109.out)⟩; have n2_ : Aside0 (w22.heap[gb111]? = some (.cells #[.int .i64 t115, .int .i64 x112001_1] 105 (0, 0))) := ⟨by rw [← hq_]; exact (bl_ BK111.out)⟩; have n3_ : Aside0 (w22.heap[gb113]? = some (.cells #[.int .i64 x114000_1, .int .i64 x114001_1] 105 (0, 0))) := ⟨by rw [← hq_]; exact (bl_ BK113.out)⟩; have n4_ : Aside0 (Below w.heap.size w w22) := ⟨by rw [← hq_]; exact (bs4_ HB.out GE108.out GE109.out GE111.out GE113.out)⟩; clear BK108 BK109 BK111 BK113 HB hq_; have BK108 := n0_; have BK109 := n1_; have BK111 := n2_; have BK113 := n3_; have HB := n4_; clear n0_ n1_ n2_ n3_ n4_))
   have n0_ := mkA (blk_drew BK108.out)
   have n1_ := mkA (blk_drew BK109.out)
   have n2_ := mkA (blk_drew BK111.out)
   have n3_ := mkA (blk_drew BK113.out)
   have n4_ := mkA (below_drew1 HB.out)
   clear BK108
   clear BK109
   clear BK111
   clear BK113
   clear HB
   have BK108 := n0_
   have BK109 := n1_
   have BK111 := n2_
   have BK113 := n3_
   have HB := n4_
   clear n0_ n1_ n2_ n3_ n4_
   have p116 : 0 ≤ (x6_1 : Int) := dt_
   have q116 : x6_1 < (l0.length : Int) := dt_
   obtain ⟨ad116, e116, hx116_0, hx116_1⟩ := at_T105 HR0.out x6_1 p116 q116
   have hw116_1 := hx116_1
   have hw116_0 := hx116_0
   obtain rfl : ad110 = ad116 := (by injection e116)
   replace hx116_0 := bc_ HB.out hx116_0
   replace hx116_1 := bc_ HB.out hx116_1
   replace p116 := eq_true p116
   replace q116 := eq_true q116
   refine start_ (n := 10) (S := fun w' => w'.cell? ⟨gb111, 0, none⟩ = some (.int .i64 t115) ∧ w'.cell? ⟨gb111, 1, none⟩ = some (.int .i64 x112001_1) ∧ w'.cell? (ad110.add ((x6_1).toNat * 2)) = some (.int .i64 ((rd_T105 l0 x6_1).f0)) ∧ w'.cell? ⟨(ad110.add ((x6_1).toNat * 2)).block, (ad110.add ((x6_1).toNat * 2)).off + 1, none⟩ = some (.int .i64 ((rd_T105 l0 x6_1).f1))) (ds := [9]) spec_l03Bounds.d0 (by kernel_rfl) rfl rfl ⟨(blk_cell BK111.out 0).trans rfl, (blk_cell BK111.out 1).trans rfl, (bc_ HB.out hw116_0 :), (bc_ HB.out hw116_1 :)⟩ (fun hHeld => ?_); refine with_tabW spec_l03Bounds.tab7 spec_l03Bounds.bits7 (fun HT_ HW_ => ?_)
   generalize w22.drew = w23 at BK108 BK109 BK111 BK113 HB hx116_0 hx116_1 hHeld ⊢
   refine p1_ HT_.out 0 28 spec_l03Bounds.d1 ?_
   refine p1_ HT_.out 2 30 spec_l03Bounds.d2 ?_
   refine p1_ HT_.out 3 31 spec_l03Bounds.d3 ?_
   refine p1_ HT_.out 4 32 spec_l03Bounds.d4 ?_
   refine p1_ HT_.out 5 33 spec_l03Bounds.d5 ?_
   refine take_ (i := 1) (N := some 29) (v := ?_) (a' := ?_) spec_l03Bounds.d6 rfl rfl (take_ofW HT_.out HW_.out (by kernel_rfl)) (fun _ _ _ h => h) (Or.inl ⟨by rfl, ?_⟩) hHeld ?_ ?_
   rotate_left
   · rintro w' ⟨s0, s1, s2, s3⟩
     go_simp
     with_reducible rfl
   rotate_left
   · simp only [Act.put, sA, sB, sC, i64_w, i32_w]
     rfl
   refine take_ (i := 6) (N := some 34) (v := ?_) (a' := ?_) spec_l03Bounds.d7 rfl rfl (take_ofW HT_.out HW_.out (by kernel_rfl)) (fun _ _ _ h => h) (Or.inl ⟨by rfl, ?_⟩) hHeld ?_ ?_
   rotate_left
   · rintro w' ⟨s0, s1, s2, s3⟩
     go_simp
     with_reducible rfl
   rotate_left
   · simp only [Act.put, sA, sB, sC, i64_w, i32_w]
     rfl
   refine one_ (i := 7) (N := some 35) spec_l03Bounds.d8 rfl rfl (one_of HT_.out (by kernel_rfl)) (by decide) (fun K hK => ?_)
   refine goes_ Try.func108 (by kernel_rfl) rfl #[.int .i64 x112001_1, .int .i64 ((rd_T105 l0 x6_1).f1)] (by rfl) rfl rfl (by (try simp only [List.map_toArray, List.map_cons, List.map_nil]); first | done | rfl | (simp only [List.length_drop, List.length_take]; rfl)) ?_
   with_reducible refine (spec_l00Min.calls x112001_1 ((rd_T105 l0 x6_1).f1) t117 _ A17.out).mono ?_
   rintro e w' ⟨rfl, ⟨nd, rfl⟩⟩
   refine ⟨_, rfl, ?_⟩
   (try (rw [drewN_self w23]; generalize hq_ : World.drewN w23 _ = w23; have n0_ := mkA (blk_at hq_ BK108.out); have n1_ := mkA (blk_at hq_ BK109.out); have n2_ := mkA (blk_at hq_ BK111.out); have n3_ := mkA (blk_at hq_ BK113.out); have n4_ := mkA (below_at hq_ HB.out); clear hq_ BK108 BK109 BK111 BK113 HB; have BK108 := n0_; have BK109 := n1_; have BK111 := n2_; have BK113 := n3_; have HB := n4_; clear n0_ n1_ n2_ n3_ n4_))
   refine hK.out _ _ ⟨(blk_cell BK111.out 0).trans rfl, (blk_cell BK111.out 1).trans rfl, (bc_ HB.out hw116_0 :), (bc_ HB.out hw116_1 :)⟩ (fun hHeld => ?_)
   clear hK K
   refine norm_ (a' := ?_) ?_ ?_
   rotate_left
   · show Act.put _ (some 35) _ = _
     simp only [Act.put, sA, sB, sC, i64_w, i32_w]
     rfl
   refine p1_ HT_.out 8 36 spec_l03Bounds.d9 ?_
   refine last_ (i := 9) (N := none) spec_l03Bounds.d10 rfl rfl (one_of HT_.out (by kernel_rfl)) (by decide) (fun K hK => ?_)
   have hs24 : w23.cell? ⟨gb111, 1, none⟩ = some (.int .i64 x112001_1) := (blk_cell BK111.out 1).trans rfl
   have hfs24 := blk_frozen BK111.out 1
   have hns24_0 := NB108_111.out
   have hns24_1 := NB109_111.out
   have hns24_3 := NB113_111.out
   have hms24_0 := NB111_108.out
   have hms24_1 := NB111_109.out
   have hms24_3 := NB111_113.out
   refine skip_ (w1 := ?_) (by rfl) rfl ?_ ?_
   rotate_left
   · go_simp
     rfl
   refine hK.out _ _ ?_
   clear hK K
   refine done_ (done_of HT_.out (by kernel_rfl)) ?_
   try go_wp2
   have n0_ : Aside0 ((w23.setCell ⟨gb111, 1, none⟩ (.int .i64 t117)).heap[gb108]? = some (.cells #[.int .i64 0, .int .i64 0] 105 (0, 0))) := ⟨by (with_reducible repeat (first | refine blk_drewN ?_ _ | refine blk_drew ?_ | refine blk_alloc ?_ _)); refine blk_far ?_ NB108_111.out _; (with_reducible repeat (first | refine blk_drewN ?_ _ | refine blk_drew ?_ | refine blk_alloc ?_ _)); exact BK108.out⟩
   have n1_ : Aside0 ((w23.setCell ⟨gb111, 1, none⟩ (.int .i64 t117)).heap[gb109]? = some (.cells #[.int .i64 0, .int .i64 0] 105 (0, 0))) := ⟨by (with_reducible repeat (first | refine blk_drewN ?_ _ | refine blk_drew ?_ | refine blk_alloc ?_ _)); refine blk_far ?_ NB109_111.out _; (with_reducible repeat (first | refine blk_drewN ?_ _ | refine blk_drew ?_ | refine blk_alloc ?_ _)); exact BK109.out⟩
   have n2_ : Aside0 ((w23.setCell ⟨gb111, 1, none⟩ (.int .i64 t117)).heap[gb111]? = some (.cells #[.int .i64 t115, .int .i64 t117] 105 (0, 0))) := ⟨by (with_reducible repeat (first | refine blk_drewN ?_ _ | refine blk_drew ?_ | refine blk_alloc ?_ _)); refine blk_put (cs := #[.int .i64 t115, .int .i64 x112001_1]) ?_ 1 _ rfl; (with_reducible repeat (first | refine blk_drewN ?_ _ | refine blk_drew ?_ | refine blk_alloc ?_ _)); exact BK111.out⟩
   have n3_ : Aside0 ((w23.setCell ⟨gb111, 1, none⟩ (.int .i64 t117)).heap[gb113]? = some (.cells #[.int .i64 x114000_1, .int .i64 x114001_1] 105 (0, 0))) := ⟨by (with_reducible repeat (first | refine blk_drewN ?_ _ | refine blk_drew ?_ | refine blk_alloc ?_ _)); refine blk_far ?_ NB113_111.out _; (with_reducible repeat (first | refine blk_drewN ?_ _ | refine blk_drew ?_ | refine blk_alloc ?_ _)); exact BK113.out⟩
   have n4_ : Aside0 (Below w.heap.size w (w23.setCell ⟨gb111, 1, none⟩ (.int .i64 t117))) := ⟨by repeat (first | (with_reducible first | exact HB.out | apply below_alloc | apply pw_below_drewN | apply below_drew1 | refine below_set ?_ GE108.out | refine below_set ?_ GE109.out | refine below_set ?_ GE111.out | refine below_set ?_ GE113.out) | exact HB.out)⟩
   (try clear BK108)
   (try clear BK109)
   (try clear BK111)
   (try clear BK113)
   (try clear HB)
   generalize (w23.setCell ⟨gb111, 1, none⟩ (.int .i64 t117)) = w25 at n0_ n1_ n2_ n3_ n4_ ⊢
   have BK108 := n0_
   have BK109 := n1_
   have BK111 := n2_
   have BK113 := n3_
   have HB := n4_
   clear n0_ n1_ n2_ n3_ n4_
   (try (rw [drewN_self w25]; generalize hq_ : World.drewN w25 _ = w25; have n0_ : Aside0 (w25.heap[gb108]? = some (.cells #[.int .i64 0, .int .i64 0] 105 (0, 0))) := ⟨by rw [← hq_]; exact (bl_ BK108.out)⟩; have n1_ : Aside0 (w25.heap[gb109]? = some (.cells #[.int .i64 0, .int .i64 0] 105 (0, 0))) := ⟨by rw [← hq_]; exact (bl_ BK109.out)⟩; have n2_ : Aside0 (w25.heap[gb111]? = some (.cells #[.int .i64 t115, .int .i64 t117] 105 (0, 0))) := ⟨by rw [← hq_]; exact (bl_ BK111.out)⟩; have n3_ : Aside0 (w25.heap[gb113]? = some (.cells #[.int .i64 x114000_1, .int .i64 x114001_1] 105 (0, 0))) := ⟨by rw [← hq_]; exact (bl_ BK113.out)⟩; have n4_ : Aside0 (Below w.heap.size w w25) := ⟨by rw [← hq_]; exact (bs4_ HB.out GE108.out GE109.out GE111.out GE113.out)⟩; clear BK108 BK109 BK111 BK113 HB hq_; have BK108 := n0_; have BK109 := n1_; have BK111 := n2_; have BK113 := n3_; have HB := n4_; clear n0_ n1_ n2_ n3_ n4_))
   have n0_ := mkA (blk_drew BK108.out)
   have n1_ := mkA (blk_drew BK109.out)
   have n2_ := mkA (blk_drew BK111.out)
   have n3_ := mkA (blk_drew BK113.out)
   have n4_ := mkA (below_drew1 HB.out)
   clear BK108
   clear BK109
   clear BK111
   clear BK113
   clear HB
   have BK108 := n0_
   have BK109 := n1_
   have BK111 := n2_
   have BK113 := n3_
   have HB := n4_
   clear n0_ n1_ n2_ n3_ n4_
   have p118 : 0 ≤ (x6_1 : Int) := dt_
   have q118 : x6_1 < (l0.length : Int) := dt_
   obtain ⟨ad118, e118, hx118_0, hx118_1⟩ := at_T105 HR0.out x6_1 p118 q118
   have hw118_1 := hx118_1
   have hw118_0 := hx118_0
   obtain rfl : ad110 = ad118 := (by injection e118)
   replace hx118_0 := bc_ HB.out hx118_0
   replace hx118_1 := bc_ HB.out hx118_1
   replace p118 := eq_true p118
   replace q118 := eq_true q118
   refine start_ (n := 10) (S := fun w' => w'.cell? ⟨gb113, 0, none⟩ = some (.int .i64 x114000_1) ∧ w'.cell? ⟨gb113, 1, none⟩ = some (.int .i64 x114001_1) ∧ w'.cell? (ad110.add ((x6_1).toNat * 2)) = some (.int .i64 ((rd_T105 l0 x6_1).f0)) ∧ w'.cell? ⟨(ad110.add ((x6_1).toNat * 2)).block, (ad110.add ((x6_1).toNat * 2)).off + 1, none⟩ = some (.int .i64 ((rd_T105 l0 x6_1).f1))) (ds := [9]) spec_l03Bounds.d0 (by kernel_rfl) rfl rfl ⟨(blk_cell BK113.out 0).trans rfl, (blk_cell BK113.out 1).trans rfl, (bc_ HB.out hw118_0 :), (bc_ HB.out hw118_1 :)⟩ (fun hHeld => ?_); refine with_tabW spec_l03Bounds.tab8 spec_l03Bounds.bits8 (fun HT_ HW_ => ?_)
   generalize w25.drew = w26 at BK108 BK109 BK111 BK113 HB hx118_0 hx118_1 hHeld ⊢
   refine p1_ HT_.out 0 37 spec_l03Bounds.d1 ?_
   refine p1_ HT_.out 2 39 spec_l03Bounds.d2 ?_
   refine p1_ HT_.out 3 40 spec_l03Bounds.d3 ?_
   refine p1_ HT_.out 4 41 spec_l03Bounds.d4 ?_
   refine p1_ HT_.out 5 42 spec_l03Bounds.d5 ?_
   refine take_ (i := 1) (N := some 38) (v := ?_) (a' := ?_) spec_l03Bounds.d6 rfl rfl (take_ofW HT_.out HW_.out (by kernel_rfl)) (fun _ _ _ h => h) (Or.inl ⟨by rfl, ?_⟩) hHeld ?_ ?_
   rotate_left
   · rintro w' ⟨s0, s1, s2, s3⟩
     go_simp
     with_reducible rfl
   rotate_left
   · simp only [Act.put, sA, sB, sC, i64_w, i32_w]
     rfl
   refine take_ (i := 6) (N := some 43) (v := ?_) (a' := ?_) spec_l03Bounds.d7 rfl rfl (take_ofW HT_.out HW_.out (by kernel_rfl)) (fun _ _ _ h => h) (Or.inl ⟨by rfl, ?_⟩) hHeld ?_ ?_
   rotate_left
   · rintro w' ⟨s0, s1, s2, s3⟩
     go_simp
     with_reducible rfl
   rotate_left
   · simp only [Act.put, sA, sB, sC, i64_w, i32_w]
     rfl
   refine one_ (i := 7) (N := some 44) spec_l03Bounds.d8 rfl rfl (one_of HT_.out (by kernel_rfl)) (by decide) (fun K hK => ?_)
   refine goes_ Try.func109 (by kernel_rfl) rfl #[.int .i64 x114000_1, .int .i64 ((rd_T105 l0 x6_1).f0)] (by rfl) rfl rfl (by (try simp only [List.map_toArray, List.map_cons, List.map_nil]); first | done | rfl | (simp only [List.length_drop, List.length_take]; rfl)) ?_
   with_reducible refine (spec_l00Max.calls x114000_1 ((rd_T105 l0 x6_1).f0) t119 _ A18.out).mono ?_
   rintro e w' ⟨rfl, ⟨nd, rfl⟩⟩
   refine ⟨_, rfl, ?_⟩
   (try (rw [drewN_self w26]; generalize hq_ : World.drewN w26 _ = w26; have n0_ := mkA (blk_at hq_ BK108.out); have n1_ := mkA (blk_at hq_ BK109.out); have n2_ := mkA (blk_at hq_ BK111.out); have n3_ := mkA (blk_at hq_ BK113.out); have n4_ := mkA (below_at hq_ HB.out); clear hq_ BK108 BK109 BK111 BK113 HB; have BK108 := n0_; have BK109 := n1_; have BK111 := n2_; have BK113 := n3_; have HB := n4_; clear n0_ n1_ n2_ n3_ n4_))
   refine hK.out _ _ ⟨(blk_cell BK113.out 0).trans rfl, (blk_cell BK113.out 1).trans rfl, (bc_ HB.out hw118_0 :), (bc_ HB.out hw118_1 :)⟩ (fun hHeld => ?_)
   clear hK K
   refine norm_ (a' := ?_) ?_ ?_
   rotate_left
   · show Act.put _ (some 44) _ = _
     simp only [Act.put, sA, sB, sC, i64_w, i32_w]
     rfl
   refine p1_ HT_.out 8 45 spec_l03Bounds.d9 ?_
   refine last_ (i := 9) (N := none) spec_l03Bounds.d10 rfl rfl (one_of HT_.out (by kernel_rfl)) (by decide) (fun K hK => ?_)
   have hs27 : w26.cell? ⟨gb113, 0, none⟩ = some (.int .i64 x114000_1) := (blk_cell BK113.out 0).trans rfl
   have hfs27 := blk_frozen BK113.out 0
   have hns27_0 := NB108_113.out
   have hns27_1 := NB109_113.out
   have hns27_2 := NB111_113.out
   have hms27_0 := NB113_108.out
   have hms27_1 := NB113_109.out
   have hms27_2 := NB113_111.out
   refine skip_ (w1 := ?_) (by rfl) rfl ?_ ?_
   rotate_left
   · go_simp
     rfl
   refine hK.out _ _ ?_
   clear hK K
   refine done_ (done_of HT_.out (by kernel_rfl)) ?_
   try go_wp2
   have n0_ : Aside0 ((w26.setCell ⟨gb113, 0, none⟩ (.int .i64 t119)).heap[gb108]? = some (.cells #[.int .i64 0, .int .i64 0] 105 (0, 0))) := ⟨by (with_reducible repeat (first | refine blk_drewN ?_ _ | refine blk_drew ?_ | refine blk_alloc ?_ _)); refine blk_far ?_ NB108_113.out _; (with_reducible repeat (first | refine blk_drewN ?_ _ | refine blk_drew ?_ | refine blk_alloc ?_ _)); exact BK108.out⟩
   have n1_ : Aside0 ((w26.setCell ⟨gb113, 0, none⟩ (.int .i64 t119)).heap[gb109]? = some (.cells #[.int .i64 0, .int .i64 0] 105 (0, 0))) := ⟨by (with_reducible repeat (first | refine blk_drewN ?_ _ | refine blk_drew ?_ | refine blk_alloc ?_ _)); refine blk_far ?_ NB109_113.out _; (with_reducible repeat (first | refine blk_drewN ?_ _ | refine blk_drew ?_ | refine blk_alloc ?_ _)); exact BK109.out⟩
   have n2_ : Aside0 ((w26.setCell ⟨gb113, 0, none⟩ (.int .i64 t119)).heap[gb111]? = some (.cells #[.int .i64 t115, .int .i64 t117] 105 (0, 0))) := ⟨by (with_reducible repeat (first | refine blk_drewN ?_ _ | refine blk_drew ?_ | refine blk_alloc ?_ _)); refine blk_far ?_ NB111_113.out _; (with_reducible repeat (first | refine blk_drewN ?_ _ | refine blk_drew ?_ | refine blk_alloc ?_ _)); exact BK111.out⟩
   have n3_ : Aside0 ((w26.setCell ⟨gb113, 0, none⟩ (.int .i64 t119)).heap[gb113]? = some (.cells #[.int .i64 t119, .int .i64 x114001_1] 105 (0, 0))) := ⟨by (with_reducible repeat (first | refine blk_drewN ?_ _ | refine blk_drew ?_ | refine blk_alloc ?_ _)); refine blk_put (cs := #[.int .i64 x114000_1, .int .i64 x114001_1]) ?_ 0 _ rfl; (with_reducible repeat (first | refine blk_drewN ?_ _ | refine blk_drew ?_ | refine blk_alloc ?_ _)); exact BK113.out⟩
   have n4_ : Aside0 (Below w.heap.size w (w26.setCell ⟨gb113, 0, none⟩ (.int .i64 t119))) := ⟨by repeat (first | (with_reducible first | exact HB.out | apply below_alloc | apply pw_below_drewN | apply below_drew1 | refine below_set ?_ GE108.out | refine below_set ?_ GE109.out | refine below_set ?_ GE111.out | refine below_set ?_ GE113.out) | exact HB.out)⟩
   (try clear BK108)
   (try clear BK109)
   (try clear BK111)
   (try clear BK113)
   (try clear HB)
   generalize (w26.setCell ⟨gb113, 0, none⟩ (.int .i64 t119)) = w28 at n0_ n1_ n2_ n3_ n4_ ⊢
   have BK108 := n0_
   have BK109 := n1_
   have BK111 := n2_
   have BK113 := n3_
   have HB := n4_
   clear n0_ n1_ n2_ n3_ n4_
   (try (rw [drewN_self w28]; generalize hq_ : World.drewN w28 _ = w28; have n0_ : Aside0 (w28.heap[gb108]? = some (.cells #[.int .i64 0, .int .i64 0] 105 (0, 0))) := ⟨by rw [← hq_]; exact (bl_ BK108.out)⟩; have n1_ : Aside0 (w28.heap[gb109]? = some (.cells #[.int .i64 0, .int .i64 0] 105 (0, 0))) := ⟨by rw [← hq_]; exact (bl_ BK109.out)⟩; have n2_ : Aside0 (w28.heap[gb111]? = some (.cells #[.int .i64 t115, .int .i64 t117] 105 (0, 0))) := ⟨by rw [← hq_]; exact (bl_ BK111.out)⟩; have n3_ : Aside0 (w28.heap[gb113]? = some (.cells #[.int .i64 t119, .int .i64 x114001_1] 105 (0, 0))) := ⟨by rw [← hq_]; exact (bl_ BK113.out)⟩; have n4_ : Aside0 (Below w.heap.size w w28) := ⟨by rw [← hq_]; exact (bs4_ HB.out GE108.out GE109.out GE111.out GE113.out)⟩; clear BK108 BK109 BK111 BK113 HB hq_; have BK108 := n0_; have BK109 := n1_; have BK111 := n2_; have BK113 := n3_; have HB := n4_; clear n0_ n1_ n2_ n3_ n4_))
   have n0_ := mkA (blk_drew BK108.out)
   have n1_ := mkA (blk_drew BK109.out)
   have n2_ := mkA (blk_drew BK111.out)
   have n3_ := mkA (blk_drew BK113.out)
   have n4_ := mkA (below_drew1 HB.out)
   clear BK108
   clear BK109
   clear BK111
   clear BK113
   clear HB
   have BK108 := n0_
   have BK109 := n1_
   have BK111 := n2_
   have BK113 := n3_
   have HB := n4_
   clear n0_ n1_ n2_ n3_ n4_
   have p120 : 0 ≤ (x6_1 : Int) := dt_
   have q120 : x6_1 < (l0.length : Int) := dt_
   obtain ⟨ad120, e120, hx120_0, hx120_1⟩ := at_T105 HR0.out x6_1 p120 q120
   have hw120_1 := hx120_1
   have hw120_0 := hx120_0
   obtain rfl : ad110 = ad120 := (by injection e120)
   replace hx120_0 := bc_ HB.out hx120_0
   replace hx120_1 := bc_ HB.out hx120_1
   replace p120 := eq_true p120
   replace q120 := eq_true q120
   refine start_ (n := 10) (S := fun w' => w'.cell? ⟨gb113, 0, none⟩ = some (.int .i64 t119) ∧ w'.cell? ⟨gb113, 1, none⟩ = some (.int .i64 x114001_1) ∧ w'.cell? (ad110.add ((x6_1).toNat * 2)) = some (.int .i64 ((rd_T105 l0 x6_1).f0)) ∧ w'.cell? ⟨(ad110.add ((x6_1).toNat * 2)).block, (ad110.add ((x6_1).toNat * 2)).off + 1, none⟩ = some (.int .i64 ((rd_T105 l0 x6_1).f1))) (ds := [9]) spec_l03Bounds.d0 (by kernel_rfl) rfl rfl ⟨(blk_cell BK113.out 0).trans rfl, (blk_cell BK113.out 1).trans rfl, (bc_ HB.out hw120_0 :), (bc_ HB.out hw120_1 :)⟩ (fun hHeld => ?_); refine with_tabW spec_l03Bounds.tab9 spec_l03Bounds.bits9 (fun HT_ HW_ => ?_)
   generalize w28.drew = w29 at BK108 BK109 BK111 BK113 HB hx120_0 hx120_1 hHeld ⊢
   refine p1_ HT_.out 0 46 spec_l03Bounds.d1 ?_
   refine p1_ HT_.out 2 48 spec_l03Bounds.d2 ?_
   refine p1_ HT_.out 3 49 spec_l03Bounds.d3 ?_
   refine p1_ HT_.out 4 50 spec_l03Bounds.d4 ?_
   refine p1_ HT_.out 5 51 spec_l03Bounds.d5 ?_
   refine take_ (i := 1) (N := some 47) (v := ?_) (a' := ?_) spec_l03Bounds.d6 rfl rfl (take_ofW HT_.out HW_.out (by kernel_rfl)) (fun _ _ _ h => h) (Or.inl ⟨by rfl, ?_⟩) hHeld ?_ ?_
   rotate_left
   · rintro w' ⟨s0, s1, s2, s3⟩
     go_simp
     with_reducible rfl
   rotate_left
   · simp only [Act.put, sA, sB, sC, i64_w, i32_w]
     rfl
   refine take_ (i := 6) (N := some 52) (v := ?_) (a' := ?_) spec_l03Bounds.d7 rfl rfl (take_ofW HT_.out HW_.out (by kernel_rfl)) (fun _ _ _ h => h) (Or.inl ⟨by rfl, ?_⟩) hHeld ?_ ?_
   rotate_left
   · rintro w' ⟨s0, s1, s2, s3⟩
     go_simp
     with_reducible rfl
   rotate_left
   · simp only [Act.put, sA, sB, sC, i64_w, i32_w]
     rfl
   refine one_ (i := 7) (N := some 53) spec_l03Bounds.d8 rfl rfl (one_of HT_.out (by kernel_rfl)) (by decide) (fun K hK => ?_)
   refine goes_ Try.func109 (by kernel_rfl) rfl #[.int .i64 x114001_1, .int .i64 ((rd_T105 l0 x6_1).f1)] (by rfl) rfl rfl (by (try simp only [List.map_toArray, List.map_cons, List.map_nil]); first | done | rfl | (simp only [List.length_drop, List.length_take]; rfl)) ?_
   with_reducible refine (spec_l00Max.calls x114001_1 ((rd_T105 l0 x6_1).f1) t121 _ A19.out).mono ?_
   rintro e w' ⟨rfl, ⟨nd, rfl⟩⟩
   refine ⟨_, rfl, ?_⟩
   (try (rw [drewN_self w29]; generalize hq_ : World.drewN w29 _ = w29; have n0_ := mkA (blk_at hq_ BK108.out); have n1_ := mkA (blk_at hq_ BK109.out); have n2_ := mkA (blk_at hq_ BK111.out); have n3_ := mkA (blk_at hq_ BK113.out); have n4_ := mkA (below_at hq_ HB.out); clear hq_ BK108 BK109 BK111 BK113 HB; have BK108 := n0_; have BK109 := n1_; have BK111 := n2_; have BK113 := n3_; have HB := n4_; clear n0_ n1_ n2_ n3_ n4_))
   refine hK.out _ _ ⟨(blk_cell BK113.out 0).trans rfl, (blk_cell BK113.out 1).trans rfl, (bc_ HB.out hw120_0 :), (bc_ HB.out hw120_1 :)⟩ (fun hHeld => ?_)
   clear hK K
   refine norm_ (a' := ?_) ?_ ?_
   rotate_left
   · show Act.put _ (some 53) _ = _
     simp only [Act.put, sA, sB, sC, i64_w, i32_w]
     rfl
   refine p1_ HT_.out 8 54 spec_l03Bounds.d9 ?_
   refine last_ (i := 9) (N := none) spec_l03Bounds.d10 rfl rfl (one_of HT_.out (by kernel_rfl)) (by decide) (fun K hK => ?_)
   have hs30 : w29.cell? ⟨gb113, 1, none⟩ = some (.int .i64 x114001_1) := (blk_cell BK113.out 1).trans rfl
   have hfs30 := blk_frozen BK113.out 1
   have hns30_0 := NB108_113.out
   have hns30_1 := NB109_113.out
   have hns30_2 := NB111_113.out
   have hms30_0 := NB113_108.out
   have hms30_1 := NB113_109.out
   have hms30_2 := NB113_111.out
   refine skip_ (w1 := ?_) (by rfl) rfl ?_ ?_
   rotate_left
   · go_simp
     rfl
   refine hK.out _ _ ?_
   clear hK K
   refine done_ (done_of HT_.out (by kernel_rfl)) ?_
   try go_wp2
   go_roundg k1
   case measure => have := HK1.out; omega
   case rel => exact ⟨(wrap64 (x6_1 + 1)), (t115), (t117), (t119), (t121), (by first | rfl | (simp; done) | (simp [*]; done) | (simp [i64_w, i32_w]; done)), H', ⟨by have := HK1.out; omega⟩, ⟨by (with_reducible repeat (first | refine blk_drewN ?_ _ | refine blk_drew ?_ | refine blk_alloc ?_ _)); refine blk_far ?_ NB108_113.out _; (with_reducible repeat (first | refine blk_drewN ?_ _ | refine blk_drew ?_ | refine blk_alloc ?_ _)); exact BK108.out⟩, ⟨by (with_reducible repeat (first | refine blk_drewN ?_ _ | refine blk_drew ?_ | refine blk_alloc ?_ _)); refine blk_far ?_ NB109_113.out _; (with_reducible repeat (first | refine blk_drewN ?_ _ | refine blk_drew ?_ | refine blk_alloc ?_ _)); exact BK109.out⟩, ⟨by (with_reducible repeat (first | refine blk_drewN ?_ _ | refine blk_drew ?_ | refine blk_alloc ?_ _)); refine blk_far ?_ NB111_113.out _; (with_reducible repeat (first | refine blk_drewN ?_ _ | refine blk_drew ?_ | refine blk_alloc ?_ _)); exact BK111.out⟩, ⟨by (with_reducible repeat (first | refine blk_drewN ?_ _ | refine blk_drew ?_ | refine blk_alloc ?_ _)); refine blk_put (cs := #[.int .i64 t119, .int .i64 x114001_1]) ?_ 1 _ rfl; (with_reducible repeat (first | refine blk_drewN ?_ _ | refine blk_drew ?_ | refine blk_alloc ?_ _)); exact BK113.out⟩, ⟨by repeat (first | (with_reducible first | exact HB.out | apply below_alloc | apply pw_below_drewN | apply below_drew1 | refine below_set ?_ GE108.out | refine below_set ?_ GE109.out | refine below_set ?_ GE111.out | refine below_set ?_ GE113.out) | exact HB.out)⟩⟩
end Go.Proofs.Ytakagkflgkoiiaa.GFnExactTurnsOfPiece

-- Written by the session's own program (gen.py) out of the translation's print. Lean checks it.
import Derived.Test.YtakagkflgkoiiaaQ
import Derived.Test.YtakagkflgkoiiaaGFnExactIsCoverx0
namespace Go.Proofs.Ytakagkflgkoiiaa.GFnExactIsCover
open Go.RowKit Go.Proofs.YtakagkflgkoiiaaW.PrintWords Go.Proofs.YtakagkflgkoiiaaW.PrintLast Go.Proofs.YtakagkflgkoiiaaW.PrintMore
open List renaming setIfInBounds_toArray → sA, set_cons_zero → sB, set_cons_succ → sC
open Go.Proofs.YtakagkflgkoiiaaW.PrintWords.Aside0 renaming mk → mkA
open Go.Proofs.YtakagkflgkoiiaaX (dt_ bc_ p0_ p1_ bl_ cb_ bs0_ bs1_ bs2_ bs3_ bs4_ bs5_ bs6_ bs7_ bs8_ bs9_ bs10_ bs11_ bs12_)
open Go.Proofs.YtakagkflgkoiiaaQ
attribute [local go_sem] max2_int min2_int max_two min_two max_three min_three max_four min_four 
set_option linter.unusedVariables false
set_option linter.unusedSimpArgs false

/-! ### spec_l02Turned: function 110 -/
mutual
def spec_l02Turned.j0 : Nat → Int → Int → Int → Option (Int × Int)
  | 0, _, _, _ => none
  | k + 1, x1, x240000, x240001 => spec_l02Turned.l0 k (Int.tmod x1 4) x240000 x240001
def spec_l02Turned.l0 : Nat → Int → Int → Int → Option (Int × Int)
  | 0, _, _, _ => none
  | k + 1, x5, x240000, x240001 => if x5 > 0 then (spec_l02Turned.l0 k (wrap64 (x5 - 1)) (wrap64 (-x240001)) x240000) else (some (x240000, x240001))
end
def spec_l02Turned.f (k : Nat) (a0_0 : Int) (a0_1 : Int) (a1 : Int) : Option (Int × Int) := if a1 ≥ 4 then (spec_l02Turned.j0 k a1 (wrap64 (-a0_0)) a0_1) else (spec_l02Turned.j0 k a1 a0_0 a0_1)
set_option maxHeartbeats 8000000 in
set_option maxRecDepth 100000 in
theorem spec_l02Turned.calls (k : Nat) (a0_0 : Int) (a0_1 : Int) (a1 : Int) (r1 : Int) (r2 : Int) (w : World) (h : spec_l02Turned.f k a0_0 a0_1 a1 = some (r1, r2)) :
 Calls Try.prog 110 #[.agg #[.int .i64 a0_0, .int .i64 a0_1], .int .i64 a1] w fun e w' => e = .returned (.agg #[.int .i64 r1, .int .i64 r2]) ∧ Below w.heap.size w w' := by
 have hu105 := Try.underlying105
 have HB := mkA (Below.refl w.heap.size w)
 unfold spec_l02Turned.f at h
 have H := h
 clear h
 have HC3 := mkA H
 clear H
 go_enter Try.func110, Try.ntmps110
 go_upto_if 7 with (first | ((with_reducible refine gt_ 2 ?_); refine bx_ 2 #[.int .i64 a0_0, .int .i64 a0_1] 105 fun gb239 hg w4 hbox hb => ?_; have BK239 := mkA (hbox); have GW239 := gs_ hg (bs0_ HB.out); have GE239 := GW239; replace HB := mkA (below_step (bs0_ HB.out) hb); clear hb hbox hg) | ((with_reducible refine gt_ 4 ?_); refine bx_ 4 #[.int .i64 0, .int .i64 0] 105 fun gb240 hg w5 hbox hb => ?_; have BK240 := mkA (hbox); have GW240 := gs_ hg (bs1_ HB.out GE239.out); have GE240 := GW240; replace HB := mkA (below_step (bs1_ HB.out GE239.out) hb); have NB239_240 := nl_ hg (bl_ BK239.out); have NB240_239 := nr_ hg (bl_ BK239.out); replace BK239 := mkA (blk_below (bl_ BK239.out) hb); clear hb hbox hg))
 (try simp only [Act.put, sA, sB, sC])
 go_cut [] (fun wc => ∃ (kq : Nat) (x240000_2 : Int) (x240001_2 : Int), Aside0 (spec_l02Turned.j0 kq a1 x240000_2 x240001_2 = some (r1, r2)) ∧ Aside0 (kq ≤ k) ∧ Aside0 (wc.heap[gb239]? = some (.cells #[.int .i64 x240000_2, .int .i64 x240001_2] 105 (0, 0))) ∧ Aside0 (wc.heap[gb240]? = some (.cells #[.int .i64 0, .int .i64 0] 105 (0, 0))) ∧ Aside0 (Below w.heap.size w wc))
 case first =>
  have H := HC3.out
  clear HC3
  by_cases c6 : a1 ≥ 4
  rotate_left
  · rw [if_neg c6] at H
    have c6b0 := decide_eq_false c6
    clear c6
    (first | rw [c6b0] | (simp only [i64_w, i32_w]; rw [c6b0]) | skip)
    have H' := mkA H
    clear H
    go_wp2
    go_meet
    case rel => exact ⟨_, (a0_0), (a0_1), H', ⟨by first | omega | exact Nat.le_refl _⟩, ⟨bl_ BK239.out⟩, ⟨bl_ BK240.out⟩, ⟨bs2_ HB.out GE239.out GE240.out⟩⟩
  rw [if_pos c6] at H
  have c6b0 := decide_eq_true c6
  clear c6
  (first | rw [c6b0] | (simp only [i64_w, i32_w]; rw [c6b0]) | skip)
  have H' := mkA H
  clear H
  have hnb7 := NB239_240.out
  have hnc7 := NB240_239.out
  obtain ⟨hcz8_0, hcz8_1, hfz8_0, hfz8_1⟩ := z2_ BK239.out
  go_wp2
  go_meet
  case rel => exact ⟨_, (wrap64 (-a0_0)), (a0_1), H', ⟨by first | omega | exact Nat.le_refl _⟩, ⟨by refine bl_ ?_; refine blk_put (cs := #[.int .i64 (wrap64 (-a0_0)), .int .i64 a0_1]) ?_ 1 _ rfl; refine bl_ ?_; refine blk_put (cs := #[.int .i64 a0_0, .int .i64 a0_1]) ?_ 0 _ rfl; refine bl_ ?_; exact BK239.out⟩, ⟨by refine bl_ ?_; refine blk_far ?_ NB240_239.out _; refine bl_ ?_; refine blk_far ?_ NB240_239.out _; refine bl_ ?_; exact BK240.out⟩, ⟨bs2_ HB.out GE239.out GE240.out⟩⟩
 case rest =>
  clear HC3
  try clear c6 c6b0
  try clear hcz8_0 hcz8_1
  try clear hfz8_0 hfz8_1
  obtain ⟨kq, x240000_2, x240001_2, HA, HJ2, BK239, BK240, HB⟩ := hcut
  cases kq with
  | zero => exact absurd HA.out (by simp [spec_l02Turned.j0])
  | succ kj2 =>
   have H := HA.out
   clear HA
   simp only [spec_l02Turned.j0] at H
   have H' := mkA H
   clear H
   go_wp2
   go_loopg [5] kj2 (fun kq v5 w' => ∃ (x5_2 : Int) (x240000_2 : Int) (x240001_2 : Int), v5 = .int .i64 x5_2 ∧ Aside0 (spec_l02Turned.l0 kq x5_2 x240000_2 x240001_2 = some (r1, r2)) ∧ Aside0 (kq ≤ kj2) ∧ Aside0 (w'.heap[gb239]? = some (.cells #[.int .i64 x240000_2, .int .i64 x240001_2] 105 (0, 0))) ∧ Aside0 (w'.heap[gb240]? = some (.cells #[.int .i64 0, .int .i64 0] 105 (0, 0))) ∧ Aside0 (Below w.heap.size w w'))
   case atStart => exact ⟨(Int.tmod a1 4), (x240000_2), (x240001_2), rf_, H', ⟨Nat.le_refl _⟩, ⟨bl_ BK239.out⟩, ⟨bl_ BK240.out⟩, ⟨bs2_ HB.out GE239.out GE240.out⟩⟩
   case round =>
    clear H'
    try clear c6 c6b0
    try clear hcz8_0 hcz8_1
    try clear hfz8_0 hfz8_1
    obtain ⟨x5_2, x240000_2, x240001_2, rfl, HA, HK2, BK239, BK240, HB⟩ := hrel
    cases gk with
    | zero => exact absurd HA.out (by simp [spec_l02Turned.l0])
    | succ k2 =>
     have H := HA.out
     clear HA
     simp only [spec_l02Turned.l0] at H
     by_cases c9 : x5_2 > 0
     · rw [if_pos c9] at H
       have c9b0 := decide_eq_true c9
       clear c9
       have H' := mkA H
       clear H
       have hnb10 := NB239_240.out
       have hnc10 := NB240_239.out
       obtain ⟨hcz11_0, hcz11_1, hfz11_0, hfz11_1⟩ := z2_ BK239.out
       go_wp2
       go_roundg k2
       case measure => have := HJ2.out; have := HK2.out; omega
       case rel => exact ⟨(wrap64 (x5_2 - 1)), (wrap64 (-x240001_2)), (x240000_2), rf_, H', ⟨on2_ HJ2.out HK2.out⟩, ⟨by refine bl_ ?_; refine blk_put (cs := #[.int .i64 (wrap64 (-x240001_2)), .int .i64 x240001_2]) ?_ 1 _ rfl; refine bl_ ?_; refine blk_put (cs := #[.int .i64 x240000_2, .int .i64 x240001_2]) ?_ 0 _ rfl; refine bl_ ?_; exact BK239.out⟩, ⟨by refine bl_ ?_; refine blk_far ?_ NB240_239.out _; refine bl_ ?_; refine blk_far ?_ NB240_239.out _; refine bl_ ?_; exact BK240.out⟩, ⟨bs2_ HB.out GE239.out GE240.out⟩⟩
     · rw [if_neg c9] at H
       have c9b0 := decide_eq_false c9
       clear c9
       simp only [Option.some.injEq, Prod.mk.injEq] at H
       obtain ⟨rfl, rfl⟩ := H
       have hnb12 := NB239_240.out
       have hnc12 := NB240_239.out
       obtain ⟨hcz13_0, hcz13_1, hfz13_0, hfz13_1⟩ := z2_ BK239.out
       obtain ⟨hcz14_0, hcz14_1, hfz14_0, hfz14_1⟩ := z2_ BK240.out
       go_wp2
       refine bodyPost_ret (results_cell_row rfl _ _ gb240 105 #[.int .i64 x240000_2, .int .i64 x240001_2] (0, 0) _ rfl (by refine bl_ ?_; refine blk_put (cs := #[.int .i64 x240000_2, .int .i64 0]) ?_ 1 _ rfl; refine bl_ ?_; refine blk_put (cs := #[.int .i64 0, .int .i64 0]) ?_ 0 _ rfl; refine bl_ ?_; exact BK240.out) Try.underlying105 rfl (by kernel_rfl)) rfl ?_
       exact ⟨re_, bs2_ HB.out GE239.out GE240.out⟩
end Go.Proofs.Ytakagkflgkoiiaa.GFnExactIsCover

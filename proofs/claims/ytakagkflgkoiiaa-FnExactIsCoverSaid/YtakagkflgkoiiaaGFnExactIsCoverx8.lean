-- Written by the session's own program (gen.py) out of the translation's print. Lean checks it.
import Derived.Test.YtakagkflgkoiiaaQ
import Derived.Test.YtakagkflgkoiiaaGFnExactIsCoverx0
import Derived.Test.YtakagkflgkoiiaaGFnExactIsCoverx7
namespace Go.Proofs.Ytakagkflgkoiiaa.GFnExactIsCover
open Go.RowKit Go.Proofs.YtakagkflgkoiiaaW.PrintWords Go.Proofs.YtakagkflgkoiiaaW.PrintLast Go.Proofs.YtakagkflgkoiiaaW.PrintMore
open List renaming setIfInBounds_toArray → sA, set_cons_zero → sB, set_cons_succ → sC
open Go.Proofs.YtakagkflgkoiiaaW.PrintWords.Aside0 renaming mk → mkA
open Go.Proofs.YtakagkflgkoiiaaX (dt_ bc_ p0_ p1_ bl_ cb_ bs0_ bs1_ bs2_ bs3_ bs4_ bs5_ bs6_ bs7_ bs8_ bs9_ bs10_ bs11_ bs12_)
open Go.Proofs.YtakagkflgkoiiaaQ
attribute [local go_sem] max2_int min2_int max_two min_two max_three min_three max_four min_four 
set_option linter.unusedVariables false
set_option linter.unusedSimpArgs false

/-! ### spec_l03Bounds: function 93 -/
def spec_l03Bounds.l0 : Nat → List (S105) → Int → Int → Int → Int → Int → Option (Int × Int × Int × Int)
  | 0, _, _, _, _, _, _ => none
  | k + 1, x0, x6, x198000, x198001, x200000, x200001 => if x6 < (x0.length : Int) then (if 0 ≤ x6 then ((spec_l00Min.f x198000 ((rd_T105 x0 x6).f0)).bind fun t201 => ((spec_l00Min.f x198001 ((rd_T105 x0 x6).f1)).bind fun t203 => ((spec_l00Max.f x200000 ((rd_T105 x0 x6).f0)).bind fun t205 => ((spec_l00Max.f x200001 ((rd_T105 x0 x6).f1)).bind fun t207 => (spec_l03Bounds.l0 k x0 (wrap64 (x6 + 1)) t201 t203 t205 t207))))) else (none)) else (some (x198000, x198001, x200000, x200001))
def spec_l03Bounds.f (k : Nat) (l0 : List (S105)) : Option (Int × Int × Int × Int) := if 0 < (l0.length : Int) then (spec_l03Bounds.l0 k l0 1 ((rd_T105 l0 0).f0) ((rd_T105 l0 0).f1) ((rd_T105 l0 0).f0) ((rd_T105 l0 0).f1)) else (none)
def spec_l03Bounds.T6 : Bool × List (List Nat × List Nat) := (true, [([], []), ([0], [0]), ([], []), ([], []), ([2, 3], [2, 3]), ([4], [4]), ([5], [5]), ([1, 6], [1, 6]), ([0, 1, 2, 3, 4, 5, 6, 7], []), ([8, 7, 7, 0, 1, 2, 3, 4, 5, 6, 7], [7, 8])])
def spec_l03Bounds.B6 : List Nat := [0, 1, 0, 0, 12, 28, 60, 127, 255, 511]
theorem spec_l03Bounds.tab6 : rtab .any (opsOf Try.f93 6) = spec_l03Bounds.T6 := by kernel_rfl
theorem spec_l03Bounds.bits6 : waitsOk spec_l03Bounds.T6.2 spec_l03Bounds.B6 = true := by kernel_rfl
def spec_l03Bounds.T7 : Bool × List (List Nat × List Nat) := (true, [([], []), ([0], [0]), ([], []), ([], []), ([2, 3], [2, 3]), ([4], [4]), ([5], [5]), ([1, 6], [1, 6]), ([0, 1, 2, 3, 4, 5, 6, 7], []), ([8, 7, 7, 0, 1, 2, 3, 4, 5, 6, 7], [7, 8])])
def spec_l03Bounds.B7 : List Nat := [0, 1, 0, 0, 12, 28, 60, 127, 255, 511]
theorem spec_l03Bounds.tab7 : rtab .any (opsOf Try.f93 7) = spec_l03Bounds.T7 := by kernel_rfl
theorem spec_l03Bounds.bits7 : waitsOk spec_l03Bounds.T7.2 spec_l03Bounds.B7 = true := by kernel_rfl
def spec_l03Bounds.T8 : Bool × List (List Nat × List Nat) := (true, [([], []), ([0], [0]), ([], []), ([], []), ([2, 3], [2, 3]), ([4], [4]), ([5], [5]), ([1, 6], [1, 6]), ([0, 1, 2, 3, 4, 5, 6, 7], []), ([8, 7, 7, 0, 1, 2, 3, 4, 5, 6, 7], [7, 8])])
def spec_l03Bounds.B8 : List Nat := [0, 1, 0, 0, 12, 28, 60, 127, 255, 511]
theorem spec_l03Bounds.tab8 : rtab .any (opsOf Try.f93 8) = spec_l03Bounds.T8 := by kernel_rfl
theorem spec_l03Bounds.bits8 : waitsOk spec_l03Bounds.T8.2 spec_l03Bounds.B8 = true := by kernel_rfl
def spec_l03Bounds.T9 : Bool × List (List Nat × List Nat) := (true, [([], []), ([0], [0]), ([], []), ([], []), ([2, 3], [2, 3]), ([4], [4]), ([5], [5]), ([1, 6], [1, 6]), ([0, 1, 2, 3, 4, 5, 6, 7], []), ([8, 7, 7, 0, 1, 2, 3, 4, 5, 6, 7], [7, 8])])
def spec_l03Bounds.B9 : List Nat := [0, 1, 0, 0, 12, 28, 60, 127, 255, 511]
theorem spec_l03Bounds.tab9 : rtab .any (opsOf Try.f93 9) = spec_l03Bounds.T9 := by kernel_rfl
theorem spec_l03Bounds.bits9 : waitsOk spec_l03Bounds.T9.2 spec_l03Bounds.B9 = true := by kernel_rfl
set_option maxHeartbeats 8000000 in
set_option maxRecDepth 100000 in
theorem spec_l03Bounds.calls (k : Nat) (A0 : Option Addr) (c0 : Nat) (l0 : List (S105)) (r1 : Int) (r2 : Int) (r3 : Int) (r4 : Int) (w : World) (hr0 : Kd.C k105 w A0 l0.length l0) (hc0 : l0.length ≤ c0) (h : spec_l03Bounds.f k l0 = some (r1, r2, r3, r4)) :
 Calls Try.prog 93 #[.slice A0 l0.length c0] w fun e w' => e = .returned (.tuple #[.agg #[.int .i64 r1, .int .i64 r2], .agg #[.int .i64 r3, .int .i64 r4]]) ∧ Below w.heap.size w w' := by
 have hu105 := Try.underlying105
 have HR0 := mkA hr0
 have HC0 := mkA hc0
 clear hr0 hc0
 have HB := mkA (Below.refl w.heap.size w)
 unfold spec_l03Bounds.f at h
 have H := h
 clear h
 revert H
 refine ng_ fun c2 => ?_
 intro H
 have c2b0 := decide_eq_true c2
 have c2b1 : decide (0 < l0.length) = true := decide_eq_true (by omega)
 clear c2
 have H' := mkA H
 clear H
 go_enter Try.func93, Try.ntmps93
 go_wp2_with (first | ((with_reducible refine gt_ 2 ?_); refine bx_ 2 #[.int .i64 0, .int .i64 0] 105 fun gb194 hg w3 hbox hb => ?_; have BK194 := mkA (hbox); have GW194 := gs_ hg (bs0_ HB.out); have GE194 := GW194; replace HB := mkA (below_step (bs0_ HB.out) hb); clear hb hbox hg) | ((with_reducible refine gt_ 3 ?_); refine bx_ 3 #[.int .i64 0, .int .i64 0] 105 fun gb195 hg w4 hbox hb => ?_; have BK195 := mkA (hbox); have GW195 := gs_ hg (bs1_ HB.out GE194.out); have GE195 := GW195; replace HB := mkA (below_step (bs1_ HB.out GE194.out) hb); have NB194_195 := nl_ hg (bl_ BK194.out); have NB195_194 := nr_ hg (bl_ BK194.out); replace BK194 := mkA (blk_below (bl_ BK194.out) hb); clear hb hbox hg; have p196 : 0 ≤ (0 : Int) := (by omega); have q196 : 0 < (l0.length : Int) := dt_; obtain ⟨ad196, e196, hx196_0, hx196_1⟩ := at_T105 HR0.out 0 p196 q196; cases e196; have qi196 : (0 < l0.length) = True := eq_true (by omega); (try rw [show ((0 : Int)).toNat = 0 from rfl] at hx196_0); (try rw [show 0 * 2 = 0 from rfl] at hx196_0); (try rw [Addr.add_zero'] at hx196_0); (try rw [show ((0 : Int)).toNat = 0 from rfl] at hx196_1); (try rw [show 0 * 2 = 0 from rfl] at hx196_1); (try rw [Addr.add_zero'] at hx196_1); replace hx196_0 := bc_ HB.out hx196_0; replace hx196_1 := bc_ HB.out hx196_1; replace p196 := eq_true p196; replace q196 := eq_true q196) | ((with_reducible refine gt_ 4 ?_); refine bx_ 4 #[.int .i64 0, .int .i64 0] 105 fun gb197 hg w5 hbox hb => ?_; have BK197 := mkA (hbox); have GW197 := gs_ hg (bs2_ HB.out GE194.out GE195.out); have GE197 := GW197; replace HB := mkA (below_step (bs2_ HB.out GE194.out GE195.out) hb); have NB194_197 := nl_ hg (bl_ BK194.out); have NB197_194 := nr_ hg (bl_ BK194.out); replace BK194 := mkA (blk_below (bl_ BK194.out) hb); have NB195_197 := nl_ hg (bl_ BK195.out); have NB197_195 := nr_ hg (bl_ BK195.out); replace BK195 := mkA (blk_below (bl_ BK195.out) hb); clear hb hbox hg; have hnb6 := NB197_194.out; have hnc6 := NB194_197.out; have hnb7 := NB197_195.out; have hnc7 := NB195_197.out; obtain ⟨hcz8_0, hcz8_1, hfz8_0, hfz8_1⟩ := z2_ BK197.out; have p198 : 0 ≤ (0 : Int) := (by omega); have q198 : 0 < (l0.length : Int) := dt_; obtain ⟨ad198, e198, hx198_0, hx198_1⟩ := at_T105 HR0.out 0 p198 q198; obtain rfl : ad196 = ad198 := (by injection e198); have qi198 : (0 < l0.length) = True := eq_true (by omega); (try rw [show ((0 : Int)).toNat = 0 from rfl] at hx198_0); (try rw [show 0 * 2 = 0 from rfl] at hx198_0); (try rw [Addr.add_zero'] at hx198_0); (try rw [show ((0 : Int)).toNat = 0 from rfl] at hx198_1); (try rw [show 0 * 2 = 0 from rfl] at hx198_1); (try rw [Addr.add_zero'] at hx198_1); have hn198_0 : ad196.block ≠ gb197 := Nat.ne_of_lt (Nat.lt_of_lt_of_le (by have := World.block_lt_of_cell? _ _ hx198_0; first | rwa [add_block] at this | exact this) GW197.out); have hn198_1 : ad196.block ≠ gb197 := Nat.ne_of_lt (Nat.lt_of_lt_of_le (by have := World.block_lt_of_cell? _ _ hx198_0; first | rwa [add_block] at this | exact this) GW197.out); replace hx198_0 := bc_ HB.out hx198_0; replace hx198_1 := bc_ HB.out hx198_1; replace hx198_0 := (cell_far (p := ⟨gb197, 0, none⟩) (by first | (rw [add_block]; exact hn198_0) | (show (Addr.add _ _).block ≠ _; rw [add_block]; exact hn198_0) | exact hn198_0) (.int .i64 ((rd_T105 l0 0).f0))).trans hx198_0; replace hx198_1 := (cell_far (p := ⟨gb197, 0, none⟩) (by first | (rw [add_block]; exact hn198_0) | (show (Addr.add _ _).block ≠ _; rw [add_block]; exact hn198_0) | exact hn198_0) (.int .i64 ((rd_T105 l0 0).f0))).trans hx198_1; replace hx198_0 := (cell_far (p := ⟨gb197, 1, none⟩) (by first | (rw [add_block]; exact hn198_1) | (show (Addr.add _ _).block ≠ _; rw [add_block]; exact hn198_1) | exact hn198_1) (.int .i64 ((rd_T105 l0 0).f1))).trans hx198_0; replace hx198_1 := (cell_far (p := ⟨gb197, 1, none⟩) (by first | (rw [add_block]; exact hn198_1) | (show (Addr.add _ _).block ≠ _; rw [add_block]; exact hn198_1) | exact hn198_1) (.int .i64 ((rd_T105 l0 0).f1))).trans hx198_1; clear hn198_0; clear hn198_1; replace p198 := eq_true p198; replace q198 := eq_true q198) | ((with_reducible refine gt_ 5 ?_); refine bx_ 5 #[.int .i64 0, .int .i64 0] 105 fun gb199 hg w9 hbox hb => ?_; have BK199 := mkA (hbox); have GW199 := gs_ hg (bs3_ HB.out GE194.out GE195.out GE197.out); have GE199 := GW199; replace HB := mkA (below_step (bs3_ HB.out GE194.out GE195.out GE197.out) hb); have NB194_199 := mkA ((by rw [hg]; exact Nat.ne_of_lt (blk_lt (g := gb194) (o := .cells #[.int .i64 0, .int .i64 0] 105 (0, 0)) (by refine bl_ ?_; refine blk_far ?_ NB194_197.out _; refine bl_ ?_; refine blk_far ?_ NB194_197.out _; refine bl_ ?_; exact BK194.out)) : gb194 ≠ gb199)); have NB199_194 := mkA ((by rw [hg]; exact Nat.ne_of_gt (blk_lt (g := gb194) (o := .cells #[.int .i64 0, .int .i64 0] 105 (0, 0)) (by refine bl_ ?_; refine blk_far ?_ NB194_197.out _; refine bl_ ?_; refine blk_far ?_ NB194_197.out _; refine bl_ ?_; exact BK194.out)) : gb199 ≠ gb194)); replace BK194 := mkA (blk_below (g := gb194) (o := .cells #[.int .i64 0, .int .i64 0] 105 (0, 0)) (by refine bl_ ?_; refine blk_far ?_ NB194_197.out _; refine bl_ ?_; refine blk_far ?_ NB194_197.out _; refine bl_ ?_; exact BK194.out) hb); have NB195_199 := mkA ((by rw [hg]; exact Nat.ne_of_lt (blk_lt (g := gb195) (o := .cells #[.int .i64 0, .int .i64 0] 105 (0, 0)) (by refine bl_ ?_; refine blk_far ?_ NB195_197.out _; refine bl_ ?_; refine blk_far ?_ NB195_197.out _; refine bl_ ?_; exact BK195.out)) : gb195 ≠ gb199)); have NB199_195 := mkA ((by rw [hg]; exact Nat.ne_of_gt (blk_lt (g := gb195) (o := .cells #[.int .i64 0, .int .i64 0] 105 (0, 0)) (by refine bl_ ?_; refine blk_far ?_ NB195_197.out _; refine bl_ ?_; refine blk_far ?_ NB195_197.out _; refine bl_ ?_; exact BK195.out)) : gb199 ≠ gb195)); replace BK195 := mkA (blk_below (g := gb195) (o := .cells #[.int .i64 0, .int .i64 0] 105 (0, 0)) (by refine bl_ ?_; refine blk_far ?_ NB195_197.out _; refine bl_ ?_; refine blk_far ?_ NB195_197.out _; refine bl_ ?_; exact BK195.out) hb); have NB197_199 := mkA ((by rw [hg]; exact Nat.ne_of_lt (blk_lt (g := gb197) (o := .cells #[.int .i64 ((rd_T105 l0 0).f0), .int .i64 ((rd_T105 l0 0).f1)] 105 (0, 0)) (by refine bl_ ?_; refine blk_put (cs := #[.int .i64 ((rd_T105 l0 0).f0), .int .i64 0]) ?_ 1 _ rfl; refine bl_ ?_; refine blk_put (cs := #[.int .i64 0, .int .i64 0]) ?_ 0 _ rfl; refine bl_ ?_; exact BK197.out)) : gb197 ≠ gb199)); have NB199_197 := mkA ((by rw [hg]; exact Nat.ne_of_gt (blk_lt (g := gb197) (o := .cells #[.int .i64 ((rd_T105 l0 0).f0), .int .i64 ((rd_T105 l0 0).f1)] 105 (0, 0)) (by refine bl_ ?_; refine blk_put (cs := #[.int .i64 ((rd_T105 l0 0).f0), .int .i64 0]) ?_ 1 _ rfl; refine bl_ ?_; refine blk_put (cs := #[.int .i64 0, .int .i64 0]) ?_ 0 _ rfl; refine bl_ ?_; exact BK197.out)) : gb199 ≠ gb197)); replace BK197 := mkA (blk_below (g := gb197) (o := .cells #[.int .i64 ((rd_T105 l0 0).f0), .int .i64 ((rd_T105 l0 0).f1)] 105 (0, 0)) (by refine bl_ ?_; refine blk_put (cs := #[.int .i64 ((rd_T105 l0 0).f0), .int .i64 0]) ?_ 1 _ rfl; refine bl_ ?_; refine blk_put (cs := #[.int .i64 0, .int .i64 0]) ?_ 0 _ rfl; refine bl_ ?_; exact BK197.out) hb); clear hb hbox hg; have hnb10 := NB199_194.out; have hnc10 := NB194_199.out; have hnb11 := NB199_195.out; have hnc11 := NB195_199.out; have hnb12 := NB199_197.out; have hnc12 := NB197_199.out; obtain ⟨hcz13_0, hcz13_1, hfz13_0, hfz13_1⟩ := z2_ BK199.out))
 go_loopg [6] k (fun kq v6 w' => ∃ (x6_1 : Int) (x198000_1 : Int) (x198001_1 : Int) (x200000_1 : Int) (x200001_1 : Int), v6 = .int .i64 x6_1 ∧ Aside0 (spec_l03Bounds.l0 kq l0 x6_1 x198000_1 x198001_1 x200000_1 x200001_1 = some (r1, r2, r3, r4)) ∧ Aside0 (kq ≤ k) ∧ Aside0 (w'.heap[gb194]? = some (.cells #[.int .i64 0, .int .i64 0] 105 (0, 0))) ∧ Aside0 (w'.heap[gb195]? = some (.cells #[.int .i64 0, .int .i64 0] 105 (0, 0))) ∧ Aside0 (w'.heap[gb197]? = some (.cells #[.int .i64 x198000_1, .int .i64 x198001_1] 105 (0, 0))) ∧ Aside0 (w'.heap[gb199]? = some (.cells #[.int .i64 x200000_1, .int .i64 x200001_1] 105 (0, 0))) ∧ Aside0 (Below w.heap.size w w'))
 case atStart => exact ⟨(1), ((rd_T105 l0 0).f0), ((rd_T105 l0 0).f1), ((rd_T105 l0 0).f0), ((rd_T105 l0 0).f1), rf_, H', ⟨Nat.le_refl _⟩, ⟨by refine bl_ ?_; refine blk_far ?_ NB194_199.out _; refine bl_ ?_; refine blk_far ?_ NB194_199.out _; refine bl_ ?_; exact BK194.out⟩, ⟨by refine bl_ ?_; refine blk_far ?_ NB195_199.out _; refine bl_ ?_; refine blk_far ?_ NB195_199.out _; refine bl_ ?_; exact BK195.out⟩, ⟨by refine bl_ ?_; refine blk_far ?_ NB197_199.out _; refine bl_ ?_; refine blk_far ?_ NB197_199.out _; refine bl_ ?_; exact BK197.out⟩, ⟨by refine bl_ ?_; refine blk_put (cs := #[.int .i64 ((rd_T105 l0 0).f0), .int .i64 0]) ?_ 1 _ rfl; refine bl_ ?_; refine blk_put (cs := #[.int .i64 0, .int .i64 0]) ?_ 0 _ rfl; refine bl_ ?_; exact BK199.out⟩, ⟨bs4_ HB.out GE194.out GE195.out GE197.out GE199.out⟩⟩
 case round =>
  clear H'
  try clear c2 c2b0 c2b1
  try clear hcz13_0 hcz13_1 hcz8_0 hcz8_1
  try clear hfz13_0 hfz13_1 hfz8_0 hfz8_1
  try clear hx196_0 hx196_1 hx198_0 hx198_1
  try clear p196 p198
  try clear q196 q198
  obtain ⟨x6_1, x198000_1, x198001_1, x200000_1, x200001_1, rfl, HA, HK1, BK194, BK195, BK197, BK199, HB⟩ := hrel
  cases gk with
  | zero => exact absurd HA.out (by simp [spec_l03Bounds.l0])
  | succ k1 =>
   have H := HA.out
   clear HA
   simp only [spec_l03Bounds.l0] at H
   by_cases c14 : x6_1 < (l0.length : Int)
   rotate_left
   · rw [if_neg c14] at H
     have c14b0 := decide_eq_false c14
     clear c14
     simp only [Option.some.injEq, Prod.mk.injEq] at H
     obtain ⟨rfl, rfl, rfl, rfl⟩ := H
     try go_wp2
     replace BK194 := mkA (blk_drew BK194.out)
     replace BK195 := mkA (blk_drew BK195.out)
     replace BK197 := mkA (blk_drew BK197.out)
     replace BK199 := mkA (blk_drew BK199.out)
     replace HB := mkA (below_drew1 HB.out)
     refine start_ (n := 4) (S := fun w' => w'.cell? ⟨gb197, 0, none⟩ = some (.int .i64 x198000_1) ∧ w'.cell? ⟨gb197, 1, none⟩ = some (.int .i64 x198001_1) ∧ w'.cell? ⟨gb199, 0, none⟩ = some (.int .i64 x200000_1) ∧ w'.cell? ⟨gb199, 1, none⟩ = some (.int .i64 x200001_1)) (ds := []) (fA 4 0) (by kernel_rfl) rfl rfl ⟨(blk_cell BK197.out 0).trans rfl, (blk_cell BK197.out 1).trans rfl, (blk_cell BK199.out 0).trans rfl, (blk_cell BK199.out 1).trans rfl⟩ (fun hHeld => ?_)
     generalize wr.drew = w31 at BK194 BK195 BK197 BK199 HB hHeld ⊢
     refine take_ (i := 0) (N := some 55) (v := ?_) (a' := ?_) (fA 4 1) rfl rfl (by kernel_rfl) (fun _ _ _ h => h) (Or.inl ⟨by rfl, ?_⟩) hHeld ?_ ?_
     rotate_left
     · rintro w' ⟨s0, s1, s2, s3⟩
       (try simp only [C_] at s0 s1 s2 s3)
       go_simp
       with_reducible rfl
     rotate_left
     · simp only [Act.put, sA, sB, sC, i64_w, i32_w]
       rfl
     refine take_ (i := 1) (N := some 56) (v := ?_) (a' := ?_) (fA 4 3) rfl rfl (by kernel_rfl) (fun _ _ _ h => h) (Or.inl ⟨by rfl, ?_⟩) hHeld ?_ ?_
     rotate_left
     · rintro w' ⟨s0, s1, s2, s3⟩
       (try simp only [C_] at s0 s1 s2 s3)
       go_simp
       with_reducible rfl
     rotate_left
     · simp only [Act.put, sA, sB, sC, i64_w, i32_w]
       rfl
     refine one_ (i := 2) (N := none) (fA 4 7) rfl rfl (by kernel_rfl) (by decide) (fun K hK => ?_)
     have hs32 : w31.cell? ⟨gb194, 0, none⟩ = some (.int .i64 0) := (blk_cell BK194.out 0).trans rfl
     have hfs32 := blk_frozen BK194.out 0
     have hns32_1 := NB195_194.out
     have hns32_2 := NB197_194.out
     have hns32_3 := NB199_194.out
     have hms32_1 := NB194_195.out
     have hms32_2 := NB194_197.out
     have hms32_3 := NB194_199.out
     have hs33 : w31.cell? ⟨gb194, 1, none⟩ = some (.int .i64 0) := (blk_cell BK194.out 1).trans rfl
     have hfs33 := blk_frozen BK194.out 1
     have hns33_1 := NB195_194.out
     have hns33_2 := NB197_194.out
     have hns33_3 := NB199_194.out
     have hms33_1 := NB194_195.out
     have hms33_2 := NB194_197.out
     have hms33_3 := NB194_199.out
     refine skip_ (w1 := ?_) (by rfl) rfl ?_ ?_
     rotate_left
     · go_simp
       rfl
     refine hK.out _ _ ⟨((cell_far (p := ⟨gb194, _, none⟩) NB197_194.out _).trans (((cell_far (p := ⟨gb194, _, none⟩) NB197_194.out _).trans (hHeld.1)))), ((cell_far (p := ⟨gb194, _, none⟩) NB197_194.out _).trans (((cell_far (p := ⟨gb194, _, none⟩) NB197_194.out _).trans (hHeld.2.1)))), ((cell_far (p := ⟨gb194, _, none⟩) NB199_194.out _).trans (((cell_far (p := ⟨gb194, _, none⟩) NB199_194.out _).trans (hHeld.2.2.1)))), ((cell_far (p := ⟨gb194, _, none⟩) NB199_194.out _).trans (((cell_far (p := ⟨gb194, _, none⟩) NB199_194.out _).trans (hHeld.2.2.2))))⟩ (fun hHeld => ?_)
     clear hK K
     refine one_ (i := 3) (N := none) (fA 4 15) rfl rfl (by kernel_rfl) (by decide) (fun K hK => ?_)
     have hs34 : w31.cell? ⟨gb195, 0, none⟩ = some (.int .i64 0) := (blk_cell BK195.out 0).trans rfl
     have hfs34 := blk_frozen BK195.out 0
     have hns34_0 := NB194_195.out
     have hns34_2 := NB197_195.out
     have hns34_3 := NB199_195.out
     have hms34_0 := NB195_194.out
     have hms34_2 := NB195_197.out
     have hms34_3 := NB195_199.out
     have hs35 : w31.cell? ⟨gb195, 1, none⟩ = some (.int .i64 0) := (blk_cell BK195.out 1).trans rfl
     have hfs35 := blk_frozen BK195.out 1
     have hns35_0 := NB194_195.out
     have hns35_2 := NB197_195.out
     have hns35_3 := NB199_195.out
     have hms35_0 := NB195_194.out
     have hms35_2 := NB195_197.out
     have hms35_3 := NB195_199.out
     refine skip_ (w1 := ?_) (by rfl) rfl ?_ ?_
     rotate_left
     · go_simp
       rfl
     refine hK.out _ _ ⟨((cell_far (p := ⟨gb195, _, none⟩) NB197_195.out _).trans (((cell_far (p := ⟨gb195, _, none⟩) NB197_195.out _).trans (hHeld.1)))), ((cell_far (p := ⟨gb195, _, none⟩) NB197_195.out _).trans (((cell_far (p := ⟨gb195, _, none⟩) NB197_195.out _).trans (hHeld.2.1)))), ((cell_far (p := ⟨gb195, _, none⟩) NB199_195.out _).trans (((cell_far (p := ⟨gb195, _, none⟩) NB199_195.out _).trans (hHeld.2.2.1)))), ((cell_far (p := ⟨gb195, _, none⟩) NB199_195.out _).trans (((cell_far (p := ⟨gb195, _, none⟩) NB199_195.out _).trans (hHeld.2.2.2))))⟩ (fun hHeld => ?_)
     clear hK K
     refine done_ (by kernel_rfl) ?_
     try go_wp2
     refine bodyPost_ret (results_cc rfl _ _ gb194 gb195 105 105 #[.int .i64 x198000_1, .int .i64 x198001_1] #[.int .i64 x200000_1, .int .i64 x200001_1] (0, 0) (0, 0) _ _ rfl (by refine bl_ ?_; refine blk_far ?_ NB194_195.out _; refine bl_ ?_; refine blk_far ?_ NB194_195.out _; refine bl_ ?_; refine blk_put (cs := #[.int .i64 x198000_1, .int .i64 0]) ?_ 1 _ rfl; refine bl_ ?_; refine blk_put (cs := #[.int .i64 0, .int .i64 0]) ?_ 0 _ rfl; refine bl_ ?_; exact BK194.out) Try.underlying105 rfl (by kernel_rfl) rfl (by refine bl_ ?_; refine blk_put (cs := #[.int .i64 x200000_1, .int .i64 0]) ?_ 1 _ rfl; refine bl_ ?_; refine blk_put (cs := #[.int .i64 0, .int .i64 0]) ?_ 0 _ rfl; refine bl_ ?_; refine blk_far ?_ NB195_194.out _; refine bl_ ?_; refine blk_far ?_ NB195_194.out _; refine bl_ ?_; exact BK195.out) Try.underlying105 rfl (by kernel_rfl)) rfl ?_
     exact ⟨re_, bs4_ HB.out GE194.out GE195.out GE197.out GE199.out⟩
   rw [if_pos c14] at H
   have c14b0 := decide_eq_true c14
   clear c14
   revert H
   refine ng_ fun c15 => ob_ fun t201 A16 => ob_ fun t203 A17 => ob_ fun t205 A18 => ob_ fun t207 A19 => ?_
   intro H
   have c15b0 := decide_eq_true c15
   clear c15
   have H' := mkA H
   clear H
   try go_wp2
   replace BK194 := mkA (blk_drew BK194.out)
   replace BK195 := mkA (blk_drew BK195.out)
   replace BK197 := mkA (blk_drew BK197.out)
   replace BK199 := mkA (blk_drew BK199.out)
   replace HB := mkA (below_drew1 HB.out)
   obtain ⟨ad200, e200, hw200_0, hw200_1⟩ := at_T105 HR0.out x6_1 dt_ dt_
   obtain rfl : ad196 = ad200 := (by injection e200)
   obtain ⟨hx200_0, hx200_1⟩ := b2_ HB.out hw200_0 hw200_1
   have p200 : (0 ≤ (x6_1 : Int)) = True := eq_true dt_
   have q200 : (x6_1 < (l0.length : Int)) = True := eq_true dt_
   refine st_ 10 (fun w' => w'.cell? ⟨gb197, 0, none⟩ = some (.int .i64 x198000_1) ∧ w'.cell? ⟨gb197, 1, none⟩ = some (.int .i64 x198001_1) ∧ C_ hw200_0 w' ∧ C_ hw200_1 w') [9] spec_l03Bounds.tab6 spec_l03Bounds.bits6 sp_ fun hHeld HT_ HW_ => ?_
   generalize wr.drew = w20 at BK194 BK195 BK197 BK199 HB hx200_0 hx200_1 hHeld ⊢
   refine a1_ 0 19 (h := a1_ 2 21 (h := a1_ 3 22 (h := a1_ 4 23 (h := a1_ 5 24 (h := tk_ 1 20 (h := tk_ 6 25 (h := ?_)))))))
   refine on_ 7 26 fun K hK => ?_
   refine go_ Try.func108 #[.int .i64 x198000_1, .int .i64 ((rd_T105 l0 x6_1).f0)] ?_
   with_reducible refine (spec_l00Min.calls x198000_1 ((rd_T105 l0 x6_1).f0) t201 _ A16.out).mono ?_
   rintro e w' ⟨rfl, ⟨nd, rfl⟩⟩
   refine ⟨_, rfl, ?_⟩
   (try (rw [drewN_self w20]; generalize hq_ : World.drewN w20 _ = w20; have n0_ := mkA (blk_at hq_ BK194.out); have n1_ := mkA (blk_at hq_ BK195.out); have n2_ := mkA (blk_at hq_ BK197.out); have n3_ := mkA (blk_at hq_ BK199.out); have n4_ := mkA (below_at hq_ HB.out); clear hq_ BK194 BK195 BK197 BK199 HB; have BK194 := n0_; have BK195 := n1_; have BK197 := n2_; have BK199 := n3_; have HB := n4_; clear n0_ n1_ n2_ n3_ n4_))
   refine hK.out _ _ sp_ fun hHeld => ?_
   clear hK K
   refine nm_ 26 ?_
   refine a1_ 8 27 (h := ?_)
   refine last_ (i := 9) (N := none) (fA 10 1023) rfl rfl (one_of HT_.out (by kernel_rfl)) (by decide) (fun K hK => ?_)
   have hs21 : w20.cell? ⟨gb197, 0, none⟩ = some (.int .i64 x198000_1) := (blk_cell BK197.out 0).trans rfl
   have hfs21 := blk_frozen BK197.out 0
   have hns21_0 := NB194_197.out
   have hns21_1 := NB195_197.out
   have hns21_3 := NB199_197.out
   have hms21_0 := NB197_194.out
   have hms21_1 := NB197_195.out
   have hms21_3 := NB197_199.out
   refine skip_ (w1 := ?_) (by rfl) rfl ?_ ?_
   rotate_left
   · go_simp
     rfl
   refine hK.out _ _ ?_
   clear hK K
   refine dn_ ?_
   try go_wp2
   have n0_ : Aside0 ((w20.setCell ⟨gb197, 0, none⟩ (.int .i64 t201)).heap[gb194]? = some (.cells #[.int .i64 0, .int .i64 0] 105 (0, 0))) := ⟨by refine bl_ ?_; refine blk_far ?_ NB194_197.out _; refine bl_ ?_; exact BK194.out⟩
   have n1_ : Aside0 ((w20.setCell ⟨gb197, 0, none⟩ (.int .i64 t201)).heap[gb195]? = some (.cells #[.int .i64 0, .int .i64 0] 105 (0, 0))) := ⟨by refine bl_ ?_; refine blk_far ?_ NB195_197.out _; refine bl_ ?_; exact BK195.out⟩
   have n2_ : Aside0 ((w20.setCell ⟨gb197, 0, none⟩ (.int .i64 t201)).heap[gb197]? = some (.cells #[.int .i64 t201, .int .i64 x198001_1] 105 (0, 0))) := ⟨by refine bl_ ?_; refine blk_put (cs := #[.int .i64 x198000_1, .int .i64 x198001_1]) ?_ 0 _ rfl; refine bl_ ?_; exact BK197.out⟩
   have n3_ : Aside0 ((w20.setCell ⟨gb197, 0, none⟩ (.int .i64 t201)).heap[gb199]? = some (.cells #[.int .i64 x200000_1, .int .i64 x200001_1] 105 (0, 0))) := ⟨by refine bl_ ?_; refine blk_far ?_ NB199_197.out _; refine bl_ ?_; exact BK199.out⟩
   have n4_ : Aside0 (Below w.heap.size w (w20.setCell ⟨gb197, 0, none⟩ (.int .i64 t201))) := ⟨bs4_ HB.out GE194.out GE195.out GE197.out GE199.out⟩
   (try clear BK194)
   (try clear BK195)
   (try clear BK197)
   (try clear BK199)
   (try clear HB)
   generalize (w20.setCell ⟨gb197, 0, none⟩ (.int .i64 t201)) = w22 at n0_ n1_ n2_ n3_ n4_ ⊢
   have BK194 := n0_
   have BK195 := n1_
   have BK197 := n2_
   have BK199 := n3_
   have HB := n4_
   clear n0_ n1_ n2_ n3_ n4_
   (try (rw [drewN_self w22]; generalize hq_ : World.drewN w22 _ = w22; have n0_ : Aside0 (w22.heap[gb194]? = some (.cells #[.int .i64 0, .int .i64 0] 105 (0, 0))) := ⟨by rw [← hq_]; exact (bl_ BK194.out)⟩; have n1_ : Aside0 (w22.heap[gb195]? = some (.cells #[.int .i64 0, .int .i64 0] 105 (0, 0))) := ⟨by rw [← hq_]; exact (bl_ BK195.out)⟩; have n2_ : Aside0 (w22.heap[gb197]? = some (.cells #[.int .i64 t201, .int .i64 x198001_1] 105 (0, 0))) := ⟨by rw [← hq_]; exact (bl_ BK197.out)⟩; have n3_ : Aside0 (w22.heap[gb199]? = some (.cells #[.int .i64 x200000_1, .int .i64 x200001_1] 105 (0, 0))) := ⟨by rw [← hq_]; exact (bl_ BK199.out)⟩; have n4_ : Aside0 (Below w.heap.size w w22) := ⟨by rw [← hq_]; exact (bs4_ HB.out GE194.out GE195.out GE197.out GE199.out)⟩; clear BK194 BK195 BK197 BK199 HB hq_; have BK194 := n0_; have BK195 := n1_; have BK197 := n2_; have BK199 := n3_; have HB := n4_; clear n0_ n1_ n2_ n3_ n4_))
   replace BK194 := mkA (blk_drew BK194.out)
   replace BK195 := mkA (blk_drew BK195.out)
   replace BK197 := mkA (blk_drew BK197.out)
   replace BK199 := mkA (blk_drew BK199.out)
   replace HB := mkA (below_drew1 HB.out)
   obtain ⟨ad202, e202, hw202_0, hw202_1⟩ := at_T105 HR0.out x6_1 dt_ dt_
   obtain rfl : ad196 = ad202 := (by injection e202)
   obtain ⟨hx202_0, hx202_1⟩ := b2_ HB.out hw202_0 hw202_1
   have p202 : (0 ≤ (x6_1 : Int)) = True := eq_true dt_
   have q202 : (x6_1 < (l0.length : Int)) = True := eq_true dt_
   refine st_ 10 (fun w' => w'.cell? ⟨gb197, 0, none⟩ = some (.int .i64 t201) ∧ w'.cell? ⟨gb197, 1, none⟩ = some (.int .i64 x198001_1) ∧ C_ hw202_0 w' ∧ C_ hw202_1 w') [9] spec_l03Bounds.tab7 spec_l03Bounds.bits7 sp_ fun hHeld HT_ HW_ => ?_
   generalize w22.drew = w23 at BK194 BK195 BK197 BK199 HB hx202_0 hx202_1 hHeld ⊢
   refine a1_ 0 28 (h := a1_ 2 30 (h := a1_ 3 31 (h := a1_ 4 32 (h := a1_ 5 33 (h := tk_ 1 29 (h := tk_ 6 34 (h := ?_)))))))
   refine on_ 7 35 fun K hK => ?_
   refine go_ Try.func108 #[.int .i64 x198001_1, .int .i64 ((rd_T105 l0 x6_1).f1)] ?_
   with_reducible refine (spec_l00Min.calls x198001_1 ((rd_T105 l0 x6_1).f1) t203 _ A17.out).mono ?_
   rintro e w' ⟨rfl, ⟨nd, rfl⟩⟩
   refine ⟨_, rfl, ?_⟩
   (try (rw [drewN_self w23]; generalize hq_ : World.drewN w23 _ = w23; have n0_ := mkA (blk_at hq_ BK194.out); have n1_ := mkA (blk_at hq_ BK195.out); have n2_ := mkA (blk_at hq_ BK197.out); have n3_ := mkA (blk_at hq_ BK199.out); have n4_ := mkA (below_at hq_ HB.out); clear hq_ BK194 BK195 BK197 BK199 HB; have BK194 := n0_; have BK195 := n1_; have BK197 := n2_; have BK199 := n3_; have HB := n4_; clear n0_ n1_ n2_ n3_ n4_))
   refine hK.out _ _ sp_ fun hHeld => ?_
   clear hK K
   refine nm_ 35 ?_
   refine a1_ 8 36 (h := ?_)
   refine last_ (i := 9) (N := none) (fA 10 1023) rfl rfl (one_of HT_.out (by kernel_rfl)) (by decide) (fun K hK => ?_)
   have hs24 : w23.cell? ⟨gb197, 1, none⟩ = some (.int .i64 x198001_1) := (blk_cell BK197.out 1).trans rfl
   have hfs24 := blk_frozen BK197.out 1
   have hns24_0 := NB194_197.out
   have hns24_1 := NB195_197.out
   have hns24_3 := NB199_197.out
   have hms24_0 := NB197_194.out
   have hms24_1 := NB197_195.out
   have hms24_3 := NB197_199.out
   refine skip_ (w1 := ?_) (by rfl) rfl ?_ ?_
   rotate_left
   · go_simp
     rfl
   refine hK.out _ _ ?_
   clear hK K
   refine dn_ ?_
   try go_wp2
   have n0_ : Aside0 ((w23.setCell ⟨gb197, 1, none⟩ (.int .i64 t203)).heap[gb194]? = some (.cells #[.int .i64 0, .int .i64 0] 105 (0, 0))) := ⟨by refine bl_ ?_; refine blk_far ?_ NB194_197.out _; refine bl_ ?_; exact BK194.out⟩
   have n1_ : Aside0 ((w23.setCell ⟨gb197, 1, none⟩ (.int .i64 t203)).heap[gb195]? = some (.cells #[.int .i64 0, .int .i64 0] 105 (0, 0))) := ⟨by refine bl_ ?_; refine blk_far ?_ NB195_197.out _; refine bl_ ?_; exact BK195.out⟩
   have n2_ : Aside0 ((w23.setCell ⟨gb197, 1, none⟩ (.int .i64 t203)).heap[gb197]? = some (.cells #[.int .i64 t201, .int .i64 t203] 105 (0, 0))) := ⟨by refine bl_ ?_; refine blk_put (cs := #[.int .i64 t201, .int .i64 x198001_1]) ?_ 1 _ rfl; refine bl_ ?_; exact BK197.out⟩
   have n3_ : Aside0 ((w23.setCell ⟨gb197, 1, none⟩ (.int .i64 t203)).heap[gb199]? = some (.cells #[.int .i64 x200000_1, .int .i64 x200001_1] 105 (0, 0))) := ⟨by refine bl_ ?_; refine blk_far ?_ NB199_197.out _; refine bl_ ?_; exact BK199.out⟩
   have n4_ : Aside0 (Below w.heap.size w (w23.setCell ⟨gb197, 1, none⟩ (.int .i64 t203))) := ⟨bs4_ HB.out GE194.out GE195.out GE197.out GE199.out⟩
   (try clear BK194)
   (try clear BK195)
   (try clear BK197)
   (try clear BK199)
   (try clear HB)
   generalize (w23.setCell ⟨gb197, 1, none⟩ (.int .i64 t203)) = w25 at n0_ n1_ n2_ n3_ n4_ ⊢
   have BK194 := n0_
   have BK195 := n1_
   have BK197 := n2_
   have BK199 := n3_
   have HB := n4_
   clear n0_ n1_ n2_ n3_ n4_
   (try (rw [drewN_self w25]; generalize hq_ : World.drewN w25 _ = w25; have n0_ : Aside0 (w25.heap[gb194]? = some (.cells #[.int .i64 0, .int .i64 0] 105 (0, 0))) := ⟨by rw [← hq_]; exact (bl_ BK194.out)⟩; have n1_ : Aside0 (w25.heap[gb195]? = some (.cells #[.int .i64 0, .int .i64 0] 105 (0, 0))) := ⟨by rw [← hq_]; exact (bl_ BK195.out)⟩; have n2_ : Aside0 (w25.heap[gb197]? = some (.cells #[.int .i64 t201, .int .i64 t203] 105 (0, 0))) := ⟨by rw [← hq_]; exact (bl_ BK197.out)⟩; have n3_ : Aside0 (w25.heap[gb199]? = some (.cells #[.int .i64 x200000_1, .int .i64 x200001_1] 105 (0, 0))) := ⟨by rw [← hq_]; exact (bl_ BK199.out)⟩; have n4_ : Aside0 (Below w.heap.size w w25) := ⟨by rw [← hq_]; exact (bs4_ HB.out GE194.out GE195.out GE197.out GE199.out)⟩; clear BK194 BK195 BK197 BK199 HB hq_; have BK194 := n0_; have BK195 := n1_; have BK197 := n2_; have BK199 := n3_; have HB := n4_; clear n0_ n1_ n2_ n3_ n4_))
   replace BK194 := mkA (blk_drew BK194.out)
   replace BK195 := mkA (blk_drew BK195.out)
   replace BK197 := mkA (blk_drew BK197.out)
   replace BK199 := mkA (blk_drew BK199.out)
   replace HB := mkA (below_drew1 HB.out)
   obtain ⟨ad204, e204, hw204_0, hw204_1⟩ := at_T105 HR0.out x6_1 dt_ dt_
   obtain rfl : ad196 = ad204 := (by injection e204)
   obtain ⟨hx204_0, hx204_1⟩ := b2_ HB.out hw204_0 hw204_1
   have p204 : (0 ≤ (x6_1 : Int)) = True := eq_true dt_
   have q204 : (x6_1 < (l0.length : Int)) = True := eq_true dt_
   refine st_ 10 (fun w' => w'.cell? ⟨gb199, 0, none⟩ = some (.int .i64 x200000_1) ∧ w'.cell? ⟨gb199, 1, none⟩ = some (.int .i64 x200001_1) ∧ C_ hw204_0 w' ∧ C_ hw204_1 w') [9] spec_l03Bounds.tab8 spec_l03Bounds.bits8 sp_ fun hHeld HT_ HW_ => ?_
   generalize w25.drew = w26 at BK194 BK195 BK197 BK199 HB hx204_0 hx204_1 hHeld ⊢
   refine a1_ 0 37 (h := a1_ 2 39 (h := a1_ 3 40 (h := a1_ 4 41 (h := a1_ 5 42 (h := tk_ 1 38 (h := tk_ 6 43 (h := ?_)))))))
   refine on_ 7 44 fun K hK => ?_
   refine go_ Try.func109 #[.int .i64 x200000_1, .int .i64 ((rd_T105 l0 x6_1).f0)] ?_
   with_reducible refine (spec_l00Max.calls x200000_1 ((rd_T105 l0 x6_1).f0) t205 _ A18.out).mono ?_
   rintro e w' ⟨rfl, ⟨nd, rfl⟩⟩
   refine ⟨_, rfl, ?_⟩
   (try (rw [drewN_self w26]; generalize hq_ : World.drewN w26 _ = w26; have n0_ := mkA (blk_at hq_ BK194.out); have n1_ := mkA (blk_at hq_ BK195.out); have n2_ := mkA (blk_at hq_ BK197.out); have n3_ := mkA (blk_at hq_ BK199.out); have n4_ := mkA (below_at hq_ HB.out); clear hq_ BK194 BK195 BK197 BK199 HB; have BK194 := n0_; have BK195 := n1_; have BK197 := n2_; have BK199 := n3_; have HB := n4_; clear n0_ n1_ n2_ n3_ n4_))
   refine hK.out _ _ sp_ fun hHeld => ?_
   clear hK K
   refine nm_ 44 ?_
   refine a1_ 8 45 (h := ?_)
   refine last_ (i := 9) (N := none) (fA 10 1023) rfl rfl (one_of HT_.out (by kernel_rfl)) (by decide) (fun K hK => ?_)
   have hs27 : w26.cell? ⟨gb199, 0, none⟩ = some (.int .i64 x200000_1) := (blk_cell BK199.out 0).trans rfl
   have hfs27 := blk_frozen BK199.out 0
   have hns27_0 := NB194_199.out
   have hns27_1 := NB195_199.out
   have hns27_2 := NB197_199.out
   have hms27_0 := NB199_194.out
   have hms27_1 := NB199_195.out
   have hms27_2 := NB199_197.out
   refine skip_ (w1 := ?_) (by rfl) rfl ?_ ?_
   rotate_left
   · go_simp
     rfl
   refine hK.out _ _ ?_
   clear hK K
   refine dn_ ?_
   try go_wp2
   have n0_ : Aside0 ((w26.setCell ⟨gb199, 0, none⟩ (.int .i64 t205)).heap[gb194]? = some (.cells #[.int .i64 0, .int .i64 0] 105 (0, 0))) := ⟨by refine bl_ ?_; refine blk_far ?_ NB194_199.out _; refine bl_ ?_; exact BK194.out⟩
   have n1_ : Aside0 ((w26.setCell ⟨gb199, 0, none⟩ (.int .i64 t205)).heap[gb195]? = some (.cells #[.int .i64 0, .int .i64 0] 105 (0, 0))) := ⟨by refine bl_ ?_; refine blk_far ?_ NB195_199.out _; refine bl_ ?_; exact BK195.out⟩
   have n2_ : Aside0 ((w26.setCell ⟨gb199, 0, none⟩ (.int .i64 t205)).heap[gb197]? = some (.cells #[.int .i64 t201, .int .i64 t203] 105 (0, 0))) := ⟨by refine bl_ ?_; refine blk_far ?_ NB197_199.out _; refine bl_ ?_; exact BK197.out⟩
   have n3_ : Aside0 ((w26.setCell ⟨gb199, 0, none⟩ (.int .i64 t205)).heap[gb199]? = some (.cells #[.int .i64 t205, .int .i64 x200001_1] 105 (0, 0))) := ⟨by refine bl_ ?_; refine blk_put (cs := #[.int .i64 x200000_1, .int .i64 x200001_1]) ?_ 0 _ rfl; refine bl_ ?_; exact BK199.out⟩
   have n4_ : Aside0 (Below w.heap.size w (w26.setCell ⟨gb199, 0, none⟩ (.int .i64 t205))) := ⟨bs4_ HB.out GE194.out GE195.out GE197.out GE199.out⟩
   (try clear BK194)
   (try clear BK195)
   (try clear BK197)
   (try clear BK199)
   (try clear HB)
   generalize (w26.setCell ⟨gb199, 0, none⟩ (.int .i64 t205)) = w28 at n0_ n1_ n2_ n3_ n4_ ⊢
   have BK194 := n0_
   have BK195 := n1_
   have BK197 := n2_
   have BK199 := n3_
   have HB := n4_
   clear n0_ n1_ n2_ n3_ n4_
   (try (rw [drewN_self w28]; generalize hq_ : World.drewN w28 _ = w28; have n0_ : Aside0 (w28.heap[gb194]? = some (.cells #[.int .i64 0, .int .i64 0] 105 (0, 0))) := ⟨by rw [← hq_]; exact (bl_ BK194.out)⟩; have n1_ : Aside0 (w28.heap[gb195]? = some (.cells #[.int .i64 0, .int .i64 0] 105 (0, 0))) := ⟨by rw [← hq_]; exact (bl_ BK195.out)⟩; have n2_ : Aside0 (w28.heap[gb197]? = some (.cells #[.int .i64 t201, .int .i64 t203] 105 (0, 0))) := ⟨by rw [← hq_]; exact (bl_ BK197.out)⟩; have n3_ : Aside0 (w28.heap[gb199]? = some (.cells #[.int .i64 t205, .int .i64 x200001_1] 105 (0, 0))) := ⟨by rw [← hq_]; exact (bl_ BK199.out)⟩; have n4_ : Aside0 (Below w.heap.size w w28) := ⟨by rw [← hq_]; exact (bs4_ HB.out GE194.out GE195.out GE197.out GE199.out)⟩; clear BK194 BK195 BK197 BK199 HB hq_; have BK194 := n0_; have BK195 := n1_; have BK197 := n2_; have BK199 := n3_; have HB := n4_; clear n0_ n1_ n2_ n3_ n4_))
   replace BK194 := mkA (blk_drew BK194.out)
   replace BK195 := mkA (blk_drew BK195.out)
   replace BK197 := mkA (blk_drew BK197.out)
   replace BK199 := mkA (blk_drew BK199.out)
   replace HB := mkA (below_drew1 HB.out)
   obtain ⟨ad206, e206, hw206_0, hw206_1⟩ := at_T105 HR0.out x6_1 dt_ dt_
   obtain rfl : ad196 = ad206 := (by injection e206)
   obtain ⟨hx206_0, hx206_1⟩ := b2_ HB.out hw206_0 hw206_1
   have p206 : (0 ≤ (x6_1 : Int)) = True := eq_true dt_
   have q206 : (x6_1 < (l0.length : Int)) = True := eq_true dt_
   refine st_ 10 (fun w' => w'.cell? ⟨gb199, 0, none⟩ = some (.int .i64 t205) ∧ w'.cell? ⟨gb199, 1, none⟩ = some (.int .i64 x200001_1) ∧ C_ hw206_0 w' ∧ C_ hw206_1 w') [9] spec_l03Bounds.tab9 spec_l03Bounds.bits9 sp_ fun hHeld HT_ HW_ => ?_
   generalize w28.drew = w29 at BK194 BK195 BK197 BK199 HB hx206_0 hx206_1 hHeld ⊢
   refine a1_ 0 46 (h := a1_ 2 48 (h := a1_ 3 49 (h := a1_ 4 50 (h := a1_ 5 51 (h := tk_ 1 47 (h := tk_ 6 52 (h := ?_)))))))
   refine on_ 7 53 fun K hK => ?_
   refine go_ Try.func109 #[.int .i64 x200001_1, .int .i64 ((rd_T105 l0 x6_1).f1)] ?_
   with_reducible refine (spec_l00Max.calls x200001_1 ((rd_T105 l0 x6_1).f1) t207 _ A19.out).mono ?_
   rintro e w' ⟨rfl, ⟨nd, rfl⟩⟩
   refine ⟨_, rfl, ?_⟩
   (try (rw [drewN_self w29]; generalize hq_ : World.drewN w29 _ = w29; have n0_ := mkA (blk_at hq_ BK194.out); have n1_ := mkA (blk_at hq_ BK195.out); have n2_ := mkA (blk_at hq_ BK197.out); have n3_ := mkA (blk_at hq_ BK199.out); have n4_ := mkA (below_at hq_ HB.out); clear hq_ BK194 BK195 BK197 BK199 HB; have BK194 := n0_; have BK195 := n1_; have BK197 := n2_; have BK199 := n3_; have HB := n4_; clear n0_ n1_ n2_ n3_ n4_))
   refine hK.out _ _ sp_ fun hHeld => ?_
   clear hK K
   refine nm_ 53 ?_
   refine a1_ 8 54 (h := ?_)
   refine last_ (i := 9) (N := none) (fA 10 1023) rfl rfl (one_of HT_.out (by kernel_rfl)) (by decide) (fun K hK => ?_)
   have hs30 : w29.cell? ⟨gb199, 1, none⟩ = some (.int .i64 x200001_1) := (blk_cell BK199.out 1).trans rfl
   have hfs30 := blk_frozen BK199.out 1
   have hns30_0 := NB194_199.out
   have hns30_1 := NB195_199.out
   have hns30_2 := NB197_199.out
   have hms30_0 := NB199_194.out
   have hms30_1 := NB199_195.out
   have hms30_2 := NB199_197.out
   refine skip_ (w1 := ?_) (by rfl) rfl ?_ ?_
   rotate_left
   · go_simp
     rfl
   refine hK.out _ _ ?_
   clear hK K
   refine dn_ ?_
   try go_wp2
   go_roundg k1
   case measure => have := HK1.out; omega
   case rel => exact ⟨(wrap64 (x6_1 + 1)), (t201), (t203), (t205), (t207), rf_, H', ⟨om_ HK1.out⟩, ⟨by refine bl_ ?_; refine blk_far ?_ NB194_199.out _; refine bl_ ?_; exact BK194.out⟩, ⟨by refine bl_ ?_; refine blk_far ?_ NB195_199.out _; refine bl_ ?_; exact BK195.out⟩, ⟨by refine bl_ ?_; refine blk_far ?_ NB197_199.out _; refine bl_ ?_; exact BK197.out⟩, ⟨by refine bl_ ?_; refine blk_put (cs := #[.int .i64 t205, .int .i64 x200001_1]) ?_ 1 _ rfl; refine bl_ ?_; exact BK199.out⟩, ⟨bs4_ HB.out GE194.out GE195.out GE197.out GE199.out⟩⟩
end Go.Proofs.Ytakagkflgkoiiaa.GFnExactIsCover

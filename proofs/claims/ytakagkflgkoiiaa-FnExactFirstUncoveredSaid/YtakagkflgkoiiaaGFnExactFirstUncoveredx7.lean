-- Written by the session's own program (gen.py) out of the translation's print. Lean checks it.
import Derived.Test.YtakagkflgkoiiaaQ
import Derived.Test.YtakagkflgkoiiaaGFnExactFirstUncoveredx0
import Derived.Test.YtakagkflgkoiiaaGFnExactFirstUncoveredx6
namespace Go.Proofs.Ytakagkflgkoiiaa.GFnExactFirstUncovered
open Go.RowKit Go.Proofs.YtakagkflgkoiiaaW.PrintWords Go.Proofs.YtakagkflgkoiiaaW.PrintLast Go.Proofs.YtakagkflgkoiiaaW.PrintMore
open List renaming setIfInBounds_toArray → sA, set_cons_zero → sB, set_cons_succ → sC
open Go.Proofs.YtakagkflgkoiiaaW.PrintWords.Aside0 renaming mk → mkA
open Go.Proofs.YtakagkflgkoiiaaX (dt_ bc_ p0_ p1_ bl_ cb_ bs0_ bs1_ bs2_ bs3_ bs4_ bs5_ bs6_ bs7_ bs8_ bs9_ bs10_ bs11_ bs12_)
open Go.Proofs.YtakagkflgkoiiaaQ
attribute [local go_sem] max2_int min2_int max_two min_two max_three min_three max_four min_four 
set_option linter.unusedVariables false
set_option linter.unusedSimpArgs false

/-! ### spec_l03Bounds: function 93 -/
def spec_l03Bounds.l0 : Nat → List (S105) → Int → Int → Int → Int → Int → Option (Int × Int × Int × Int)
  | 0, _, _, _, _, _, _ => none
  | k + 1, x0, x6, x181000, x181001, x183000, x183001 => if x6 < (x0.length : Int) then (if 0 ≤ x6 then ((spec_l00Min.f x181000 ((rd_T105 x0 x6).f0)).bind fun t184 => ((spec_l00Min.f x181001 ((rd_T105 x0 x6).f1)).bind fun t186 => ((spec_l00Max.f x183000 ((rd_T105 x0 x6).f0)).bind fun t188 => ((spec_l00Max.f x183001 ((rd_T105 x0 x6).f1)).bind fun t190 => (spec_l03Bounds.l0 k x0 (wrap64 (x6 + 1)) t184 t186 t188 t190))))) else (none)) else (some (x181000, x181001, x183000, x183001))
def spec_l03Bounds.f (k : Nat) (l0 : List (S105)) : Option (Int × Int × Int × Int) := if 0 < (l0.length : Int) then (spec_l03Bounds.l0 k l0 1 ((rd_T105 l0 0).f0) ((rd_T105 l0 0).f1) ((rd_T105 l0 0).f0) ((rd_T105 l0 0).f1)) else (none)
def spec_l03Bounds.T6 : Bool × List (List Nat × List Nat) := (true, [([], []), ([0], [0]), ([], []), ([], []), ([2, 3], [2, 3]), ([4], [4]), ([5], [5]), ([1, 6], [1, 6]), ([0, 1, 2, 3, 4, 5, 6, 7], []), ([8, 7, 7, 0, 1, 2, 3, 4, 5, 6, 7], [7, 8])])
def spec_l03Bounds.B6 : List Nat := [0, 1, 0, 0, 12, 28, 60, 127, 255, 511]
theorem spec_l03Bounds.tab6 : rtab .any (opsOf Try.f93 6) = spec_l03Bounds.T6 := by kernel_rfl
theorem spec_l03Bounds.bits6 : waitsOk spec_l03Bounds.T6.2 spec_l03Bounds.B6 = true := by kernel_rfl
def spec_l03Bounds.T7 : Bool × List (List Nat × List Nat) := (true, [([], []), ([0], [0]), ([], []), ([], []), ([2, 3], [2, 3]), ([4], [4]), ([5], [5]), ([1, 6], [1, 6]), ([0, 1, 2, 3, 4, 5, 6, 7], []), ([8, 7, 7, 0, 1, 2, 3, 4, 5, 6, 7], [7, 8])])
def spec_l03Bounds.B7 : List Nat := [0, 1, 0, 0, 12, 28, 60, 127, 255, 511]
theorem spec_l03Bounds.tab7 : rtab .any (opsOf Try.f93 7) = spec_l03Bounds.T7 := by kernel_rfl
theorem spec_l03Bounds.bits7 : waitsOk spec_l03Bounds.T7.2 spec_l03Bounds.B7 = true := by kernel_rfl
def spec_l03Bounds.T8 : Bool × List (List Nat × List Nat) := (true, [([], []), ([0], [0]), ([], []), ([], []), ([2, 3], [2, 3]), ([4], [4]), ([5], [5]), ([1, 6], [1, 6]), ([0, 1, 2, 3, 4, 5, 6, 7], []), ([8, 7, 7, 0, 1, 2, 3, 4, 5, 6, 7], [7, 8])])
def spec_l03Bounds.B8 : List Nat := [0, 1, 0, 0, 12, 28, 60, 127, 255, 511]
theorem spec_l03Bounds.tab8 : rtab .any (opsOf Try.f93 8) = spec_l03Bounds.T8 := by kernel_rfl
theorem spec_l03Bounds.bits8 : waitsOk spec_l03Bounds.T8.2 spec_l03Bounds.B8 = true := by kernel_rfl
def spec_l03Bounds.T9 : Bool × List (List Nat × List Nat) := (true, [([], []), ([0], [0]), ([], []), ([], []), ([2, 3], [2, 3]), ([4], [4]), ([5], [5]), ([1, 6], [1, 6]), ([0, 1, 2, 3, 4, 5, 6, 7], []), ([8, 7, 7, 0, 1, 2, 3, 4, 5, 6, 7], [7, 8])])
def spec_l03Bounds.B9 : List Nat := [0, 1, 0, 0, 12, 28, 60, 127, 255, 511]
theorem spec_l03Bounds.tab9 : rtab .any (opsOf Try.f93 9) = spec_l03Bounds.T9 := by kernel_rfl
theorem spec_l03Bounds.bits9 : waitsOk spec_l03Bounds.T9.2 spec_l03Bounds.B9 = true := by kernel_rfl
set_option maxHeartbeats 8000000 in
set_option maxRecDepth 100000 in
theorem spec_l03Bounds.calls (k : Nat) (A0 : Option Addr) (c0 : Nat) (l0 : List (S105)) (r1 : Int) (r2 : Int) (r3 : Int) (r4 : Int) (w : World) (hr0 : Kd.C k105 w A0 l0.length l0) (hc0 : l0.length ≤ c0) (h : spec_l03Bounds.f k l0 = some (r1, r2, r3, r4)) :
 Calls Try.prog 93 #[.slice A0 l0.length c0] w fun e w' => e = .returned (.tuple #[.agg #[.int .i64 r1, .int .i64 r2], .agg #[.int .i64 r3, .int .i64 r4]]) ∧ Below w.heap.size w w' := by
 have hu105 := Try.underlying105
 have HR0 := mkA hr0
 have HC0 := mkA hc0
 clear hr0 hc0
 have HB := mkA (Below.refl w.heap.size w)
 unfold spec_l03Bounds.f at h
 have H := h
 clear h
 revert H
 refine ng_ fun c2 => ?_
 intro H
 have c2b0 := decide_eq_true c2
 have c2b1 : decide (0 < l0.length) = true := decide_eq_true (by omega)
 clear c2
 have H' := mkA H
 clear H
 go_enter Try.func93, Try.ntmps93
 go_wp2_with (first | ((with_reducible refine gt_ 2 ?_); refine bx_ 2 #[.int .i64 0, .int .i64 0] 105 fun gb177 hg w3 hbox hb => ?_; have BK177 := mkA (hbox); have GW177 := gs_ hg (bs0_ HB.out); have GE177 := GW177; replace HB := mkA (below_step (bs0_ HB.out) hb); clear hb hbox hg) | ((with_reducible refine gt_ 3 ?_); refine bx_ 3 #[.int .i64 0, .int .i64 0] 105 fun gb178 hg w4 hbox hb => ?_; have BK178 := mkA (hbox); have GW178 := gs_ hg (bs1_ HB.out GE177.out); have GE178 := GW178; replace HB := mkA (below_step (bs1_ HB.out GE177.out) hb); have NB177_178 := nl_ hg (bl_ BK177.out); have NB178_177 := nr_ hg (bl_ BK177.out); replace BK177 := mkA (blk_below (bl_ BK177.out) hb); clear hb hbox hg; have p179 : 0 ≤ (0 : Int) := (by omega); have q179 : 0 < (l0.length : Int) := dt_; obtain ⟨ad179, e179, hx179_0, hx179_1⟩ := at_T105 HR0.out 0 p179 q179; cases e179; have qi179 : (0 < l0.length) = True := eq_true (by omega); (try rw [show ((0 : Int)).toNat = 0 from rfl] at hx179_0); (try rw [show 0 * 2 = 0 from rfl] at hx179_0); (try rw [Addr.add_zero'] at hx179_0); (try rw [show ((0 : Int)).toNat = 0 from rfl] at hx179_1); (try rw [show 0 * 2 = 0 from rfl] at hx179_1); (try rw [Addr.add_zero'] at hx179_1); replace hx179_0 := bc_ HB.out hx179_0; replace hx179_1 := bc_ HB.out hx179_1; replace p179 := eq_true p179; replace q179 := eq_true q179) | ((with_reducible refine gt_ 4 ?_); refine bx_ 4 #[.int .i64 0, .int .i64 0] 105 fun gb180 hg w5 hbox hb => ?_; have BK180 := mkA (hbox); have GW180 := gs_ hg (bs2_ HB.out GE177.out GE178.out); have GE180 := GW180; replace HB := mkA (below_step (bs2_ HB.out GE177.out GE178.out) hb); have NB177_180 := nl_ hg (bl_ BK177.out); have NB180_177 := nr_ hg (bl_ BK177.out); replace BK177 := mkA (blk_below (bl_ BK177.out) hb); have NB178_180 := nl_ hg (bl_ BK178.out); have NB180_178 := nr_ hg (bl_ BK178.out); replace BK178 := mkA (blk_below (bl_ BK178.out) hb); clear hb hbox hg; have hnb6 := NB180_177.out; have hnc6 := NB177_180.out; have hnb7 := NB180_178.out; have hnc7 := NB178_180.out; obtain ⟨hcz8_0, hcz8_1, hfz8_0, hfz8_1⟩ := z2_ BK180.out; have p181 : 0 ≤ (0 : Int) := (by omega); have q181 : 0 < (l0.length : Int) := dt_; obtain ⟨ad181, e181, hx181_0, hx181_1⟩ := at_T105 HR0.out 0 p181 q181; obtain rfl : ad179 = ad181 := (by injection e181); have qi181 : (0 < l0.length) = True := eq_true (by omega); (try rw [show ((0 : Int)).toNat = 0 from rfl] at hx181_0); (try rw [show 0 * 2 = 0 from rfl] at hx181_0); (try rw [Addr.add_zero'] at hx181_0); (try rw [show ((0 : Int)).toNat = 0 from rfl] at hx181_1); (try rw [show 0 * 2 = 0 from rfl] at hx181_1); (try rw [Addr.add_zero'] at hx181_1); have hn181_0 : ad179.block ≠ gb180 := Nat.ne_of_lt (Nat.lt_of_lt_of_le (by have := World.block_lt_of_cell? _ _ hx181_0; first | rwa [add_block] at this | exact this) GW180.out); have hn181_1 : ad179.block ≠ gb180 := Nat.ne_of_lt (Nat.lt_of_lt_of_le (by have := World.block_lt_of_cell? _ _ hx181_0; first | rwa [add_block] at this | exact this) GW180.out); replace hx181_0 := bc_ HB.out hx181_0; replace hx181_1 := bc_ HB.out hx181_1; replace hx181_0 := (cell_far (p := ⟨gb180, 0, none⟩) (by first | (rw [add_block]; exact hn181_0) | (show (Addr.add _ _).block ≠ _; rw [add_block]; exact hn181_0) | exact hn181_0) (.int .i64 ((rd_T105 l0 0).f0))).trans hx181_0; replace hx181_1 := (cell_far (p := ⟨gb180, 0, none⟩) (by first | (rw [add_block]; exact hn181_0) | (show (Addr.add _ _).block ≠ _; rw [add_block]; exact hn181_0) | exact hn181_0) (.int .i64 ((rd_T105 l0 0).f0))).trans hx181_1; replace hx181_0 := (cell_far (p := ⟨gb180, 1, none⟩) (by first | (rw [add_block]; exact hn181_1) | (show (Addr.add _ _).block ≠ _; rw [add_block]; exact hn181_1) | exact hn181_1) (.int .i64 ((rd_T105 l0 0).f1))).trans hx181_0; replace hx181_1 := (cell_far (p := ⟨gb180, 1, none⟩) (by first | (rw [add_block]; exact hn181_1) | (show (Addr.add _ _).block ≠ _; rw [add_block]; exact hn181_1) | exact hn181_1) (.int .i64 ((rd_T105 l0 0).f1))).trans hx181_1; clear hn181_0; clear hn181_1; replace p181 := eq_true p181; replace q181 := eq_true q181) | ((with_reducible refine gt_ 5 ?_); refine bx_ 5 #[.int .i64 0, .int .i64 0] 105 fun gb182 hg w9 hbox hb => ?_; have BK182 := mkA (hbox); have GW182 := gs_ hg (bs3_ HB.out GE177.out GE178.out GE180.out); have GE182 := GW182; replace HB := mkA (below_step (bs3_ HB.out GE177.out GE178.out GE180.out) hb); have NB177_182 := mkA ((by rw [hg]; exact Nat.ne_of_lt (blk_lt (g := gb177) (o := .cells #[.int .i64 0, .int .i64 0] 105 (0, 0)) (by refine bl_ ?_; refine blk_far ?_ NB177_180.out _; refine bl_ ?_; refine blk_far ?_ NB177_180.out _; refine bl_ ?_; exact BK177.out)) : gb177 ≠ gb182)); have NB182_177 := mkA ((by rw [hg]; exact Nat.ne_of_gt (blk_lt (g := gb177) (o := .cells #[.int .i64 0, .int .i64 0] 105 (0, 0)) (by refine bl_ ?_; refine blk_far ?_ NB177_180.out _; refine bl_ ?_; refine blk_far ?_ NB177_180.out _; refine bl_ ?_; exact BK177.out)) : gb182 ≠ gb177)); replace BK177 := mkA (blk_below (g := gb177) (o := .cells #[.int .i64 0, .int .i64 0] 105 (0, 0)) (by refine bl_ ?_; refine blk_far ?_ NB177_180.out _; refine bl_ ?_; refine blk_far ?_ NB177_180.out _; refine bl_ ?_; exact BK177.out) hb); have NB178_182 := mkA ((by rw [hg]; exact Nat.ne_of_lt (blk_lt (g := gb178) (o := .cells #[.int .i64 0, .int .i64 0] 105 (0, 0)) (by refine bl_ ?_; refine blk_far ?_ NB178_180.out _; refine bl_ ?_; refine blk_far ?_ NB178_180.out _; refine bl_ ?_; exact BK178.out)) : gb178 ≠ gb182)); have NB182_178 := mkA ((by rw [hg]; exact Nat.ne_of_gt (blk_lt (g := gb178) (o := .cells #[.int .i64 0, .int .i64 0] 105 (0, 0)) (by refine bl_ ?_; refine blk_far ?_ NB178_180.out _; refine bl_ ?_; refine blk_far ?_ NB178_180.out _; refine bl_ ?_; exact BK178.out)) : gb182 ≠ gb178)); replace BK178 := mkA (blk_below (g := gb178) (o := .cells #[.int .i64 0, .int .i64 0] 105 (0, 0)) (by refine bl_ ?_; refine blk_far ?_ NB178_180.out _; refine bl_ ?_; refine blk_far ?_ NB178_180.out _; refine bl_ ?_; exact BK178.out) hb); have NB180_182 := mkA ((by rw [hg]; exact Nat.ne_of_lt (blk_lt (g := gb180) (o := .cells #[.int .i64 ((rd_T105 l0 0).f0), .int .i64 ((rd_T105 l0 0).f1)] 105 (0, 0)) (by refine bl_ ?_; refine blk_put (cs := #[.int .i64 ((rd_T105 l0 0).f0), .int .i64 0]) ?_ 1 _ rfl; refine bl_ ?_; refine blk_put (cs := #[.int .i64 0, .int .i64 0]) ?_ 0 _ rfl; refine bl_ ?_; exact BK180.out)) : gb180 ≠ gb182)); have NB182_180 := mkA ((by rw [hg]; exact Nat.ne_of_gt (blk_lt (g := gb180) (o := .cells #[.int .i64 ((rd_T105 l0 0).f0), .int .i64 ((rd_T105 l0 0).f1)] 105 (0, 0)) (by refine bl_ ?_; refine blk_put (cs := #[.int .i64 ((rd_T105 l0 0).f0), .int .i64 0]) ?_ 1 _ rfl; refine bl_ ?_; refine blk_put (cs := #[.int .i64 0, .int .i64 0]) ?_ 0 _ rfl; refine bl_ ?_; exact BK180.out)) : gb182 ≠ gb180)); replace BK180 := mkA (blk_below (g := gb180) (o := .cells #[.int .i64 ((rd_T105 l0 0).f0), .int .i64 ((rd_T105 l0 0).f1)] 105 (0, 0)) (by refine bl_ ?_; refine blk_put (cs := #[.int .i64 ((rd_T105 l0 0).f0), .int .i64 0]) ?_ 1 _ rfl; refine bl_ ?_; refine blk_put (cs := #[.int .i64 0, .int .i64 0]) ?_ 0 _ rfl; refine bl_ ?_; exact BK180.out) hb); clear hb hbox hg; have hnb10 := NB182_177.out; have hnc10 := NB177_182.out; have hnb11 := NB182_178.out; have hnc11 := NB178_182.out; have hnb12 := NB182_180.out; have hnc12 := NB180_182.out; obtain ⟨hcz13_0, hcz13_1, hfz13_0, hfz13_1⟩ := z2_ BK182.out))
 go_loopg [6] k (fun kq v6 w' => ∃ (x6_1 : Int) (x181000_1 : Int) (x181001_1 : Int) (x183000_1 : Int) (x183001_1 : Int), v6 = .int .i64 x6_1 ∧ Aside0 (spec_l03Bounds.l0 kq l0 x6_1 x181000_1 x181001_1 x183000_1 x183001_1 = some (r1, r2, r3, r4)) ∧ Aside0 (kq ≤ k) ∧ Aside0 (w'.heap[gb177]? = some (.cells #[.int .i64 0, .int .i64 0] 105 (0, 0))) ∧ Aside0 (w'.heap[gb178]? = some (.cells #[.int .i64 0, .int .i64 0] 105 (0, 0))) ∧ Aside0 (w'.heap[gb180]? = some (.cells #[.int .i64 x181000_1, .int .i64 x181001_1] 105 (0, 0))) ∧ Aside0 (w'.heap[gb182]? = some (.cells #[.int .i64 x183000_1, .int .i64 x183001_1] 105 (0, 0))) ∧ Aside0 (Below w.heap.size w w'))
 case atStart => exact ⟨(1), ((rd_T105 l0 0).f0), ((rd_T105 l0 0).f1), ((rd_T105 l0 0).f0), ((rd_T105 l0 0).f1), rf_, H', ⟨Nat.le_refl _⟩, ⟨by refine bl_ ?_; refine blk_far ?_ NB177_182.out _; refine bl_ ?_; refine blk_far ?_ NB177_182.out _; refine bl_ ?_; exact BK177.out⟩, ⟨by refine bl_ ?_; refine blk_far ?_ NB178_182.out _; refine bl_ ?_; refine blk_far ?_ NB178_182.out _; refine bl_ ?_; exact BK178.out⟩, ⟨by refine bl_ ?_; refine blk_far ?_ NB180_182.out _; refine bl_ ?_; refine blk_far ?_ NB180_182.out _; refine bl_ ?_; exact BK180.out⟩, ⟨by refine bl_ ?_; refine blk_put (cs := #[.int .i64 ((rd_T105 l0 0).f0), .int .i64 0]) ?_ 1 _ rfl; refine bl_ ?_; refine blk_put (cs := #[.int .i64 0, .int .i64 0]) ?_ 0 _ rfl; refine bl_ ?_; exact BK182.out⟩, ⟨bs4_ HB.out GE177.out GE178.out GE180.out GE182.out⟩⟩
 case round =>
  clear H'
  try clear c2 c2b0 c2b1
  try clear hcz13_0 hcz13_1 hcz8_0 hcz8_1
  try clear hfz13_0 hfz13_1 hfz8_0 hfz8_1
  try clear hx179_0 hx179_1 hx181_0 hx181_1
  try clear p179 p181
  try clear q179 q181
  obtain ⟨x6_1, x181000_1, x181001_1, x183000_1, x183001_1, rfl, HA, HK1, BK177, BK178, BK180, BK182, HB⟩ := hrel
  cases gk with
  | zero => exact absurd HA.out (by simp [spec_l03Bounds.l0])
  | succ k1 =>
   have H := HA.out
   clear HA
   simp only [spec_l03Bounds.l0] at H
   by_cases c14 : x6_1 < (l0.length : Int)
   rotate_left
   · rw [if_neg c14] at H
     have c14b0 := decide_eq_false c14
     clear c14
     simp only [Option.some.injEq, Prod.mk.injEq] at H
     obtain ⟨rfl, rfl, rfl, rfl⟩ := H
     try go_wp2
     replace BK177 := mkA (blk_drew BK177.out)
     replace BK178 := mkA (blk_drew BK178.out)
     replace BK180 := mkA (blk_drew BK180.out)
     replace BK182 := mkA (blk_drew BK182.out)
     replace HB := mkA (below_drew1 HB.out)
     refine start_ (n := 4) (S := fun w' => w'.cell? ⟨gb180, 0, none⟩ = some (.int .i64 x181000_1) ∧ w'.cell? ⟨gb180, 1, none⟩ = some (.int .i64 x181001_1) ∧ w'.cell? ⟨gb182, 0, none⟩ = some (.int .i64 x183000_1) ∧ w'.cell? ⟨gb182, 1, none⟩ = some (.int .i64 x183001_1)) (ds := []) (fA 4 0) (by kernel_rfl) rfl rfl ⟨(blk_cell BK180.out 0).trans rfl, (blk_cell BK180.out 1).trans rfl, (blk_cell BK182.out 0).trans rfl, (blk_cell BK182.out 1).trans rfl⟩ (fun hHeld => ?_)
     generalize wr.drew = w31 at BK177 BK178 BK180 BK182 HB hHeld ⊢
     refine take_ (i := 0) (N := some 55) (v := ?_) (a' := ?_) (fA 4 1) rfl rfl (by kernel_rfl) (fun _ _ _ h => h) (Or.inl ⟨by rfl, ?_⟩) hHeld ?_ ?_
     rotate_left
     · rintro w' ⟨s0, s1, s2, s3⟩
       (try simp only [C_] at s0 s1 s2 s3)
       go_simp
       with_reducible rfl
     rotate_left
     · simp only [Act.put, sA, sB, sC, i64_w, i32_w]
       rfl
     refine take_ (i := 1) (N := some 56) (v := ?_) (a' := ?_) (fA 4 3) rfl rfl (by kernel_rfl) (fun _ _ _ h => h) (Or.inl ⟨by rfl, ?_⟩) hHeld ?_ ?_
     rotate_left
     · rintro w' ⟨s0, s1, s2, s3⟩
       (try simp only [C_] at s0 s1 s2 s3)
       go_simp
       with_reducible rfl
     rotate_left
     · simp only [Act.put, sA, sB, sC, i64_w, i32_w]
       rfl
     refine one_ (i := 2) (N := none) (fA 4 7) rfl rfl (by kernel_rfl) (by decide) (fun K hK => ?_)
     have hs32 : w31.cell? ⟨gb177, 0, none⟩ = some (.int .i64 0) := (blk_cell BK177.out 0).trans rfl
     have hfs32 := blk_frozen BK177.out 0
     have hns32_1 := NB178_177.out
     have hns32_2 := NB180_177.out
     have hns32_3 := NB182_177.out
     have hms32_1 := NB177_178.out
     have hms32_2 := NB177_180.out
     have hms32_3 := NB177_182.out
     have hs33 : w31.cell? ⟨gb177, 1, none⟩ = some (.int .i64 0) := (blk_cell BK177.out 1).trans rfl
     have hfs33 := blk_frozen BK177.out 1
     have hns33_1 := NB178_177.out
     have hns33_2 := NB180_177.out
     have hns33_3 := NB182_177.out
     have hms33_1 := NB177_178.out
     have hms33_2 := NB177_180.out
     have hms33_3 := NB177_182.out
     refine skip_ (w1 := ?_) (by rfl) rfl ?_ ?_
     rotate_left
     · go_simp
       rfl
     refine hK.out _ _ ⟨((cell_far (p := ⟨gb177, _, none⟩) NB180_177.out _).trans (((cell_far (p := ⟨gb177, _, none⟩) NB180_177.out _).trans (hHeld.1)))), ((cell_far (p := ⟨gb177, _, none⟩) NB180_177.out _).trans (((cell_far (p := ⟨gb177, _, none⟩) NB180_177.out _).trans (hHeld.2.1)))), ((cell_far (p := ⟨gb177, _, none⟩) NB182_177.out _).trans (((cell_far (p := ⟨gb177, _, none⟩) NB182_177.out _).trans (hHeld.2.2.1)))), ((cell_far (p := ⟨gb177, _, none⟩) NB182_177.out _).trans (((cell_far (p := ⟨gb177, _, none⟩) NB182_177.out _).trans (hHeld.2.2.2))))⟩ (fun hHeld => ?_)
     clear hK K
     refine one_ (i := 3) (N := none) (fA 4 15) rfl rfl (by kernel_rfl) (by decide) (fun K hK => ?_)
     have hs34 : w31.cell? ⟨gb178, 0, none⟩ = some (.int .i64 0) := (blk_cell BK178.out 0).trans rfl
     have hfs34 := blk_frozen BK178.out 0
     have hns34_0 := NB177_178.out
     have hns34_2 := NB180_178.out
     have hns34_3 := NB182_178.out
     have hms34_0 := NB178_177.out
     have hms34_2 := NB178_180.out
     have hms34_3 := NB178_182.out
     have hs35 : w31.cell? ⟨gb178, 1, none⟩ = some (.int .i64 0) := (blk_cell BK178.out 1).trans rfl
     have hfs35 := blk_frozen BK178.out 1
     have hns35_0 := NB177_178.out
     have hns35_2 := NB180_178.out
     have hns35_3 := NB182_178.out
     have hms35_0 := NB178_177.out
     have hms35_2 := NB178_180.out
     have hms35_3 := NB178_182.out
     refine skip_ (w1 := ?_) (by rfl) rfl ?_ ?_
     rotate_left
     · go_simp
       rfl
     refine hK.out _ _ ⟨((cell_far (p := ⟨gb178, _, none⟩) NB180_178.out _).trans (((cell_far (p := ⟨gb178, _, none⟩) NB180_178.out _).trans (hHeld.1)))), ((cell_far (p := ⟨gb178, _, none⟩) NB180_178.out _).trans (((cell_far (p := ⟨gb178, _, none⟩) NB180_178.out _).trans (hHeld.2.1)))), ((cell_far (p := ⟨gb178, _, none⟩) NB182_178.out _).trans (((cell_far (p := ⟨gb178, _, none⟩) NB182_178.out _).trans (hHeld.2.2.1)))), ((cell_far (p := ⟨gb178, _, none⟩) NB182_178.out _).trans (((cell_far (p := ⟨gb178, _, none⟩) NB182_178.out _).trans (hHeld.2.2.2))))⟩ (fun hHeld => ?_)
     clear hK K
     refine done_ (by kernel_rfl) ?_
     try go_wp2
     refine bodyPost_ret (results_cc rfl _ _ gb177 gb178 105 105 #[.int .i64 x181000_1, .int .i64 x181001_1] #[.int .i64 x183000_1, .int .i64 x183001_1] (0, 0) (0, 0) _ _ rfl (by refine bl_ ?_; refine blk_far ?_ NB177_178.out _; refine bl_ ?_; refine blk_far ?_ NB177_178.out _; refine bl_ ?_; refine blk_put (cs := #[.int .i64 x181000_1, .int .i64 0]) ?_ 1 _ rfl; refine bl_ ?_; refine blk_put (cs := #[.int .i64 0, .int .i64 0]) ?_ 0 _ rfl; refine bl_ ?_; exact BK177.out) Try.underlying105 rfl (by kernel_rfl) rfl (by refine bl_ ?_; refine blk_put (cs := #[.int .i64 x183000_1, .int .i64 0]) ?_ 1 _ rfl; refine bl_ ?_; refine blk_put (cs := #[.int .i64 0, .int .i64 0]) ?_ 0 _ rfl; refine bl_ ?_; refine blk_far ?_ NB178_177.out _; refine bl_ ?_; refine blk_far ?_ NB178_177.out _; refine bl_ ?_; exact BK178.out) Try.underlying105 rfl (by kernel_rfl)) rfl ?_
     exact ⟨re_, bs4_ HB.out GE177.out GE178.out GE180.out GE182.out⟩
   rw [if_pos c14] at H
   have c14b0 := decide_eq_true c14
   clear c14
   revert H
   refine ng_ fun c15 => ob_ fun t184 A16 => ob_ fun t186 A17 => ob_ fun t188 A18 => ob_ fun t190 A19 => ?_
   intro H
   have c15b0 := decide_eq_true c15
   clear c15
   have H' := mkA H
   clear H
   try go_wp2
   replace BK177 := mkA (blk_drew BK177.out)
   replace BK178 := mkA (blk_drew BK178.out)
   replace BK180 := mkA (blk_drew BK180.out)
   replace BK182 := mkA (blk_drew BK182.out)
   replace HB := mkA (below_drew1 HB.out)
   obtain ⟨ad183, e183, hw183_0, hw183_1⟩ := at_T105 HR0.out x6_1 dt_ dt_
   obtain rfl : ad179 = ad183 := (by injection e183)
   obtain ⟨hx183_0, hx183_1⟩ := b2_ HB.out hw183_0 hw183_1
   have p183 : (0 ≤ (x6_1 : Int)) = True := eq_true dt_
   have q183 : (x6_1 < (l0.length : Int)) = True := eq_true dt_
   refine st_ 10 (fun w' => w'.cell? ⟨gb180, 0, none⟩ = some (.int .i64 x181000_1) ∧ w'.cell? ⟨gb180, 1, none⟩ = some (.int .i64 x181001_1) ∧ C_ hw183_0 w' ∧ C_ hw183_1 w') [9] spec_l03Bounds.tab6 spec_l03Bounds.bits6 sp_ fun hHeld HT_ HW_ => ?_
   generalize wr.drew = w20 at BK177 BK178 BK180 BK182 HB hx183_0 hx183_1 hHeld ⊢
   refine a1_ 0 19 (h := a1_ 2 21 (h := a1_ 3 22 (h := a1_ 4 23 (h := a1_ 5 24 (h := tk_ 1 20 (h := tk_ 6 25 (h := ?_)))))))
   refine on_ 7 26 fun K hK => ?_
   refine go_ Try.func108 #[.int .i64 x181000_1, .int .i64 ((rd_T105 l0 x6_1).f0)] ?_
   with_reducible refine (spec_l00Min.calls x181000_1 ((rd_T105 l0 x6_1).f0) t184 _ A16.out).mono ?_
   rintro e w' ⟨rfl, ⟨nd, rfl⟩⟩
   refine ⟨_, rfl, ?_⟩
   (try (rw [drewN_self w20]; generalize hq_ : World.drewN w20 _ = w20; have n0_ := mkA (blk_at hq_ BK177.out); have n1_ := mkA (blk_at hq_ BK178.out); have n2_ := mkA (blk_at hq_ BK180.out); have n3_ := mkA (blk_at hq_ BK182.out); have n4_ := mkA (below_at hq_ HB.out); clear hq_ BK177 BK178 BK180 BK182 HB; have BK177 := n0_; have BK178 := n1_; have BK180 := n2_; have BK182 := n3_; have HB := n4_; clear n0_ n1_ n2_ n3_ n4_))
   refine hK.out _ _ sp_ fun hHeld => ?_
   clear hK K
   refine nm_ 26 ?_
   refine a1_ 8 27 (h := ?_)
   refine last_ (i := 9) (N := none) (fA 10 1023) rfl rfl (one_of HT_.out (by kernel_rfl)) (by decide) (fun K hK => ?_)
   have hs21 : w20.cell? ⟨gb180, 0, none⟩ = some (.int .i64 x181000_1) := (blk_cell BK180.out 0).trans rfl
   have hfs21 := blk_frozen BK180.out 0
   have hns21_0 := NB177_180.out
   have hns21_1 := NB178_180.out
   have hns21_3 := NB182_180.out
   have hms21_0 := NB180_177.out
   have hms21_1 := NB180_178.out
   have hms21_3 := NB180_182.out
   refine skip_ (w1 := ?_) (by rfl) rfl ?_ ?_
   rotate_left
   · go_simp
     rfl
   refine hK.out _ _ ?_
   clear hK K
   refine dn_ ?_
   try go_wp2
   have n0_ : Aside0 ((w20.setCell ⟨gb180, 0, none⟩ (.int .i64 t184)).heap[gb177]? = some (.cells #[.int .i64 0, .int .i64 0] 105 (0, 0))) := ⟨by refine bl_ ?_; refine blk_far ?_ NB177_180.out _; refine bl_ ?_; exact BK177.out⟩
   have n1_ : Aside0 ((w20.setCell ⟨gb180, 0, none⟩ (.int .i64 t184)).heap[gb178]? = some (.cells #[.int .i64 0, .int .i64 0] 105 (0, 0))) := ⟨by refine bl_ ?_; refine blk_far ?_ NB178_180.out _; refine bl_ ?_; exact BK178.out⟩
   have n2_ : Aside0 ((w20.setCell ⟨gb180, 0, none⟩ (.int .i64 t184)).heap[gb180]? = some (.cells #[.int .i64 t184, .int .i64 x181001_1] 105 (0, 0))) := ⟨by refine bl_ ?_; refine blk_put (cs := #[.int .i64 x181000_1, .int .i64 x181001_1]) ?_ 0 _ rfl; refine bl_ ?_; exact BK180.out⟩
   have n3_ : Aside0 ((w20.setCell ⟨gb180, 0, none⟩ (.int .i64 t184)).heap[gb182]? = some (.cells #[.int .i64 x183000_1, .int .i64 x183001_1] 105 (0, 0))) := ⟨by refine bl_ ?_; refine blk_far ?_ NB182_180.out _; refine bl_ ?_; exact BK182.out⟩
   have n4_ : Aside0 (Below w.heap.size w (w20.setCell ⟨gb180, 0, none⟩ (.int .i64 t184))) := ⟨bs4_ HB.out GE177.out GE178.out GE180.out GE182.out⟩
   (try clear BK177)
   (try clear BK178)
   (try clear BK180)
   (try clear BK182)
   (try clear HB)
   generalize (w20.setCell ⟨gb180, 0, none⟩ (.int .i64 t184)) = w22 at n0_ n1_ n2_ n3_ n4_ ⊢
   have BK177 := n0_
   have BK178 := n1_
   have BK180 := n2_
   have BK182 := n3_
   have HB := n4_
   clear n0_ n1_ n2_ n3_ n4_
   (try (rw [drewN_self w22]; generalize hq_ : World.drewN w22 _ = w22; have n0_ : Aside0 (w22.heap[gb177]? = some (.cells #[.int .i64 0, .int .i64 0] 105 (0, 0))) := ⟨by rw [← hq_]; exact (bl_ BK177.out)⟩; have n1_ : Aside0 (w22.heap[gb178]? = some (.cells #[.int .i64 0, .int .i64 0] 105 (0, 0))) := ⟨by rw [← hq_]; exact (bl_ BK178.out)⟩; have n2_ : Aside0 (w22.heap[gb180]? = some (.cells #[.int .i64 t184, .int .i64 x181001_1] 105 (0, 0))) := ⟨by rw [← hq_]; exact (bl_ BK180.out)⟩; have n3_ : Aside0 (w22.heap[gb182]? = some (.cells #[.int .i64 x183000_1, .int .i64 x183001_1] 105 (0, 0))) := ⟨by rw [← hq_]; exact (bl_ BK182.out)⟩; have n4_ : Aside0 (Below w.heap.size w w22) := ⟨by rw [← hq_]; exact (bs4_ HB.out GE177.out GE178.out GE180.out GE182.out)⟩; clear BK177 BK178 BK180 BK182 HB hq_; have BK177 := n0_; have BK178 := n1_; have BK180 := n2_; have BK182 := n3_; have HB := n4_; clear n0_ n1_ n2_ n3_ n4_))
   replace BK177 := mkA (blk_drew BK177.out)
   replace BK178 := mkA (blk_drew BK178.out)
   replace BK180 := mkA (blk_drew BK180.out)
   replace BK182 := mkA (blk_drew BK182.out)
   replace HB := mkA (below_drew1 HB.out)
   obtain ⟨ad185, e185, hw185_0, hw185_1⟩ := at_T105 HR0.out x6_1 dt_ dt_
   obtain rfl : ad179 = ad185 := (by injection e185)
   obtain ⟨hx185_0, hx185_1⟩ := b2_ HB.out hw185_0 hw185_1
   have p185 : (0 ≤ (x6_1 : Int)) = True := eq_true dt_
   have q185 : (x6_1 < (l0.length : Int)) = True := eq_true dt_
   refine st_ 10 (fun w' => w'.cell? ⟨gb180, 0, none⟩ = some (.int .i64 t184) ∧ w'.cell? ⟨gb180, 1, none⟩ = some (.int .i64 x181001_1) ∧ C_ hw185_0 w' ∧ C_ hw185_1 w') [9] spec_l03Bounds.tab7 spec_l03Bounds.bits7 sp_ fun hHeld HT_ HW_ => ?_
   generalize w22.drew = w23 at BK177 BK178 BK180 BK182 HB hx185_0 hx185_1 hHeld ⊢
   refine a1_ 0 28 (h := a1_ 2 30 (h := a1_ 3 31 (h := a1_ 4 32 (h := a1_ 5 33 (h := tk_ 1 29 (h := tk_ 6 34 (h := ?_)))))))
   refine on_ 7 35 fun K hK => ?_
   refine go_ Try.func108 #[.int .i64 x181001_1, .int .i64 ((rd_T105 l0 x6_1).f1)] ?_
   with_reducible refine (spec_l00Min.calls x181001_1 ((rd_T105 l0 x6_1).f1) t186 _ A17.out).mono ?_
   rintro e w' ⟨rfl, ⟨nd, rfl⟩⟩
   refine ⟨_, rfl, ?_⟩
   (try (rw [drewN_self w23]; generalize hq_ : World.drewN w23 _ = w23; have n0_ := mkA (blk_at hq_ BK177.out); have n1_ := mkA (blk_at hq_ BK178.out); have n2_ := mkA (blk_at hq_ BK180.out); have n3_ := mkA (blk_at hq_ BK182.out); have n4_ := mkA (below_at hq_ HB.out); clear hq_ BK177 BK178 BK180 BK182 HB; have BK177 := n0_; have BK178 := n1_; have BK180 := n2_; have BK182 := n3_; have HB := n4_; clear n0_ n1_ n2_ n3_ n4_))
   refine hK.out _ _ sp_ fun hHeld => ?_
   clear hK K
   refine nm_ 35 ?_
   refine a1_ 8 36 (h := ?_)
   refine last_ (i := 9) (N := none) (fA 10 1023) rfl rfl (one_of HT_.out (by kernel_rfl)) (by decide) (fun K hK => ?_)
   have hs24 : w23.cell? ⟨gb180, 1, none⟩ = some (.int .i64 x181001_1) := (blk_cell BK180.out 1).trans rfl
   have hfs24 := blk_frozen BK180.out 1
   have hns24_0 := NB177_180.out
   have hns24_1 := NB178_180.out
   have hns24_3 := NB182_180.out
   have hms24_0 := NB180_177.out
   have hms24_1 := NB180_178.out
   have hms24_3 := NB180_182.out
   refine skip_ (w1 := ?_) (by rfl) rfl ?_ ?_
   rotate_left
   · go_simp
     rfl
   refine hK.out _ _ ?_
   clear hK K
   refine dn_ ?_
   try go_wp2
   have n0_ : Aside0 ((w23.setCell ⟨gb180, 1, none⟩ (.int .i64 t186)).heap[gb177]? = some (.cells #[.int .i64 0, .int .i64 0] 105 (0, 0))) := ⟨by refine bl_ ?_; refine blk_far ?_ NB177_180.out _; refine bl_ ?_; exact BK177.out⟩
   have n1_ : Aside0 ((w23.setCell ⟨gb180, 1, none⟩ (.int .i64 t186)).heap[gb178]? = some (.cells #[.int .i64 0, .int .i64 0] 105 (0, 0))) := ⟨by refine bl_ ?_; refine blk_far ?_ NB178_180.out _; refine bl_ ?_; exact BK178.out⟩
   have n2_ : Aside0 ((w23.setCell ⟨gb180, 1, none⟩ (.int .i64 t186)).heap[gb180]? = some (.cells #[.int .i64 t184, .int .i64 t186] 105 (0, 0))) := ⟨by refine bl_ ?_; refine blk_put (cs := #[.int .i64 t184, .int .i64 x181001_1]) ?_ 1 _ rfl; refine bl_ ?_; exact BK180.out⟩
   have n3_ : Aside0 ((w23.setCell ⟨gb180, 1, none⟩ (.int .i64 t186)).heap[gb182]? = some (.cells #[.int .i64 x183000_1, .int .i64 x183001_1] 105 (0, 0))) := ⟨by refine bl_ ?_; refine blk_far ?_ NB182_180.out _; refine bl_ ?_; exact BK182.out⟩
   have n4_ : Aside0 (Below w.heap.size w (w23.setCell ⟨gb180, 1, none⟩ (.int .i64 t186))) := ⟨bs4_ HB.out GE177.out GE178.out GE180.out GE182.out⟩
   (try clear BK177)
   (try clear BK178)
   (try clear BK180)
   (try clear BK182)
   (try clear HB)
   generalize (w23.setCell ⟨gb180, 1, none⟩ (.int .i64 t186)) = w25 at n0_ n1_ n2_ n3_ n4_ ⊢
   have BK177 := n0_
   have BK178 := n1_
   have BK180 := n2_
   have BK182 := n3_
   have HB := n4_
   clear n0_ n1_ n2_ n3_ n4_
   (try (rw [drewN_self w25]; generalize hq_ : World.drewN w25 _ = w25; have n0_ : Aside0 (w25.heap[gb177]? = some (.cells #[.int .i64 0, .int .i64 0] 105 (0, 0))) := ⟨by rw [← hq_]; exact (bl_ BK177.out)⟩; have n1_ : Aside0 (w25.heap[gb178]? = some (.cells #[.int .i64 0, .int .i64 0] 105 (0, 0))) := ⟨by rw [← hq_]; exact (bl_ BK178.out)⟩; have n2_ : Aside0 (w25.heap[gb180]? = some (.cells #[.int .i64 t184, .int .i64 t186] 105 (0, 0))) := ⟨by rw [← hq_]; exact (bl_ BK180.out)⟩; have n3_ : Aside0 (w25.heap[gb182]? = some (.cells #[.int .i64 x183000_1, .int .i64 x183001_1] 105 (0, 0))) := ⟨by rw [← hq_]; exact (bl_ BK182.out)⟩; have n4_ : Aside0 (Below w.heap.size w w25) := ⟨by rw [← hq_]; exact (bs4_ HB.out GE177.out GE178.out GE180.out GE182.out)⟩; clear BK177 BK178 BK180 BK182 HB hq_; have BK177 := n0_; have BK178 := n1_; have BK180 := n2_; have BK182 := n3_; have HB := n4_; clear n0_ n1_ n2_ n3_ n4_))
   replace BK177 := mkA (blk_drew BK177.out)
   replace BK178 := mkA (blk_drew BK178.out)
   replace BK180 := mkA (blk_drew BK180.out)
   replace BK182 := mkA (blk_drew BK182.out)
   replace HB := mkA (below_drew1 HB.out)
   obtain ⟨ad187, e187, hw187_0, hw187_1⟩ := at_T105 HR0.out x6_1 dt_ dt_
   obtain rfl : ad179 = ad187 := (by injection e187)
   obtain ⟨hx187_0, hx187_1⟩ := b2_ HB.out hw187_0 hw187_1
   have p187 : (0 ≤ (x6_1 : Int)) = True := eq_true dt_
   have q187 : (x6_1 < (l0.length : Int)) = True := eq_true dt_
   refine st_ 10 (fun w' => w'.cell? ⟨gb182, 0, none⟩ = some (.int .i64 x183000_1) ∧ w'.cell? ⟨gb182, 1, none⟩ = some (.int .i64 x183001_1) ∧ C_ hw187_0 w' ∧ C_ hw187_1 w') [9] spec_l03Bounds.tab8 spec_l03Bounds.bits8 sp_ fun hHeld HT_ HW_ => ?_
   generalize w25.drew = w26 at BK177 BK178 BK180 BK182 HB hx187_0 hx187_1 hHeld ⊢
   refine a1_ 0 37 (h := a1_ 2 39 (h := a1_ 3 40 (h := a1_ 4 41 (h := a1_ 5 42 (h := tk_ 1 38 (h := tk_ 6 43 (h := ?_)))))))
   refine on_ 7 44 fun K hK => ?_
   refine go_ Try.func109 #[.int .i64 x183000_1, .int .i64 ((rd_T105 l0 x6_1).f0)] ?_
   with_reducible refine (spec_l00Max.calls x183000_1 ((rd_T105 l0 x6_1).f0) t188 _ A18.out).mono ?_
   rintro e w' ⟨rfl, ⟨nd, rfl⟩⟩
   refine ⟨_, rfl, ?_⟩
   (try (rw [drewN_self w26]; generalize hq_ : World.drewN w26 _ = w26; have n0_ := mkA (blk_at hq_ BK177.out); have n1_ := mkA (blk_at hq_ BK178.out); have n2_ := mkA (blk_at hq_ BK180.out); have n3_ := mkA (blk_at hq_ BK182.out); have n4_ := mkA (below_at hq_ HB.out); clear hq_ BK177 BK178 BK180 BK182 HB; have BK177 := n0_; have BK178 := n1_; have BK180 := n2_; have BK182 := n3_; have HB := n4_; clear n0_ n1_ n2_ n3_ n4_))
   refine hK.out _ _ sp_ fun hHeld => ?_
   clear hK K
   refine nm_ 44 ?_
   refine a1_ 8 45 (h := ?_)
   refine last_ (i := 9) (N := none) (fA 10 1023) rfl rfl (one_of HT_.out (by kernel_rfl)) (by decide) (fun K hK => ?_)
   have hs27 : w26.cell? ⟨gb182, 0, none⟩ = some (.int .i64 x183000_1) := (blk_cell BK182.out 0).trans rfl
   have hfs27 := blk_frozen BK182.out 0
   have hns27_0 := NB177_182.out
   have hns27_1 := NB178_182.out
   have hns27_2 := NB180_182.out
   have hms27_0 := NB182_177.out
   have hms27_1 := NB182_178.out
   have hms27_2 := NB182_180.out
   refine skip_ (w1 := ?_) (by rfl) rfl ?_ ?_
   rotate_left
   · go_simp
     rfl
   refine hK.out _ _ ?_
   clear hK K
   refine dn_ ?_
   try go_wp2
   have n0_ : Aside0 ((w26.setCell ⟨gb182, 0, none⟩ (.int .i64 t188)).heap[gb177]? = some (.cells #[.int .i64 0, .int .i64 0] 105 (0, 0))) := ⟨by refine bl_ ?_; refine blk_far ?_ NB177_182.out _; refine bl_ ?_; exact BK177.out⟩
   have n1_ : Aside0 ((w26.setCell ⟨gb182, 0, none⟩ (.int .i64 t188)).heap[gb178]? = some (.cells #[.int .i64 0, .int .i64 0] 105 (0, 0))) := ⟨by refine bl_ ?_; refine blk_far ?_ NB178_182.out _; refine bl_ ?_; exact BK178.out⟩
   have n2_ : Aside0 ((w26.setCell ⟨gb182, 0, none⟩ (.int .i64 t188)).heap[gb180]? = some (.cells #[.int .i64 t184, .int .i64 t186] 105 (0, 0))) := ⟨by refine bl_ ?_; refine blk_far ?_ NB180_182.out _; refine bl_ ?_; exact BK180.out⟩
   have n3_ : Aside0 ((w26.setCell ⟨gb182, 0, none⟩ (.int .i64 t188)).heap[gb182]? = some (.cells #[.int .i64 t188, .int .i64 x183001_1] 105 (0, 0))) := ⟨by refine bl_ ?_; refine blk_put (cs := #[.int .i64 x183000_1, .int .i64 x183001_1]) ?_ 0 _ rfl; refine bl_ ?_; exact BK182.out⟩
   have n4_ : Aside0 (Below w.heap.size w (w26.setCell ⟨gb182, 0, none⟩ (.int .i64 t188))) := ⟨bs4_ HB.out GE177.out GE178.out GE180.out GE182.out⟩
   (try clear BK177)
   (try clear BK178)
   (try clear BK180)
   (try clear BK182)
   (try clear HB)
   generalize (w26.setCell ⟨gb182, 0, none⟩ (.int .i64 t188)) = w28 at n0_ n1_ n2_ n3_ n4_ ⊢
   have BK177 := n0_
   have BK178 := n1_
   have BK180 := n2_
   have BK182 := n3_
   have HB := n4_
   clear n0_ n1_ n2_ n3_ n4_
   (try (rw [drewN_self w28]; generalize hq_ : World.drewN w28 _ = w28; have n0_ : Aside0 (w28.heap[gb177]? = some (.cells #[.int .i64 0, .int .i64 0] 105 (0, 0))) := ⟨by rw [← hq_]; exact (bl_ BK177.out)⟩; have n1_ : Aside0 (w28.heap[gb178]? = some (.cells #[.int .i64 0, .int .i64 0] 105 (0, 0))) := ⟨by rw [← hq_]; exact (bl_ BK178.out)⟩; have n2_ : Aside0 (w28.heap[gb180]? = some (.cells #[.int .i64 t184, .int .i64 t186] 105 (0, 0))) := ⟨by rw [← hq_]; exact (bl_ BK180.out)⟩; have n3_ : Aside0 (w28.heap[gb182]? = some (.cells #[.int .i64 t188, .int .i64 x183001_1] 105 (0, 0))) := ⟨by rw [← hq_]; exact (bl_ BK182.out)⟩; have n4_ : Aside0 (Below w.heap.size w w28) := ⟨by rw [← hq_]; exact (bs4_ HB.out GE177.out GE178.out GE180.out GE182.out)⟩; clear BK177 BK178 BK180 BK182 HB hq_; have BK177 := n0_; have BK178 := n1_; have BK180 := n2_; have BK182 := n3_; have HB := n4_; clear n0_ n1_ n2_ n3_ n4_))
   replace BK177 := mkA (blk_drew BK177.out)
   replace BK178 := mkA (blk_drew BK178.out)
   replace BK180 := mkA (blk_drew BK180.out)
   replace BK182 := mkA (blk_drew BK182.out)
   replace HB := mkA (below_drew1 HB.out)
   obtain ⟨ad189, e189, hw189_0, hw189_1⟩ := at_T105 HR0.out x6_1 dt_ dt_
   obtain rfl : ad179 = ad189 := (by injection e189)
   obtain ⟨hx189_0, hx189_1⟩ := b2_ HB.out hw189_0 hw189_1
   have p189 : (0 ≤ (x6_1 : Int)) = True := eq_true dt_
   have q189 : (x6_1 < (l0.length : Int)) = True := eq_true dt_
   refine st_ 10 (fun w' => w'.cell? ⟨gb182, 0, none⟩ = some (.int .i64 t188) ∧ w'.cell? ⟨gb182, 1, none⟩ = some (.int .i64 x183001_1) ∧ C_ hw189_0 w' ∧ C_ hw189_1 w') [9] spec_l03Bounds.tab9 spec_l03Bounds.bits9 sp_ fun hHeld HT_ HW_ => ?_
   generalize w28.drew = w29 at BK177 BK178 BK180 BK182 HB hx189_0 hx189_1 hHeld ⊢
   refine a1_ 0 46 (h := a1_ 2 48 (h := a1_ 3 49 (h := a1_ 4 50 (h := a1_ 5 51 (h := tk_ 1 47 (h := tk_ 6 52 (h := ?_)))))))
   refine on_ 7 53 fun K hK => ?_
   refine go_ Try.func109 #[.int .i64 x183001_1, .int .i64 ((rd_T105 l0 x6_1).f1)] ?_
   with_reducible refine (spec_l00Max.calls x183001_1 ((rd_T105 l0 x6_1).f1) t190 _ A19.out).mono ?_
   rintro e w' ⟨rfl, ⟨nd, rfl⟩⟩
   refine ⟨_, rfl, ?_⟩
   (try (rw [drewN_self w29]; generalize hq_ : World.drewN w29 _ = w29; have n0_ := mkA (blk_at hq_ BK177.out); have n1_ := mkA (blk_at hq_ BK178.out); have n2_ := mkA (blk_at hq_ BK180.out); have n3_ := mkA (blk_at hq_ BK182.out); have n4_ := mkA (below_at hq_ HB.out); clear hq_ BK177 BK178 BK180 BK182 HB; have BK177 := n0_; have BK178 := n1_; have BK180 := n2_; have BK182 := n3_; have HB := n4_; clear n0_ n1_ n2_ n3_ n4_))
   refine hK.out _ _ sp_ fun hHeld => ?_
   clear hK K
   refine nm_ 53 ?_
   refine a1_ 8 54 (h := ?_)
   refine last_ (i := 9) (N := none) (fA 10 1023) rfl rfl (one_of HT_.out (by kernel_rfl)) (by decide) (fun K hK => ?_)
   have hs30 : w29.cell? ⟨gb182, 1, none⟩ = some (.int .i64 x183001_1) := (blk_cell BK182.out 1).trans rfl
   have hfs30 := blk_frozen BK182.out 1
   have hns30_0 := NB177_182.out
   have hns30_1 := NB178_182.out
   have hns30_2 := NB180_182.out
   have hms30_0 := NB182_177.out
   have hms30_1 := NB182_178.out
   have hms30_2 := NB182_180.out
   refine skip_ (w1 := ?_) (by rfl) rfl ?_ ?_
   rotate_left
   · go_simp
     rfl
   refine hK.out _ _ ?_
   clear hK K
   refine dn_ ?_
   try go_wp2
   go_roundg k1
   case measure => have := HK1.out; omega
   case rel => exact ⟨(wrap64 (x6_1 + 1)), (t184), (t186), (t188), (t190), rf_, H', ⟨om_ HK1.out⟩, ⟨by refine bl_ ?_; refine blk_far ?_ NB177_182.out _; refine bl_ ?_; exact BK177.out⟩, ⟨by refine bl_ ?_; refine blk_far ?_ NB178_182.out _; refine bl_ ?_; exact BK178.out⟩, ⟨by refine bl_ ?_; refine blk_far ?_ NB180_182.out _; refine bl_ ?_; exact BK180.out⟩, ⟨by refine bl_ ?_; refine blk_put (cs := #[.int .i64 t188, .int .i64 x183001_1]) ?_ 1 _ rfl; refine bl_ ?_; exact BK182.out⟩, ⟨bs4_ HB.out GE177.out GE178.out GE180.out GE182.out⟩⟩
end Go.Proofs.Ytakagkflgkoiiaa.GFnExactFirstUncovered

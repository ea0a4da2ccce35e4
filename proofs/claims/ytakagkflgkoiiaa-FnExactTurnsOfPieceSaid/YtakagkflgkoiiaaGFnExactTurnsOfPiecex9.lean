-- Written by the session's own program (gen.py) out of the translation's print. Lean checks it.
import Derived.Test.YtakagkflgkoiiaaGFnExactTurnsOfPiecex0
namespace Go.Proofs.Ytakagkflgkoiiaa.GFnExactTurnsOfPiece
open Go.RowKit Go.Proofs.YtakagkflgkoiiaaW.PrintWords Go.Proofs.YtakagkflgkoiiaaW.PrintLast Go.Proofs.YtakagkflgkoiiaaW.PrintMore
attribute [local go_sem] max2_int min2_int max_two min_two max_three min_three max_four min_four   -- for this text's walks alone
set_option linter.unusedVariables false
set_option linter.unusedSimpArgs false

/-! ### impl_bounds: function 90 -/
def impl_bounds.l0 : Nat → List (S105) → Int → Int → Int → Int → Int → Int → Option (Int × Int × Int × Int)
  | 0, _, _, _, _, _, _, _ => none
  | k + 1, x14, x15, x16, x259000, x259001, x260000, x260001 => if x16 < x15 then (if 0 ≤ x16 then (if x16 < (x14.length : Int) then (impl_bounds.l0 k x14 x15 (wrap64 (x16 + 1)) (mn x259000 ((rd_T105 x14 x16).f0)) (mn x259001 ((rd_T105 x14 x16).f1)) (mx x260000 ((rd_T105 x14 x16).f0)) (mx x260001 ((rd_T105 x14 x16).f1))) else (none)) else (none)) else (some (x259000, x259001, x260000, x260001))
def impl_bounds.f (k : Nat) (l0 : List (S105)) : Option (Int × Int × Int × Int) := if 0 < (l0.length : Int) then (impl_bounds.l0 k l0 (l0.length : Int) 0 ((rd_T105 l0 0).f0) ((rd_T105 l0 0).f1) ((rd_T105 l0 0).f0) ((rd_T105 l0 0).f1)) else (none)
def impl_bounds.T1 : Bool × List (List Nat × List Nat) := (true, [([], []), ([0], [0]), ([1], [1]), ([], []), ([3], [3]), ([4], [4]), ([], []), ([], []), ([6, 2, 0, 1, 2, 6, 7], [2, 6]), ([7, 5, 8, 0, 1, 2, 3, 4, 5, 6, 7, 8], [5, 7])])
def impl_bounds.B1 : List Nat := [0, 1, 3, 0, 8, 24, 0, 0, 199, 511]
theorem impl_bounds.tab1 : rtab .any (opsOf Try.f90 1) = impl_bounds.T1 := by kernel_rfl
theorem impl_bounds.bits1 : waitsOk impl_bounds.T1.2 impl_bounds.B1 = true := by kernel_rfl
open List renaming setIfInBounds_toArray → sA, set_cons_zero → sB, set_cons_succ → sC
open Go.Proofs.YtakagkflgkoiiaaW.PrintWords.Aside0 renaming mk → mkA
open Go.Proofs.YtakagkflgkoiiaaX (dt_ bc_ p0_ p1_ bl_ cb_ bs0_ bs1_ bs2_ bs3_ bs4_ bs5_ bs6_ bs7_ bs8_ bs9_ bs10_ bs11_ bs12_)
abbrev impl_bounds.d0 : Array Bool := #[false, false, false, false, false, false, false, false, false, false]
abbrev impl_bounds.d1 : Array Bool := #[true, false, false, false, false, false, false, false, false, false]
abbrev impl_bounds.d2 : Array Bool := #[true, true, false, false, false, false, false, false, false, false]
abbrev impl_bounds.d3 : Array Bool := #[true, true, false, true, false, false, false, false, false, false]
abbrev impl_bounds.d4 : Array Bool := #[true, true, false, true, true, false, false, false, false, false]
abbrev impl_bounds.d5 : Array Bool := #[true, true, true, true, true, false, false, false, false, false]
abbrev impl_bounds.d6 : Array Bool := #[true, true, true, true, true, true, false, false, false, false]
abbrev impl_bounds.d7 : Array Bool := #[true, true, true, true, true, true, true, true, false, false]
abbrev impl_bounds.d8 : Array Bool := #[true, true, true, true, true, true, true, false, false, false]
abbrev impl_bounds.d9 : Array Bool := #[true, true, true, true, true, true, false, true, false, false]
abbrev impl_bounds.d10 : Array Bool := #[true, true, true, true, true, true, true, true, true, false]
abbrev impl_bounds.d11 : Array Bool := #[true, true, true, true, true, true, true, true, true, true]
set_option maxHeartbeats 8000000 in
set_option maxRecDepth 100000 in
theorem impl_bounds.calls (k : Nat) (A0 : Option Addr) (c0 : Nat) (l0 : List (S105)) (r1 : Int) (r2 : Int) (r3 : Int) (r4 : Int) (w : World) (hr0 : Kd.C k105 w A0 l0.length l0) (hc0 : l0.length ≤ c0) (h : impl_bounds.f k l0 = some (r1, r2, r3, r4)) :
 Calls Try.prog 90 #[.slice A0 l0.length c0] w fun e w' => e = .returned (.tuple #[.agg #[.int .i64 r1, .int .i64 r2], .agg #[.int .i64 r3, .int .i64 r4]]) ∧ Below w.heap.size w w' := by
 have hu105 := Try.underlying105
 have HR0 := mkA hr0
 have HC0 := mkA hc0
 clear hr0 hc0
 have HB := mkA (Below.refl w.heap.size w)
 have H : (if 0 < (l0.length : Int) then (impl_bounds.l0 k l0 (l0.length : Int) 0 ((rd_T105 l0 0).f0) ((rd_T105 l0 0).f1) ((rd_T105 l0 0).f0) ((rd_T105 l0 0).f1)) else (none)) = some (r1, r2, r3, r4) := h
 clear h
 by_cases c2 : 0 < (l0.length : Int)
 rotate_left
 · rw [if_neg c2] at H
   exact absurd H (by simp)

 rw [if_pos c2] at H
 have c2b0 : decide (0 < (l0.length : Int)) = true := decide_eq_true c2
 have c2b1 : decide (0 < l0.length) = true := decide_eq_true (by omega)
 clear c2
 have H' := mkA H
 clear H
 go_enter Try.func90, Try.ntmps90
 try go_wp2_with (first | ((with_reducible refine gate_dst (N := 2) rfl ?_); refine box_event ?hg (N := 2) ?hd (cs := #[.int .i64 0, .int .i64 0]) (t := 105) ?hr ?_; (case hd => rfl); (case hg => rfl); (case hr => first | (go_simp; done) | (go_simp; rfl)); intro gb254 hg w3 hbox hb; have n0_ := mkA (below_step (bs0_ HB.out) hb); have n1_ := mkA (hbox); have n2_ := mkA ((by rw [hg]; exact (below_size (bs0_ HB.out)) : w.heap.size ≤ gb254)); have n3_ := mkA ((by rw [hg]; exact (below_size (bs0_ HB.out)) : w.heap.size ≤ gb254)); clear HB; have HB := n0_; have BK254 := n1_; have GW254 := n2_; have GE254 := n3_; clear n0_ n1_ n2_ n3_; clear hb hbox hg) | ((with_reducible refine gate_dst (N := 3) rfl ?_); refine box_event ?hg (N := 3) ?hd (cs := #[.int .i64 0, .int .i64 0]) (t := 105) ?hr ?_; (case hd => rfl); (case hg => rfl); (case hr => first | (go_simp; done) | (go_simp; rfl)); intro gb255 hg w4 hbox hb; have n0_ := mkA (blk_below (g := gb254) (o := .cells #[.int .i64 0, .int .i64 0] 105 (0, 0)) (bl_ BK254.out) hb); have n1_ := mkA (below_step (bs1_ HB.out GE254.out) hb); have n2_ := mkA (hbox); have n3_ := mkA ((by rw [hg]; exact (below_size (bs1_ HB.out GE254.out)) : w.heap.size ≤ gb255)); have n4_ := mkA ((by rw [hg]; exact (below_size (bs1_ HB.out GE254.out)) : w.heap.size ≤ gb255)); have n5_ := mkA ((by rw [hg]; exact Nat.ne_of_lt (blk_lt (g := gb254) (o := .cells #[.int .i64 0, .int .i64 0] 105 (0, 0)) (bl_ BK254.out)) : gb254 ≠ gb255)); have n6_ := mkA ((by rw [hg]; exact Nat.ne_of_gt (blk_lt (g := gb254) (o := .cells #[.int .i64 0, .int .i64 0] 105 (0, 0)) (bl_ BK254.out)) : gb255 ≠ gb254)); clear BK254; clear HB; have BK254 := n0_; have HB := n1_; have BK255 := n2_; have GW255 := n3_; have GE255 := n4_; have NB254_255 := n5_; have NB255_254 := n6_; clear n0_ n1_ n2_ n3_ n4_ n5_ n6_; clear hb hbox hg))
 have n0_ := mkA (blk_drew BK254.out)
 have n1_ := mkA (blk_drew BK255.out)
 have n2_ := mkA (below_drew1 HB.out)
 clear BK254
 clear BK255
 clear HB
 have BK254 := n0_
 have BK255 := n1_
 have HB := n2_
 clear n0_ n1_ n2_
 have p256 : 0 ≤ (0 : Int) := (by omega)
 have q256 : 0 < (l0.length : Int) := dt_
 obtain ⟨ad256, e256, hx256_0, hx256_1⟩ := at_T105 HR0.out 0 p256 q256
 have hw256_1 := hx256_1
 (try simp only [show ((0 : Int)).toNat = 0 from rfl, show 0 * 2 = 0 from rfl, Addr.add_zero'] at hw256_1)
 have hw256_0 := hx256_0
 (try simp only [show ((0 : Int)).toNat = 0 from rfl, show 0 * 2 = 0 from rfl, Addr.add_zero'] at hw256_0)
 cases e256
 have qi256 : (0 < l0.length) = True := eq_true (by omega)
 (try simp only [show ((0 : Int)).toNat = 0 from rfl, show 0 * 2 = 0 from rfl, Addr.add_zero'] at hx256_0 hx256_1)
 replace hx256_0 := bc_ HB.out hx256_0
 replace hx256_1 := bc_ HB.out hx256_1
 replace p256 := eq_true p256
 replace q256 := eq_true q256
 have p257 : 0 ≤ (0 : Int) := (by omega)
 have q257 : 0 < (l0.length : Int) := dt_
 obtain ⟨ad257, e257, hx257_0, hx257_1⟩ := at_T105 HR0.out 0 p257 q257
 have hw257_1 := hx257_1
 (try simp only [show ((0 : Int)).toNat = 0 from rfl, show 0 * 2 = 0 from rfl, Addr.add_zero'] at hw257_1)
 have hw257_0 := hx257_0
 (try simp only [show ((0 : Int)).toNat = 0 from rfl, show 0 * 2 = 0 from rfl, Addr.add_zero'] at hw257_0)
 obtain rfl : ad256 = ad257 := (by injection e257)
 have qi257 : (0 < l0.length) = True := eq_true (by omega)
 (try simp only [show ((0 : Int)).toNat = 0 from rfl, show 0 * 2 = 0 from rfl, Addr.add_zero'] at hx257_0 hx257_1)
 replace hx257_0 := bc_ HB.out hx257_0
 replace hx257_1 := bc_ HB.out hx257_1
 replace p257 := eq_true p257
 replace q257 := eq_true q257
 refine start_ (n := 10) (S := fun w' => w'.cell? ad256 = some (.int .i64 ((rd_T105 l0 0).f0)) ∧ w'.cell? ⟨ad256.block, ad256.off + 1, none⟩ = some (.int .i64 ((rd_T105 l0 0).f1)) ∧ w'.cell? ad256 = some (.int .i64 ((rd_T105 l0 0).f0)) ∧ w'.cell? ⟨ad256.block, ad256.off + 1, none⟩ = some (.int .i64 ((rd_T105 l0 0).f1))) (ds := []) impl_bounds.d0 (by kernel_rfl) rfl rfl ⟨(bc_ HB.out hw256_0 :), (bc_ HB.out hw256_1 :), (bc_ HB.out hw257_0 :), (bc_ HB.out hw257_1 :)⟩ (fun hHeld => ?_); refine with_tabW impl_bounds.tab1 impl_bounds.bits1 (fun HT_ HW_ => ?_)
 generalize w4.drew = w5 at BK254 BK255 HB hx256_0 hx256_1 hx257_0 hx257_1 hHeld ⊢
 refine p1_ HT_.out 0 8 impl_bounds.d1 ?_
 refine p1_ HT_.out 1 9 impl_bounds.d2 ?_
 refine p1_ HT_.out 3 11 impl_bounds.d3 ?_
 refine p1_ HT_.out 4 12 impl_bounds.d4 ?_
 refine take_ (i := 2) (N := some 10) (v := ?_) (a' := ?_) impl_bounds.d5 rfl rfl (take_ofW HT_.out HW_.out (by kernel_rfl)) (fun _ _ _ h => h) (Or.inl ⟨by rfl, ?_⟩) hHeld ?_ ?_
 rotate_left
 · rintro w' ⟨s0, s1, s2, s3⟩
   go_simp
   with_reducible rfl
 rotate_left
 · simp only [Act.put, sA, sB, sC, i64_w, i32_w]
   rfl
 refine take_ (i := 5) (N := some 13) (v := ?_) (a' := ?_) impl_bounds.d6 rfl rfl (take_ofW HT_.out HW_.out (by kernel_rfl)) (fun _ _ _ h => h) (Or.inl ⟨by rfl, ?_⟩) hHeld ?_ ?_
 rotate_left
 · rintro w' ⟨s0, s1, s2, s3⟩
   go_simp
   with_reducible rfl
 rotate_left
 · simp only [Act.put, sA, sB, sC, i64_w, i32_w]
   rfl
 refine join_ (σ := Nat × Nat) 2 impl_bounds.d7 (fun s_ => [(4, .pointer (some ⟨s_.1, 0, none⟩)), (5, .pointer (some ⟨s_.2, 0, none⟩))]) (fun s_ w' => (w'.cell? ad256 = some (.int .i64 ((rd_T105 l0 0).f0)) ∧ w'.cell? ⟨ad256.block, ad256.off + 1, none⟩ = some (.int .i64 ((rd_T105 l0 0).f1)) ∧ w'.cell? ad256 = some (.int .i64 ((rd_T105 l0 0).f0)) ∧ w'.cell? ⟨ad256.block, ad256.off + 1, none⟩ = some (.int .i64 ((rd_T105 l0 0).f1))) ∧ (w'.heap[gb254]? = some (.cells #[.int .i64 0, .int .i64 0] 105 (0, 0))) ∧ (w'.heap[gb255]? = some (.cells #[.int .i64 0, .int .i64 0] 105 (0, 0))) ∧ (w'.heap[s_.1]? = some (.cells #[.int .i64 0, .int .i64 0] 105 (0, 0))) ∧ (w'.heap[s_.2]? = some (.cells #[.int .i64 0, .int .i64 0] 105 (0, 0))) ∧ (w.heap.size ≤ s_.1) ∧ (w.heap.size ≤ s_.1) ∧ (gb254 ≠ s_.1) ∧ (s_.1 ≠ gb254) ∧ (gb255 ≠ s_.1) ∧ (s_.1 ≠ gb255) ∧ (s_.2 ≠ s_.1) ∧ (s_.1 ≠ s_.2) ∧ (w.heap.size ≤ s_.2) ∧ (w.heap.size ≤ s_.2) ∧ (gb254 ≠ s_.2) ∧ (s_.2 ≠ gb254) ∧ (gb255 ≠ s_.2) ∧ (s_.2 ≠ gb255) ∧ (Below w.heap.size w w')) ?_ ?_
 rotate_left
 · intro hCont
   refine two_ (i := 6) (j := 7) (Ni := some 4) (Nj := some 5) impl_bounds.d8 impl_bounds.d9 rfl rfl rfl rfl (two_of HT_.out (by kernel_rfl)) (by decide) (by decide) (fun K hK => ?_) (fun K hK => ?_)
   · skip
     refine box_step ?hg (N := 4) ?hd (cs := #[.int .i64 0, .int .i64 0]) (t := 105) ?hr ?_; (case hd => rfl); (case hg => rfl); (case hr => first | (go_simp; done) | (go_simp; rfl))
     intro gb258 hg w6 hbox hb
     have n0_ := mkA (blk_below (g := gb254) (o := .cells #[.int .i64 0, .int .i64 0] 105 (0, 0)) (bl_ BK254.out) hb)
     have n1_ := mkA (blk_below (g := gb255) (o := .cells #[.int .i64 0, .int .i64 0] 105 (0, 0)) (bl_ BK255.out) hb)
     have n2_ := mkA (below_step (bs2_ HB.out GE254.out GE255.out) hb)
     have n3_ := mkA (hbox)
     have n4_ := mkA ((by rw [hg]; exact (below_size (bs2_ HB.out GE254.out GE255.out)) : w.heap.size ≤ gb258))
     have n5_ := mkA ((by rw [hg]; exact (below_size (bs2_ HB.out GE254.out GE255.out)) : w.heap.size ≤ gb258))
     have n6_ := mkA ((by rw [hg]; exact Nat.ne_of_lt (blk_lt (g := gb254) (o := .cells #[.int .i64 0, .int .i64 0] 105 (0, 0)) (bl_ BK254.out)) : gb254 ≠ gb258))
     have n7_ := mkA ((by rw [hg]; exact Nat.ne_of_gt (blk_lt (g := gb254) (o := .cells #[.int .i64 0, .int .i64 0] 105 (0, 0)) (bl_ BK254.out)) : gb258 ≠ gb254))
     have n8_ := mkA ((by rw [hg]; exact Nat.ne_of_lt (blk_lt (g := gb255) (o := .cells #[.int .i64 0, .int .i64 0] 105 (0, 0)) (bl_ BK255.out)) : gb255 ≠ gb258))
     have n9_ := mkA ((by rw [hg]; exact Nat.ne_of_gt (blk_lt (g := gb255) (o := .cells #[.int .i64 0, .int .i64 0] 105 (0, 0)) (bl_ BK255.out)) : gb258 ≠ gb255))
     clear BK254
     clear BK255
     clear HB
     have BK254 := n0_
     have BK255 := n1_
     have HB := n2_
     have BK258 := n3_
     have GW258 := n4_
     have GE258 := n5_
     have NB254_258 := n6_
     have NB258_254 := n7_
     have NB255_258 := n8_
     have NB258_255 := n9_
     clear n0_ n1_ n2_ n3_ n4_ n5_ n6_ n7_ n8_ n9_
     clear hb hbox hg
     refine hK.out _ _ ⟨(bc_ HB.out hw256_0 :), (bc_ HB.out hw256_1 :), (bc_ HB.out hw257_0 :), (bc_ HB.out hw257_1 :)⟩ (fun hHeld => ?_)
     clear hK K
     refine norm_ (a' := ?_) ?_ ?_
     rotate_left
     · show Act.put _ (some 4) _ = _
       simp only [Act.put, sA, sB, sC, i64_w, i32_w]
       rfl
     refine one_ (i := 7) (N := some 5) impl_bounds.d7 rfl rfl (one_of HT_.out (by kernel_rfl)) (by decide) (fun K hK => ?_)
     refine box_step ?hg (N := 5) ?hd (cs := #[.int .i64 0, .int .i64 0]) (t := 105) ?hr ?_; (case hd => rfl); (case hg => rfl); (case hr => first | (go_simp; done) | (go_simp; rfl))
     intro gb259 hg w7 hbox hb
     have n0_ := mkA (blk_below (g := gb254) (o := .cells #[.int .i64 0, .int .i64 0] 105 (0, 0)) (bl_ BK254.out) hb)
     have n1_ := mkA (blk_below (g := gb255) (o := .cells #[.int .i64 0, .int .i64 0] 105 (0, 0)) (bl_ BK255.out) hb)
     have n2_ := mkA (blk_below (g := gb258) (o := .cells #[.int .i64 0, .int .i64 0] 105 (0, 0)) (bl_ BK258.out) hb)
     have n3_ := mkA (below_step (bs3_ HB.out GE254.out GE255.out GE258.out) hb)
     have n4_ := mkA (hbox)
     have n5_ := mkA ((by rw [hg]; exact (below_size (bs3_ HB.out GE254.out GE255.out GE258.out)) : w.heap.size ≤ gb259))
     have n6_ := mkA ((by rw [hg]; exact (below_size (bs3_ HB.out GE254.out GE255.out GE258.out)) : w.heap.size ≤ gb259))
     have n7_ := mkA ((by rw [hg]; exact Nat.ne_of_lt (blk_lt (g := gb254) (o := .cells #[.int .i64 0, .int .i64 0] 105 (0, 0)) (bl_ BK254.out)) : gb254 ≠ gb259))
     have n8_ := mkA ((by rw [hg]; exact Nat.ne_of_gt (blk_lt (g := gb254) (o := .cells #[.int .i64 0, .int .i64 0] 105 (0, 0)) (bl_ BK254.out)) : gb259 ≠ gb254))
     have n9_ := mkA ((by rw [hg]; exact Nat.ne_of_lt (blk_lt (g := gb255) (o := .cells #[.int .i64 0, .int .i64 0] 105 (0, 0)) (bl_ BK255.out)) : gb255 ≠ gb259))
     have n10_ := mkA ((by rw [hg]; exact Nat.ne_of_gt (blk_lt (g := gb255) (o := .cells #[.int .i64 0, .int .i64 0] 105 (0, 0)) (bl_ BK255.out)) : gb259 ≠ gb255))
     have n11_ := mkA ((by rw [hg]; exact Nat.ne_of_lt (blk_lt (g := gb258) (o := .cells #[.int .i64 0, .int .i64 0] 105 (0, 0)) (bl_ BK258.out)) : gb258 ≠ gb259))
     have n12_ := mkA ((by rw [hg]; exact Nat.ne_of_gt (blk_lt (g := gb258) (o := .cells #[.int .i64 0, .int .i64 0] 105 (0, 0)) (bl_ BK258.out)) : gb259 ≠ gb258))
     clear BK254
     clear BK255
     clear BK258
     clear HB
     have BK254 := n0_
     have BK255 := n1_
     have BK258 := n2_
     have HB := n3_
     have BK259 := n4_
     have GW259 := n5_
     have GE259 := n6_
     have NB254_259 := n7_
     have NB259_254 := n8_
     have NB255_259 := n9_
     have NB259_255 := n10_
     have NB258_259 := n11_
     have NB259_258 := n12_
     clear n0_ n1_ n2_ n3_ n4_ n5_ n6_ n7_ n8_ n9_ n10_ n11_ n12_
     clear hb hbox hg
     refine hK.out _ _ ⟨(bc_ HB.out hw256_0 :), (bc_ HB.out hw256_1 :), (bc_ HB.out hw257_0 :), (bc_ HB.out hw257_1 :)⟩ (fun hHeld => ?_)
     clear hK K
     refine norm_ (a' := ?_) ?_ ?_
     rotate_left
     · show Act.put _ (some 5) _ = _
       simp only [Act.put, sA, sB, sC, i64_w, i32_w]
       rfl
     exact norm_ (by simp only [putAll, Act.put, sA, sB, sC]) (hCont (gb258, gb259) _ ⟨hHeld, (bl_ BK254.out), (bl_ BK255.out), (bl_ BK258.out), (bl_ BK259.out), GW258.out, GE258.out, NB254_258.out, NB258_254.out, NB255_258.out, NB258_255.out, NB259_258.out, NB258_259.out, GW259.out, GE259.out, NB254_259.out, NB259_254.out, NB255_259.out, NB259_255.out, (bs4_ HB.out GE254.out GE255.out GE258.out GE259.out)⟩)
   · skip
     refine box_step ?hg (N := 5) ?hd (cs := #[.int .i64 0, .int .i64 0]) (t := 105) ?hr ?_; (case hd => rfl); (case hg => rfl); (case hr => first | (go_simp; done) | (go_simp; rfl))
     intro gb259 hg w6 hbox hb
     have n0_ := mkA (blk_below (g := gb254) (o := .cells #[.int .i64 0, .int .i64 0] 105 (0, 0)) (bl_ BK254.out) hb)
     have n1_ := mkA (blk_below (g := gb255) (o := .cells #[.int .i64 0, .int .i64 0] 105 (0, 0)) (bl_ BK255.out) hb)
     have n2_ := mkA (below_step (bs2_ HB.out GE254.out GE255.out) hb)
     have n3_ := mkA (hbox)
     have n4_ := mkA ((by rw [hg]; exact (below_size (bs2_ HB.out GE254.out GE255.out)) : w.heap.size ≤ gb259))
     have n5_ := mkA ((by rw [hg]; exact (below_size (bs2_ HB.out GE254.out GE255.out)) : w.heap.size ≤ gb259))
     have n6_ := mkA ((by rw [hg]; exact Nat.ne_of_lt (blk_lt (g := gb254) (o := .cells #[.int .i64 0, .int .i64 0] 105 (0, 0)) (bl_ BK254.out)) : gb254 ≠ gb259))
     have n7_ := mkA ((by rw [hg]; exact Nat.ne_of_gt (blk_lt (g := gb254) (o := .cells #[.int .i64 0, .int .i64 0] 105 (0, 0)) (bl_ BK254.out)) : gb259 ≠ gb254))
     have n8_ := mkA ((by rw [hg]; exact Nat.ne_of_lt (blk_lt (g := gb255) (o := .cells #[.int .i64 0, .int .i64 0] 105 (0, 0)) (bl_ BK255.out)) : gb255 ≠ gb259))
     have n9_ := mkA ((by rw [hg]; exact Nat.ne_of_gt (blk_lt (g := gb255) (o := .cells #[.int .i64 0, .int .i64 0] 105 (0, 0)) (bl_ BK255.out)) : gb259 ≠ gb255))
     clear BK254
     clear BK255
     clear HB
     have BK254 := n0_
     have BK255 := n1_
     have HB := n2_
     have BK259 := n3_
     have GW259 := n4_
     have GE259 := n5_
     have NB254_259 := n6_
     have NB259_254 := n7_
     have NB255_259 := n8_
     have NB259_255 := n9_
     clear n0_ n1_ n2_ n3_ n4_ n5_ n6_ n7_ n8_ n9_
     clear hb hbox hg
     refine hK.out _ _ ⟨(bc_ HB.out hw256_0 :), (bc_ HB.out hw256_1 :), (bc_ HB.out hw257_0 :), (bc_ HB.out hw257_1 :)⟩ (fun hHeld => ?_)
     clear hK K
     refine norm_ (a' := ?_) ?_ ?_
     rotate_left
     · show Act.put _ (some 5) _ = _
       simp only [Act.put, sA, sB, sC, i64_w, i32_w]
       rfl
     refine one_ (i := 6) (N := some 4) impl_bounds.d7 rfl rfl (one_of HT_.out (by kernel_rfl)) (by decide) (fun K hK => ?_)
     refine box_step ?hg (N := 4) ?hd (cs := #[.int .i64 0, .int .i64 0]) (t := 105) ?hr ?_; (case hd => rfl); (case hg => rfl); (case hr => first | (go_simp; done) | (go_simp; rfl))
     intro gb258 hg w7 hbox hb
     have n0_ := mkA (blk_below (g := gb254) (o := .cells #[.int .i64 0, .int .i64 0] 105 (0, 0)) (bl_ BK254.out) hb)
     have n1_ := mkA (blk_below (g := gb255) (o := .cells #[.int .i64 0, .int .i64 0] 105 (0, 0)) (bl_ BK255.out) hb)
     have n2_ := mkA (blk_below (g := gb259) (o := .cells #[.int .i64 0, .int .i64 0] 105 (0, 0)) (bl_ BK259.out) hb)
     have n3_ := mkA (below_step (bs3_ HB.out GE254.out GE255.out GE259.out) hb)
     have n4_ := mkA (hbox)
     have n5_ := mkA ((by rw [hg]; exact (below_size (bs3_ HB.out GE254.out GE255.out GE259.out)) : w.heap.size ≤ gb258))
     have n6_ := mkA ((by rw [hg]; exact (below_size (bs3_ HB.out GE254.out GE255.out GE259.out)) : w.heap.size ≤ gb258))
     have n7_ := mkA ((by rw [hg]; exact Nat.ne_of_lt (blk_lt (g := gb254) (o := .cells #[.int .i64 0, .int .i64 0] 105 (0, 0)) (bl_ BK254.out)) : gb254 ≠ gb258))
     have n8_ := mkA ((by rw [hg]; exact Nat.ne_of_gt (blk_lt (g := gb254) (o := .cells #[.int .i64 0, .int .i64 0] 105 (0, 0)) (bl_ BK254.out)) : gb258 ≠ gb254))
     have n9_ := mkA ((by rw [hg]; exact Nat.ne_of_lt (blk_lt (g := gb255) (o := .cells #[.int .i64 0, .int .i64 0] 105 (0, 0)) (bl_ BK255.out)) : gb255 ≠ gb258))
     have n10_ := mkA ((by rw [hg]; exact Nat.ne_of_gt (blk_lt (g := gb255) (o := .cells #[.int .i64 0, .int .i64 0] 105 (0, 0)) (bl_ BK255.out)) : gb258 ≠ gb255))
     have n11_ := mkA ((by rw [hg]; exact Nat.ne_of_lt (blk_lt (g := gb259) (o := .cells #[.int .i64 0, .int .i64 0] 105 (0, 0)) (bl_ BK259.out)) : gb259 ≠ gb258))
     have n12_ := mkA ((by rw [hg]; exact Nat.ne_of_gt (blk_lt (g := gb259) (o := .cells #[.int .i64 0, .int .i64 0] 105 (0, 0)) (bl_ BK259.out)) : gb258 ≠ gb259))
     clear BK254
     clear BK255
     clear BK259
     clear HB
     have BK254 := n0_
     have BK255 := n1_
     have BK259 := n2_
     have HB := n3_
     have BK258 := n4_
     have GW258 := n5_
     have GE258 := n6_
     have NB254_258 := n7_
     have NB258_254 := n8_
     have NB255_258 := n9_
     have NB258_255 := n10_
     have NB259_258 := n11_
     have NB258_259 := n12_
     clear n0_ n1_ n2_ n3_ n4_ n5_ n6_ n7_ n8_ n9_ n10_ n11_ n12_
     clear hb hbox hg
     refine hK.out _ _ ⟨(bc_ HB.out hw256_0 :), (bc_ HB.out hw256_1 :), (bc_ HB.out hw257_0 :), (bc_ HB.out hw257_1 :)⟩ (fun hHeld => ?_)
     clear hK K
     refine norm_ (a' := ?_) ?_ ?_
     rotate_left
     · show Act.put _ (some 4) _ = _
       simp only [Act.put, sA, sB, sC, i64_w, i32_w]
       rfl
     exact norm_ (by simp only [putAll, Act.put, sA, sB, sC]) (hCont (gb258, gb259) _ ⟨hHeld, (bl_ BK254.out), (bl_ BK255.out), (bl_ BK258.out), (bl_ BK259.out), GW258.out, GE258.out, NB254_258.out, NB258_254.out, NB255_258.out, NB258_255.out, NB259_258.out, NB258_259.out, GW259.out, GE259.out, NB254_259.out, NB259_254.out, NB255_259.out, NB259_255.out, (bs4_ HB.out GE254.out GE255.out GE259.out GE258.out)⟩)
 rintro ⟨gb258, gb259⟩ w8 ⟨hS_, h0_, h1_, h2_, h3_, h4_, h5_, h6_, h7_, h8_, h9_, h10_, h11_, h12_, h13_, h14_, h15_, h16_, h17_, h18_⟩
 have n0_ : Aside0 (w8.heap[gb254]? = some (.cells #[.int .i64 0, .int .i64 0] 105 (0, 0))) := ⟨h0_⟩
 have n1_ : Aside0 (w8.heap[gb255]? = some (.cells #[.int .i64 0, .int .i64 0] 105 (0, 0))) := ⟨h1_⟩
 have n2_ : Aside0 (w8.heap[gb258]? = some (.cells #[.int .i64 0, .int .i64 0] 105 (0, 0))) := ⟨h2_⟩
 have n3_ : Aside0 (w8.heap[gb259]? = some (.cells #[.int .i64 0, .int .i64 0] 105 (0, 0))) := ⟨h3_⟩
 have n4_ : Aside0 (w.heap.size ≤ gb258) := ⟨h4_⟩
 have n5_ : Aside0 (w.heap.size ≤ gb258) := ⟨h5_⟩
 have n6_ : Aside0 (gb254 ≠ gb258) := ⟨h6_⟩
 have n7_ : Aside0 (gb258 ≠ gb254) := ⟨h7_⟩
 have n8_ : Aside0 (gb255 ≠ gb258) := ⟨h8_⟩
 have n9_ : Aside0 (gb258 ≠ gb255) := ⟨h9_⟩
 have n10_ : Aside0 (gb259 ≠ gb258) := ⟨h10_⟩
 have n11_ : Aside0 (gb258 ≠ gb259) := ⟨h11_⟩
 have n12_ : Aside0 (w.heap.size ≤ gb259) := ⟨h12_⟩
 have n13_ : Aside0 (w.heap.size ≤ gb259) := ⟨h13_⟩
 have n14_ : Aside0 (gb254 ≠ gb259) := ⟨h14_⟩
 have n15_ : Aside0 (gb259 ≠ gb254) := ⟨h15_⟩
 have n16_ : Aside0 (gb255 ≠ gb259) := ⟨h16_⟩
 have n17_ : Aside0 (gb259 ≠ gb255) := ⟨h17_⟩
 have n18_ : Aside0 (Below w.heap.size w w8) := ⟨h18_⟩
 clear BK254
 clear BK255
 clear HB
 clear h0_ h1_ h2_ h3_ h4_ h5_ h6_ h7_ h8_ h9_ h10_ h11_ h12_ h13_ h14_ h15_ h16_ h17_ h18_
 have BK254 := n0_
 have BK255 := n1_
 have BK258 := n2_
 have BK259 := n3_
 have GW258 := n4_
 have GE258 := n5_
 have NB254_258 := n6_
 have NB258_254 := n7_
 have NB255_258 := n8_
 have NB258_255 := n9_
 have NB259_258 := n10_
 have NB258_259 := n11_
 have GW259 := n12_
 have GE259 := n13_
 have NB254_259 := n14_
 have NB259_254 := n15_
 have NB255_259 := n16_
 have NB259_255 := n17_
 have HB := n18_
 clear n0_ n1_ n2_ n3_ n4_ n5_ n6_ n7_ n8_ n9_ n10_ n11_ n12_ n13_ n14_ n15_ n16_ n17_ n18_
 have hHeld : w8.cell? ad256 = some (.int .i64 ((rd_T105 l0 0).f0)) ∧ w8.cell? ⟨ad256.block, ad256.off + 1, none⟩ = some (.int .i64 ((rd_T105 l0 0).f1)) ∧ w8.cell? ad256 = some (.int .i64 ((rd_T105 l0 0).f0)) ∧ w8.cell? ⟨ad256.block, ad256.off + 1, none⟩ = some (.int .i64 ((rd_T105 l0 0).f1)) := hS_
 refine norm_ (a' := ?_) ?_ ?_
 rotate_left
 · simp only [putAll, Act.put, sA, sB, sC]
   rfl
 refine one_ (i := 8) (N := none) impl_bounds.d10 rfl rfl (one_of HT_.out (by kernel_rfl)) (by decide) (fun K hK => ?_)
 have hs9 : w8.cell? ⟨gb258, 0, none⟩ = some (.int .i64 0) := (blk_cell BK258.out 0).trans rfl
 have hfs9 := blk_frozen BK258.out 0
 have hns9_0 := NB254_258.out
 have hns9_1 := NB255_258.out
 have hns9_3 := NB259_258.out
 have hms9_0 := NB258_254.out
 have hms9_1 := NB258_255.out
 have hms9_3 := NB258_259.out
 have hs10 : w8.cell? ⟨gb258, 1, none⟩ = some (.int .i64 0) := (blk_cell BK258.out 1).trans rfl
 have hfs10 := blk_frozen BK258.out 1
 have hns10_0 := NB254_258.out
 have hns10_1 := NB255_258.out
 have hns10_3 := NB259_258.out
 have hms10_0 := NB258_254.out
 have hms10_1 := NB258_255.out
 have hms10_3 := NB258_259.out
 refine skip_ (w1 := ?_) (by rfl) rfl ?_ ?_
 rotate_left
 · go_simp
   rfl
 refine hK.out _ _ ⟨((cell_far (p := ⟨gb258, _, none⟩) (by first | exact Nat.ne_of_lt (Nat.lt_of_lt_of_le (by have := World.block_lt_of_cell? _ _ hw256_0; first | rwa [add_block] at this | exact this) GW258.out) | (rw [add_block]; exact Nat.ne_of_lt (Nat.lt_of_lt_of_le (by have := World.block_lt_of_cell? _ _ hw256_0; first | rwa [add_block] at this | exact this) GW258.out)) | (show (Addr.add _ _).block ≠ _; rw [add_block]; exact Nat.ne_of_lt (Nat.lt_of_lt_of_le (by have := World.block_lt_of_cell? _ _ hw256_0; first | rwa [add_block] at this | exact this) GW258.out)) | (dsimp only; exact Nat.ne_of_lt (Nat.lt_of_lt_of_le (by have := World.block_lt_of_cell? _ _ hw256_0; first | rwa [add_block] at this | exact this) GW258.out))) _).trans (((cell_far (p := ⟨gb258, _, none⟩) (by first | exact Nat.ne_of_lt (Nat.lt_of_lt_of_le (by have := World.block_lt_of_cell? _ _ hw256_0; first | rwa [add_block] at this | exact this) GW258.out) | (rw [add_block]; exact Nat.ne_of_lt (Nat.lt_of_lt_of_le (by have := World.block_lt_of_cell? _ _ hw256_0; first | rwa [add_block] at this | exact this) GW258.out)) | (show (Addr.add _ _).block ≠ _; rw [add_block]; exact Nat.ne_of_lt (Nat.lt_of_lt_of_le (by have := World.block_lt_of_cell? _ _ hw256_0; first | rwa [add_block] at this | exact this) GW258.out)) | (dsimp only; exact Nat.ne_of_lt (Nat.lt_of_lt_of_le (by have := World.block_lt_of_cell? _ _ hw256_0; first | rwa [add_block] at this | exact this) GW258.out))) _).trans (hHeld.1)))), ((cell_far (p := ⟨gb258, _, none⟩) (by first | exact Nat.ne_of_lt (Nat.lt_of_lt_of_le (by have := World.block_lt_of_cell? _ _ hw256_1; first | rwa [add_block] at this | exact this) GW258.out) | (rw [add_block]; exact Nat.ne_of_lt (Nat.lt_of_lt_of_le (by have := World.block_lt_of_cell? _ _ hw256_1; first | rwa [add_block] at this | exact this) GW258.out)) | (show (Addr.add _ _).block ≠ _; rw [add_block]; exact Nat.ne_of_lt (Nat.lt_of_lt_of_le (by have := World.block_lt_of_cell? _ _ hw256_1; first | rwa [add_block] at this | exact this) GW258.out)) | (dsimp only; exact Nat.ne_of_lt (Nat.lt_of_lt_of_le (by have := World.block_lt_of_cell? _ _ hw256_1; first | rwa [add_block] at this | exact this) GW258.out))) _).trans (((cell_far (p := ⟨gb258, _, none⟩) (by first | exact Nat.ne_of_lt (Nat.lt_of_lt_of_le (by have := World.block_lt_of_cell? _ _ hw256_1; first | rwa [add_block] at this | exact this) GW258.out) | (rw [add_block]; exact Nat.ne_of_lt (Nat.lt_of_lt_of_le (by have := World.block_lt_of_cell? _ _ hw256_1; first | rwa [add_block] at this | exact this) GW258.out)) | (show (Addr.add _ _).block ≠ _; rw [add_block]; exact Nat.ne_of_lt (Nat.lt_of_lt_of_le (by have := World.block_lt_of_cell? _ _ hw256_1; first | rwa [add_block] at this | exact this) GW258.out)) | (dsimp only; exact Nat.ne_of_lt (Nat.lt_of_lt_of_le (by have := World.block_lt_of_cell? _ _ hw256_1; first | rwa [add_block] at this | exact this) GW258.out))) _).trans (hHeld.2.1)))), ((cell_far (p := ⟨gb258, _, none⟩) (by first | exact Nat.ne_of_lt (Nat.lt_of_lt_of_le (by have := World.block_lt_of_cell? _ _ hw257_0; first | rwa [add_block] at this | exact this) GW258.out) | (rw [add_block]; exact Nat.ne_of_lt (Nat.lt_of_lt_of_le (by have := World.block_lt_of_cell? _ _ hw257_0; first | rwa [add_block] at this | exact this) GW258.out)) | (show (Addr.add _ _).block ≠ _; rw [add_block]; exact Nat.ne_of_lt (Nat.lt_of_lt_of_le (by have := World.block_lt_of_cell? _ _ hw257_0; first | rwa [add_block] at this | exact this) GW258.out)) | (dsimp only; exact Nat.ne_of_lt (Nat.lt_of_lt_of_le (by have := World.block_lt_of_cell? _ _ hw257_0; first | rwa [add_block] at this | exact this) GW258.out))) _).trans (((cell_far (p := ⟨gb258, _, none⟩) (by first | exact Nat.ne_of_lt (Nat.lt_of_lt_of_le (by have := World.block_lt_of_cell? _ _ hw257_0; first | rwa [add_block] at this | exact this) GW258.out) | (rw [add_block]; exact Nat.ne_of_lt (Nat.lt_of_lt_of_le (by have := World.block_lt_of_cell? _ _ hw257_0; first | rwa [add_block] at this | exact this) GW258.out)) | (show (Addr.add _ _).block ≠ _; rw [add_block]; exact Nat.ne_of_lt (Nat.lt_of_lt_of_le (by have := World.block_lt_of_cell? _ _ hw257_0; first | rwa [add_block] at this | exact this) GW258.out)) | (dsimp only; exact Nat.ne_of_lt (Nat.lt_of_lt_of_le (by have := World.block_lt_of_cell? _ _ hw257_0; first | rwa [add_block] at this | exact this) GW258.out))) _).trans (hHeld.2.2.1)))), ((cell_far (p := ⟨gb258, _, none⟩) (by first | exact Nat.ne_of_lt (Nat.lt_of_lt_of_le (by have := World.block_lt_of_cell? _ _ hw257_1; first | rwa [add_block] at this | exact this) GW258.out) | (rw [add_block]; exact Nat.ne_of_lt (Nat.lt_of_lt_of_le (by have := World.block_lt_of_cell? _ _ hw257_1; first | rwa [add_block] at this | exact this) GW258.out)) | (show (Addr.add _ _).block ≠ _; rw [add_block]; exact Nat.ne_of_lt (Nat.lt_of_lt_of_le (by have := World.block_lt_of_cell? _ _ hw257_1; first | rwa [add_block] at this | exact this) GW258.out)) | (dsimp only; exact Nat.ne_of_lt (Nat.lt_of_lt_of_le (by have := World.block_lt_of_cell? _ _ hw257_1; first | rwa [add_block] at this | exact this) GW258.out))) _).trans (((cell_far (p := ⟨gb258, _, none⟩) (by first | exact Nat.ne_of_lt (Nat.lt_of_lt_of_le (by have := World.block_lt_of_cell? _ _ hw257_1; first | rwa [add_block] at this | exact this) GW258.out) | (rw [add_block]; exact Nat.ne_of_lt (Nat.lt_of_lt_of_le (by have := World.block_lt_of_cell? _ _ hw257_1; first | rwa [add_block] at this | exact this) GW258.out)) | (show (Addr.add _ _).block ≠ _; rw [add_block]; exact Nat.ne_of_lt (Nat.lt_of_lt_of_le (by have := World.block_lt_of_cell? _ _ hw257_1; first | rwa [add_block] at this | exact this) GW258.out)) | (dsimp only; exact Nat.ne_of_lt (Nat.lt_of_lt_of_le (by have := World.block_lt_of_cell? _ _ hw257_1; first | rwa [add_block] at this | exact this) GW258.out))) _).trans (hHeld.2.2.2))))⟩ (fun hHeld => ?_)
 clear hK K
 refine one_ (i := 9) (N := none) impl_bounds.d11 rfl rfl (one_of HT_.out (by kernel_rfl)) (by decide) (fun K hK => ?_)
 have hs11 : w8.cell? ⟨gb259, 0, none⟩ = some (.int .i64 0) := (blk_cell BK259.out 0).trans rfl
 have hfs11 := blk_frozen BK259.out 0
 have hns11_0 := NB254_259.out
 have hns11_1 := NB255_259.out
 have hns11_2 := NB258_259.out
 have hms11_0 := NB259_254.out
 have hms11_1 := NB259_255.out
 have hms11_2 := NB259_258.out
 have hs12 : w8.cell? ⟨gb259, 1, none⟩ = some (.int .i64 0) := (blk_cell BK259.out 1).trans rfl
 have hfs12 := blk_frozen BK259.out 1
 have hns12_0 := NB254_259.out
 have hns12_1 := NB255_259.out
 have hns12_2 := NB258_259.out
 have hms12_0 := NB259_254.out
 have hms12_1 := NB259_255.out
 have hms12_2 := NB259_258.out
 refine skip_ (w1 := ?_) (by rfl) rfl ?_ ?_
 rotate_left
 · go_simp
   rfl
 refine hK.out _ _ ⟨((cell_far (p := ⟨gb259, _, none⟩) (by first | exact Nat.ne_of_lt (Nat.lt_of_lt_of_le (by have := World.block_lt_of_cell? _ _ hw256_0; first | rwa [add_block] at this | exact this) GW259.out) | (rw [add_block]; exact Nat.ne_of_lt (Nat.lt_of_lt_of_le (by have := World.block_lt_of_cell? _ _ hw256_0; first | rwa [add_block] at this | exact this) GW259.out)) | (show (Addr.add _ _).block ≠ _; rw [add_block]; exact Nat.ne_of_lt (Nat.lt_of_lt_of_le (by have := World.block_lt_of_cell? _ _ hw256_0; first | rwa [add_block] at this | exact this) GW259.out)) | (dsimp only; exact Nat.ne_of_lt (Nat.lt_of_lt_of_le (by have := World.block_lt_of_cell? _ _ hw256_0; first | rwa [add_block] at this | exact this) GW259.out))) _).trans (((cell_far (p := ⟨gb259, _, none⟩) (by first | exact Nat.ne_of_lt (Nat.lt_of_lt_of_le (by have := World.block_lt_of_cell? _ _ hw256_0; first | rwa [add_block] at this | exact this) GW259.out) | (rw [add_block]; exact Nat.ne_of_lt (Nat.lt_of_lt_of_le (by have := World.block_lt_of_cell? _ _ hw256_0; first | rwa [add_block] at this | exact this) GW259.out)) | (show (Addr.add _ _).block ≠ _; rw [add_block]; exact Nat.ne_of_lt (Nat.lt_of_lt_of_le (by have := World.block_lt_of_cell? _ _ hw256_0; first | rwa [add_block] at this | exact this) GW259.out)) | (dsimp only; exact Nat.ne_of_lt (Nat.lt_of_lt_of_le (by have := World.block_lt_of_cell? _ _ hw256_0; first | rwa [add_block] at this | exact this) GW259.out))) _).trans (hHeld.1)))), ((cell_far (p := ⟨gb259, _, none⟩) (by first | exact Nat.ne_of_lt (Nat.lt_of_lt_of_le (by have := World.block_lt_of_cell? _ _ hw256_1; first | rwa [add_block] at this | exact this) GW259.out) | (rw [add_block]; exact Nat.ne_of_lt (Nat.lt_of_lt_of_le (by have := World.block_lt_of_cell? _ _ hw256_1; first | rwa [add_block] at this | exact this) GW259.out)) | (show (Addr.add _ _).block ≠ _; rw [add_block]; exact Nat.ne_of_lt (Nat.lt_of_lt_of_le (by have := World.block_lt_of_cell? _ _ hw256_1; first | rwa [add_block] at this | exact this) GW259.out)) | (dsimp only; exact Nat.ne_of_lt (Nat.lt_of_lt_of_le (by have := World.block_lt_of_cell? _ _ hw256_1; first | rwa [add_block] at this | exact this) GW259.out))) _).trans (((cell_far (p := ⟨gb259, _, none⟩) (by first | exact Nat.ne_of_lt (Nat.lt_of_lt_of_le (by have := World.block_lt_of_cell? _ _ hw256_1; first | rwa [add_block] at this | exact this) GW259.out) | (rw [add_block]; exact Nat.ne_of_lt (Nat.lt_of_lt_of_le (by have := World.block_lt_of_cell? _ _ hw256_1; first | rwa [add_block] at this | exact this) GW259.out)) | (show (Addr.add _ _).block ≠ _; rw [add_block]; exact Nat.ne_of_lt (Nat.lt_of_lt_of_le (by have := World.block_lt_of_cell? _ _ hw256_1; first | rwa [add_block] at this | exact this) GW259.out)) | (dsimp only; exact Nat.ne_of_lt (Nat.lt_of_lt_of_le (by have := World.block_lt_of_cell? _ _ hw256_1; first | rwa [add_block] at this | exact this) GW259.out))) _).trans (hHeld.2.1)))), ((cell_far (p := ⟨gb259, _, none⟩) (by first | exact Nat.ne_of_lt (Nat.lt_of_lt_of_le (by have := World.block_lt_of_cell? _ _ hw257_0; first | rwa [add_block] at this | exact this) GW259.out) | (rw [add_block]; exact Nat.ne_of_lt (Nat.lt_of_lt_of_le (by have := World.block_lt_of_cell? _ _ hw257_0; first | rwa [add_block] at this | exact this) GW259.out)) | (show (Addr.add _ _).block ≠ _; rw [add_block]; exact Nat.ne_of_lt (Nat.lt_of_lt_of_le (by have := World.block_lt_of_cell? _ _ hw257_0; first | rwa [add_block] at this | exact this) GW259.out)) | (dsimp only; exact Nat.ne_of_lt (Nat.lt_of_lt_of_le (by have := World.block_lt_of_cell? _ _ hw257_0; first | rwa [add_block] at this | exact this) GW259.out))) _).trans (((cell_far (p := ⟨gb259, _, none⟩) (by first | exact Nat.ne_of_lt (Nat.lt_of_lt_of_le (by have := World.block_lt_of_cell? _ _ hw257_0; first | rwa [add_block] at this | exact this) GW259.out) | (rw [add_block]; exact Nat.ne_of_lt (Nat.lt_of_lt_of_le (by have := World.block_lt_of_cell? _ _ hw257_0; first | rwa [add_block] at this | exact this) GW259.out)) | (show (Addr.add _ _).block ≠ _; rw [add_block]; exact Nat.ne_of_lt (Nat.lt_of_lt_of_le (by have := World.block_lt_of_cell? _ _ hw257_0; first | rwa [add_block] at this | exact this) GW259.out)) | (dsimp only; exact Nat.ne_of_lt (Nat.lt_of_lt_of_le (by have := World.block_lt_of_cell? _ _ hw257_0; first | rwa [add_block] at this | exact this) GW259.out))) _).trans (hHeld.2.2.1)))), ((cell_far (p := ⟨gb259, _, none⟩) (by first | exact Nat.ne_of_lt (Nat.lt_of_lt_of_le (by have := World.block_lt_of_cell? _ _ hw257_1; first | rwa [add_block] at this | exact this) GW259.out) | (rw [add_block]; exact Nat.ne_of_lt (Nat.lt_of_lt_of_le (by have := World.block_lt_of_cell? _ _ hw257_1; first | rwa [add_block] at this | exact this) GW259.out)) | (show (Addr.add _ _).block ≠ _; rw [add_block]; exact Nat.ne_of_lt (Nat.lt_of_lt_of_le (by have := World.block_lt_of_cell? _ _ hw257_1; first | rwa [add_block] at this | exact this) GW259.out)) | (dsimp only; exact Nat.ne_of_lt (Nat.lt_of_lt_of_le (by have := World.block_lt_of_cell? _ _ hw257_1; first | rwa [add_block] at this | exact this) GW259.out))) _).trans (((cell_far (p := ⟨gb259, _, none⟩) (by first | exact Nat.ne_of_lt (Nat.lt_of_lt_of_le (by have := World.block_lt_of_cell? _ _ hw257_1; first | rwa [add_block] at this | exact this) GW259.out) | (rw [add_block]; exact Nat.ne_of_lt (Nat.lt_of_lt_of_le (by have := World.block_lt_of_cell? _ _ hw257_1; first | rwa [add_block] at this | exact this) GW259.out)) | (show (Addr.add _ _).block ≠ _; rw [add_block]; exact Nat.ne_of_lt (Nat.lt_of_lt_of_le (by have := World.block_lt_of_cell? _ _ hw257_1; first | rwa [add_block] at this | exact this) GW259.out)) | (dsimp only; exact Nat.ne_of_lt (Nat.lt_of_lt_of_le (by have := World.block_lt_of_cell? _ _ hw257_1; first | rwa [add_block] at this | exact this) GW259.out))) _).trans (hHeld.2.2.2))))⟩ (fun hHeld => ?_)
 clear hK K
 refine done_ (done_of HT_.out (by kernel_rfl)) ?_
 try go_wp2
 go_loopg [16] k (fun kq v16 w' => ∃ (x16_1 : Int) (x259000_1 : Int) (x259001_1 : Int) (x260000_1 : Int) (x260001_1 : Int), v16 = .int .i64 x16_1 ∧ Aside0 (impl_bounds.l0 kq l0 (l0.length : Int) x16_1 x259000_1 x259001_1 x260000_1 x260001_1 = some (r1, r2, r3, r4)) ∧ Aside0 (kq ≤ k) ∧ Aside0 (w'.heap[gb254]? = some (.cells #[.int .i64 0, .int .i64 0] 105 (0, 0))) ∧ Aside0 (w'.heap[gb255]? = some (.cells #[.int .i64 0, .int .i64 0] 105 (0, 0))) ∧ Aside0 (w'.heap[gb258]? = some (.cells #[.int .i64 x259000_1, .int .i64 x259001_1] 105 (0, 0))) ∧ Aside0 (w'.heap[gb259]? = some (.cells #[.int .i64 x260000_1, .int .i64 x260001_1] 105 (0, 0))) ∧ Aside0 (Below w.heap.size w w'))
 case atStart => exact ⟨(0), ((rd_T105 l0 0).f0), ((rd_T105 l0 0).f1), ((rd_T105 l0 0).f0), ((rd_T105 l0 0).f1), (by first | rfl | (simp; done) | (simp [*]; done) | (simp [i64_w, i32_w]; done)), H', ⟨Nat.le_refl _⟩, ⟨by (with_reducible repeat (first | refine blk_drewN ?_ _ | refine blk_drew ?_ | refine blk_alloc ?_ _)); refine blk_far ?_ NB254_259.out _; (with_reducible repeat (first | refine blk_drewN ?_ _ | refine blk_drew ?_ | refine blk_alloc ?_ _)); refine blk_far ?_ NB254_259.out _; (with_reducible repeat (first | refine blk_drewN ?_ _ | refine blk_drew ?_ | refine blk_alloc ?_ _)); refine blk_far ?_ NB254_258.out _; (with_reducible repeat (first | refine blk_drewN ?_ _ | refine blk_drew ?_ | refine blk_alloc ?_ _)); refine blk_far ?_ NB254_258.out _; (with_reducible repeat (first | refine blk_drewN ?_ _ | refine blk_drew ?_ | refine blk_alloc ?_ _)); exact BK254.out⟩, ⟨by (with_reducible repeat (first | refine blk_drewN ?_ _ | refine blk_drew ?_ | refine blk_alloc ?_ _)); refine blk_far ?_ NB255_259.out _; (with_reducible repeat (first | refine blk_drewN ?_ _ | refine blk_drew ?_ | refine blk_alloc ?_ _)); refine blk_far ?_ NB255_259.out _; (with_reducible repeat (first | refine blk_drewN ?_ _ | refine blk_drew ?_ | refine blk_alloc ?_ _)); refine blk_far ?_ NB255_258.out _; (with_reducible repeat (first | refine blk_drewN ?_ _ | refine blk_drew ?_ | refine blk_alloc ?_ _)); refine blk_far ?_ NB255_258.out _; (with_reducible repeat (first | refine blk_drewN ?_ _ | refine blk_drew ?_ | refine blk_alloc ?_ _)); exact BK255.out⟩, ⟨by (with_reducible repeat (first | refine blk_drewN ?_ _ | refine blk_drew ?_ | refine blk_alloc ?_ _)); refine blk_far ?_ NB258_259.out _; (with_reducible repeat (first | refine blk_drewN ?_ _ | refine blk_drew ?_ | refine blk_alloc ?_ _)); refine blk_far ?_ NB258_259.out _; (with_reducible repeat (first | refine blk_drewN ?_ _ | refine blk_drew ?_ | refine blk_alloc ?_ _)); refine blk_put (cs := #[.int .i64 ((rd_T105 l0 0).f0), .int .i64 0]) ?_ 1 _ rfl; (with_reducible repeat (first | refine blk_drewN ?_ _ | refine blk_drew ?_ | refine blk_alloc ?_ _)); refine blk_put (cs := #[.int .i64 0, .int .i64 0]) ?_ 0 _ rfl; (with_reducible repeat (first | refine blk_drewN ?_ _ | refine blk_drew ?_ | refine blk_alloc ?_ _)); exact BK258.out⟩, ⟨by (with_reducible repeat (first | refine blk_drewN ?_ _ | refine blk_drew ?_ | refine blk_alloc ?_ _)); refine blk_put (cs := #[.int .i64 ((rd_T105 l0 0).f0), .int .i64 0]) ?_ 1 _ rfl; (with_reducible repeat (first | refine blk_drewN ?_ _ | refine blk_drew ?_ | refine blk_alloc ?_ _)); refine blk_put (cs := #[.int .i64 0, .int .i64 0]) ?_ 0 _ rfl; (with_reducible repeat (first | refine blk_drewN ?_ _ | refine blk_drew ?_ | refine blk_alloc ?_ _)); refine blk_far ?_ NB259_258.out _; (with_reducible repeat (first | refine blk_drewN ?_ _ | refine blk_drew ?_ | refine blk_alloc ?_ _)); refine blk_far ?_ NB259_258.out _; (with_reducible repeat (first | refine blk_drewN ?_ _ | refine blk_drew ?_ | refine blk_alloc ?_ _)); exact BK259.out⟩, ⟨by repeat (first | (with_reducible first | exact HB.out | apply below_alloc | apply pw_below_drewN | apply below_drew1 | refine below_set ?_ GE254.out | refine below_set ?_ GE255.out | refine below_set ?_ GE258.out | refine below_set ?_ GE259.out) | exact HB.out)⟩⟩
 case round =>
  clear H'
  try clear c2
  try clear c2b0
  try clear c2b1
  try clear p2
  try clear q2
  try clear hx2
  try clear qi2
  try clear c9
  try clear hx256_0
  try clear hx256_1
  try clear hx257_0
  try clear hx257_1
  try clear p256
  try clear p257
  try clear q256
  try clear q257
  obtain ⟨x16_1, x259000_1, x259001_1, x260000_1, x260001_1, rfl, HA, HK1, BK254, BK255, BK258, BK259, HB⟩ := hrel
  cases gk with
  | zero => exact absurd HA.out (by simp [impl_bounds.l0])
  | succ k1 =>
   have H := HA.out
   clear HA
   simp only [impl_bounds.l0] at H
   by_cases c13 : x16_1 < (l0.length : Int)
   · rw [if_pos c13] at H
     have c13b0 : decide (x16_1 < (l0.length : Int)) = true := decide_eq_true c13
     clear c13
     by_cases c14 : 0 ≤ x16_1
     rotate_left
     · rw [if_neg c14] at H
       exact absurd H (by simp)
     rw [if_pos c14] at H
     have c14b0 : decide (0 ≤ x16_1) = true := decide_eq_true c14
     clear c14
     by_cases c15 : x16_1 < (l0.length : Int)
     rotate_left
     · rw [if_neg c15] at H
       exact absurd H (by simp)
     rw [if_pos c15] at H
     have c15b0 : decide (x16_1 < (l0.length : Int)) = true := decide_eq_true c15
     clear c15
     obtain ⟨ji16, hji16⟩ : ∃ j_ : Int, (mn x259000_1 ((rd_T105 l0 x16_1).f0)) = j_ := ⟨_, rfl⟩
     replace H : (impl_bounds.l0 k1 l0 (l0.length : Int) (wrap64 (x16_1 + 1)) ji16 (mn x259001_1 ((rd_T105 l0 x16_1).f1)) (mx x260000_1 ((rd_T105 l0 x16_1).f0)) (mx x260001_1 ((rd_T105 l0 x16_1).f1))) = some (r1, r2, r3, r4) := by first | (rw [hji16] at H; exact H) | (simp only [hji16] at H ⊢; exact H)
     have hji16_ : (if ((rd_T105 l0 x16_1).f0) < x259000_1 then ((rd_T105 l0 x16_1).f0) else x259000_1) = ji16 := hji16
     obtain ⟨ji17, hji17⟩ : ∃ j_ : Int, (mn x259001_1 ((rd_T105 l0 x16_1).f1)) = j_ := ⟨_, rfl⟩
     replace H : (impl_bounds.l0 k1 l0 (l0.length : Int) (wrap64 (x16_1 + 1)) ji16 ji17 (mx x260000_1 ((rd_T105 l0 x16_1).f0)) (mx x260001_1 ((rd_T105 l0 x16_1).f1))) = some (r1, r2, r3, r4) := by first | (rw [hji17] at H; exact H) | (simp only [hji17] at H ⊢; exact H)
     have hji17_ : (if ((rd_T105 l0 x16_1).f1) < x259001_1 then ((rd_T105 l0 x16_1).f1) else x259001_1) = ji17 := hji17
     obtain ⟨ji18, hji18⟩ : ∃ j_ : Int, (mx x260000_1 ((rd_T105 l0 x16_1).f0)) = j_ := ⟨_, rfl⟩
     replace H : (impl_bounds.l0 k1 l0 (l0.length : Int) (wrap64 (x16_1 + 1)) ji16 ji17 ji18 (mx x260001_1 ((rd_T105 l0 x16_1).f1))) = some (r1, r2, r3, r4) := by first | (rw [hji18] at H; exact H) | (simp only [hji18] at H ⊢; exact H)
     have hji18_ : (if x260000_1 < ((rd_T105 l0 x16_1).f0) then ((rd_T105 l0 x16_1).f0) else x260000_1) = ji18 := hji18
     obtain ⟨ji19, hji19⟩ : ∃ j_ : Int, (mx x260001_1 ((rd_T105 l0 x16_1).f1)) = j_ := ⟨_, rfl⟩
     replace H : (impl_bounds.l0 k1 l0 (l0.length : Int) (wrap64 (x16_1 + 1)) ji16 ji17 ji18 ji19) = some (r1, r2, r3, r4) := by first | (rw [hji19] at H; exact H) | (simp only [hji19] at H ⊢; exact H)
     have hji19_ : (if x260001_1 < ((rd_T105 l0 x16_1).f1) then ((rd_T105 l0 x16_1).f1) else x260001_1) = ji19 := hji19
     have H' := mkA H
     clear H
     have p260 : 0 ≤ (x16_1 : Int) := dt_
     have q260 : x16_1 < (l0.length : Int) := dt_
     obtain ⟨ad260, e260, hx260_0, hx260_1⟩ := at_T105 HR0.out x16_1 p260 q260
     obtain rfl : ad256 = ad260 := (by injection e260)
     replace hx260_0 := bc_ HB.out hx260_0
     replace hx260_1 := bc_ HB.out hx260_1
     replace p260 := eq_true p260
     replace q260 := eq_true q260
     go_wp2_with (first | ((with_reducible refine gate_dst (N := 7) rfl ?_); refine box_event ?hg (N := 7) ?hd (cs := #[.int .i64 0, .int .i64 0]) (t := 105) ?hr ?_; (case hd => rfl); (case hg => rfl); (case hr => first | (go_simp; done) | (go_simp; rfl)); intro gb261 hg w20 hbox hb; have n0_ := mkA (blk_below (g := gb254) (o := .cells #[.int .i64 0, .int .i64 0] 105 (0, 0)) (bl_ BK254.out) hb); have n1_ := mkA (blk_below (g := gb255) (o := .cells #[.int .i64 0, .int .i64 0] 105 (0, 0)) (bl_ BK255.out) hb); have n2_ := mkA (blk_below (g := gb258) (o := .cells #[.int .i64 x259000_1, .int .i64 x259001_1] 105 (0, 0)) (bl_ BK258.out) hb); have n3_ := mkA (blk_below (g := gb259) (o := .cells #[.int .i64 x260000_1, .int .i64 x260001_1] 105 (0, 0)) (bl_ BK259.out) hb); have n4_ := mkA (below_step (bs4_ HB.out GE254.out GE255.out GE258.out GE259.out) hb); have n5_ := mkA (hbox); have n6_ := mkA ((by rw [hg]; exact (below_size (bs4_ HB.out GE254.out GE255.out GE258.out GE259.out)) : w.heap.size ≤ gb261)); have n7_ := mkA ((by rw [hg]; exact (below_size (bs4_ HB.out GE254.out GE255.out GE258.out GE259.out)) : w.heap.size ≤ gb261)); have n8_ := mkA ((by rw [hg]; exact Nat.ne_of_lt (blk_lt (g := gb254) (o := .cells #[.int .i64 0, .int .i64 0] 105 (0, 0)) (bl_ BK254.out)) : gb254 ≠ gb261)); have n9_ := mkA ((by rw [hg]; exact Nat.ne_of_gt (blk_lt (g := gb254) (o := .cells #[.int .i64 0, .int .i64 0] 105 (0, 0)) (bl_ BK254.out)) : gb261 ≠ gb254)); have n10_ := mkA ((by rw [hg]; exact Nat.ne_of_lt (blk_lt (g := gb255) (o := .cells #[.int .i64 0, .int .i64 0] 105 (0, 0)) (bl_ BK255.out)) : gb255 ≠ gb261)); have n11_ := mkA ((by rw [hg]; exact Nat.ne_of_gt (blk_lt (g := gb255) (o := .cells #[.int .i64 0, .int .i64 0] 105 (0, 0)) (bl_ BK255.out)) : gb261 ≠ gb255)); have n12_ := mkA ((by rw [hg]; exact Nat.ne_of_lt (blk_lt (g := gb258) (o := .cells #[.int .i64 x259000_1, .int .i64 x259001_1] 105 (0, 0)) (bl_ BK258.out)) : gb258 ≠ gb261)); have n13_ := mkA ((by rw [hg]; exact Nat.ne_of_gt (blk_lt (g := gb258) (o := .cells #[.int .i64 x259000_1, .int .i64 x259001_1] 105 (0, 0)) (bl_ BK258.out)) : gb261 ≠ gb258)); have n14_ := mkA ((by rw [hg]; exact Nat.ne_of_lt (blk_lt (g := gb259) (o := .cells #[.int .i64 x260000_1, .int .i64 x260001_1] 105 (0, 0)) (bl_ BK259.out)) : gb259 ≠ gb261)); have n15_ := mkA ((by rw [hg]; exact Nat.ne_of_gt (blk_lt (g := gb259) (o := .cells #[.int .i64 x260000_1, .int .i64 x260001_1] 105 (0, 0)) (bl_ BK259.out)) : gb261 ≠ gb259)); clear BK254; clear BK255; clear BK258; clear BK259; clear HB; have BK254 := n0_; have BK255 := n1_; have BK258 := n2_; have BK259 := n3_; have HB := n4_; have BK261 := n5_; have GW261 := n6_; have GE261 := n7_; have NB254_261 := n8_; have NB261_254 := n9_; have NB255_261 := n10_; have NB261_255 := n11_; have NB258_261 := n12_; have NB261_258 := n13_; have NB259_261 := n14_; have NB261_259 := n15_; clear n0_ n1_ n2_ n3_ n4_ n5_ n6_ n7_ n8_ n9_ n10_ n11_ n12_ n13_ n14_ n15_; clear hb hbox hg; have hnb21 := NB261_254.out; have hnc21 := NB254_261.out; have hnb22 := NB261_255.out; have hnc22 := NB255_261.out; have hnb23 := NB261_258.out; have hnc23 := NB258_261.out; have hnb24 := NB261_259.out; have hnc24 := NB259_261.out; have hcz25_0 : w20.cell? ⟨gb261, 0, none⟩ = some (.int .i64 0) := (blk_cell BK261.out 0).trans rfl; have hcz25_1 : w20.cell? ⟨gb261, 1, none⟩ = some (.int .i64 0) := (blk_cell BK261.out 1).trans rfl; have hfz25_0 := blk_frozen BK261.out 0; have hfz25_1 := blk_frozen BK261.out 1; have hnb26 := NB258_254.out; have hnc26 := NB254_258.out; have hnb27 := NB258_255.out; have hnc27 := NB255_258.out; have hnb28 := NB258_259.out; have hnc28 := NB259_258.out; have hcz29_0 : w20.cell? ⟨gb258, 0, none⟩ = some (.int .i64 x259000_1) := (blk_cell BK258.out 0).trans rfl; have hcz29_1 : w20.cell? ⟨gb258, 1, none⟩ = some (.int .i64 x259001_1) := (blk_cell BK258.out 1).trans rfl; have hfz29_0 := blk_frozen BK258.out 0; have hfz29_1 := blk_frozen BK258.out 1; have hnb30 := NB259_254.out; have hnc30 := NB254_259.out; have hnb31 := NB259_255.out; have hnc31 := NB255_259.out; have hcz32_0 : w20.cell? ⟨gb259, 0, none⟩ = some (.int .i64 x260000_1) := (blk_cell BK259.out 0).trans rfl; have hcz32_1 : w20.cell? ⟨gb259, 1, none⟩ = some (.int .i64 x260001_1) := (blk_cell BK259.out 1).trans rfl; have hfz32_0 := blk_frozen BK259.out 0; have hfz32_1 := blk_frozen BK259.out 1))
     go_roundg k1
     case measure => have := HK1.out; omega
     case rel => exact ⟨(wrap64 (x16_1 + 1)), (ji16), (ji17), (ji18), (ji19), (by first | rfl | (simp; done) | (simp [*]; done) | (simp [i64_w, i32_w]; done)), H', ⟨by have := HK1.out; omega⟩, ⟨by (with_reducible repeat (first | refine blk_drewN ?_ _ | refine blk_drew ?_ | refine blk_alloc ?_ _)); refine blk_far ?_ NB254_259.out _; (with_reducible repeat (first | refine blk_drewN ?_ _ | refine blk_drew ?_ | refine blk_alloc ?_ _)); refine blk_far ?_ NB254_259.out _; (with_reducible repeat (first | refine blk_drewN ?_ _ | refine blk_drew ?_ | refine blk_alloc ?_ _)); refine blk_far ?_ NB254_258.out _; (with_reducible repeat (first | refine blk_drewN ?_ _ | refine blk_drew ?_ | refine blk_alloc ?_ _)); refine blk_far ?_ NB254_258.out _; (with_reducible repeat (first | refine blk_drewN ?_ _ | refine blk_drew ?_ | refine blk_alloc ?_ _)); refine blk_far ?_ NB254_261.out _; (with_reducible repeat (first | refine blk_drewN ?_ _ | refine blk_drew ?_ | refine blk_alloc ?_ _)); refine blk_far ?_ NB254_261.out _; (with_reducible repeat (first | refine blk_drewN ?_ _ | refine blk_drew ?_ | refine blk_alloc ?_ _)); exact BK254.out⟩, ⟨by (with_reducible repeat (first | refine blk_drewN ?_ _ | refine blk_drew ?_ | refine blk_alloc ?_ _)); refine blk_far ?_ NB255_259.out _; (with_reducible repeat (first | refine blk_drewN ?_ _ | refine blk_drew ?_ | refine blk_alloc ?_ _)); refine blk_far ?_ NB255_259.out _; (with_reducible repeat (first | refine blk_drewN ?_ _ | refine blk_drew ?_ | refine blk_alloc ?_ _)); refine blk_far ?_ NB255_258.out _; (with_reducible repeat (first | refine blk_drewN ?_ _ | refine blk_drew ?_ | refine blk_alloc ?_ _)); refine blk_far ?_ NB255_258.out _; (with_reducible repeat (first | refine blk_drewN ?_ _ | refine blk_drew ?_ | refine blk_alloc ?_ _)); refine blk_far ?_ NB255_261.out _; (with_reducible repeat (first | refine blk_drewN ?_ _ | refine blk_drew ?_ | refine blk_alloc ?_ _)); refine blk_far ?_ NB255_261.out _; (with_reducible repeat (first | refine blk_drewN ?_ _ | refine blk_drew ?_ | refine blk_alloc ?_ _)); exact BK255.out⟩, ⟨by (with_reducible repeat (first | refine blk_drewN ?_ _ | refine blk_drew ?_ | refine blk_alloc ?_ _)); refine blk_far ?_ NB258_259.out _; (with_reducible repeat (first | refine blk_drewN ?_ _ | refine blk_drew ?_ | refine blk_alloc ?_ _)); refine blk_far ?_ NB258_259.out _; (with_reducible repeat (first | refine blk_drewN ?_ _ | refine blk_drew ?_ | refine blk_alloc ?_ _)); refine blk_put (cs := #[.int .i64 ji16, .int .i64 x259001_1]) ?_ 1 _ rfl; (with_reducible repeat (first | refine blk_drewN ?_ _ | refine blk_drew ?_ | refine blk_alloc ?_ _)); refine blk_put (cs := #[.int .i64 x259000_1, .int .i64 x259001_1]) ?_ 0 _ rfl; (with_reducible repeat (first | refine blk_drewN ?_ _ | refine blk_drew ?_ | refine blk_alloc ?_ _)); refine blk_far ?_ NB258_261.out _; (with_reducible repeat (first | refine blk_drewN ?_ _ | refine blk_drew ?_ | refine blk_alloc ?_ _)); refine blk_far ?_ NB258_261.out _; (with_reducible repeat (first | refine blk_drewN ?_ _ | refine blk_drew ?_ | refine blk_alloc ?_ _)); exact BK258.out⟩, ⟨by (with_reducible repeat (first | refine blk_drewN ?_ _ | refine blk_drew ?_ | refine blk_alloc ?_ _)); refine blk_put (cs := #[.int .i64 ji18, .int .i64 x260001_1]) ?_ 1 _ rfl; (with_reducible repeat (first | refine blk_drewN ?_ _ | refine blk_drew ?_ | refine blk_alloc ?_ _)); refine blk_put (cs := #[.int .i64 x260000_1, .int .i64 x260001_1]) ?_ 0 _ rfl; (with_reducible repeat (first | refine blk_drewN ?_ _ | refine blk_drew ?_ | refine blk_alloc ?_ _)); refine blk_far ?_ NB259_258.out _; (with_reducible repeat (first | refine blk_drewN ?_ _ | refine blk_drew ?_ | refine blk_alloc ?_ _)); refine blk_far ?_ NB259_258.out _; (with_reducible repeat (first | refine blk_drewN ?_ _ | refine blk_drew ?_ | refine blk_alloc ?_ _)); refine blk_far ?_ NB259_261.out _; (with_reducible repeat (first | refine blk_drewN ?_ _ | refine blk_drew ?_ | refine blk_alloc ?_ _)); refine blk_far ?_ NB259_261.out _; (with_reducible repeat (first | refine blk_drewN ?_ _ | refine blk_drew ?_ | refine blk_alloc ?_ _)); exact BK259.out⟩, ⟨by repeat (first | (with_reducible first | exact HB.out | apply below_alloc | apply pw_below_drewN | apply below_drew1 | refine below_set ?_ GE254.out | refine below_set ?_ GE255.out | refine below_set ?_ GE258.out | refine below_set ?_ GE259.out | refine below_set ?_ GE261.out) | exact HB.out)⟩⟩
   · rw [if_neg c13] at H
     have c13b0 : decide (x16_1 < (l0.length : Int)) = false := decide_eq_false c13
     clear c13
     simp only [Option.some.injEq, Prod.mk.injEq] at H
     obtain ⟨rfl, rfl, rfl, rfl⟩ := H
     try go_wp2
     have n0_ := mkA (blk_drew BK254.out)
     have n1_ := mkA (blk_drew BK255.out)
     have n2_ := mkA (blk_drew BK258.out)
     have n3_ := mkA (blk_drew BK259.out)
     have n4_ := mkA (below_drew1 HB.out)
     clear BK254
     clear BK255
     clear BK258
     clear BK259
     clear HB
     have BK254 := n0_
     have BK255 := n1_
     have BK258 := n2_
     have BK259 := n3_
     have HB := n4_
     clear n0_ n1_ n2_ n3_ n4_
     refine start_ (n := 4) (S := fun w' => w'.cell? ⟨gb258, 0, none⟩ = some (.int .i64 x259000_1) ∧ w'.cell? ⟨gb258, 1, none⟩ = some (.int .i64 x259001_1) ∧ w'.cell? ⟨gb259, 0, none⟩ = some (.int .i64 x260000_1) ∧ w'.cell? ⟨gb259, 1, none⟩ = some (.int .i64 x260001_1)) (ds := []) #[false, false, false, false] (by kernel_rfl) rfl rfl ⟨(blk_cell BK258.out 0).trans rfl, (blk_cell BK258.out 1).trans rfl, (blk_cell BK259.out 0).trans rfl, (blk_cell BK259.out 1).trans rfl⟩ (fun hHeld => ?_)
     generalize wr.drew = w33 at BK254 BK255 BK258 BK259 HB hHeld ⊢
     refine take_ (i := 0) (N := some 43) (v := ?_) (a' := ?_) #[true, false, false, false] rfl rfl (by kernel_rfl) (fun _ _ _ h => h) (Or.inl ⟨by rfl, ?_⟩) hHeld ?_ ?_
     rotate_left
     · rintro w' ⟨s0, s1, s2, s3⟩
       go_simp
       with_reducible rfl
     rotate_left
     · simp only [Act.put, sA, sB, sC, i64_w, i32_w]
       rfl
     refine take_ (i := 1) (N := some 44) (v := ?_) (a' := ?_) #[true, true, false, false] rfl rfl (by kernel_rfl) (fun _ _ _ h => h) (Or.inl ⟨by rfl, ?_⟩) hHeld ?_ ?_
     rotate_left
     · rintro w' ⟨s0, s1, s2, s3⟩
       go_simp
       with_reducible rfl
     rotate_left
     · simp only [Act.put, sA, sB, sC, i64_w, i32_w]
       rfl
     refine one_ (i := 2) (N := none) #[true, true, true, false] rfl rfl (by kernel_rfl) (by decide) (fun K hK => ?_)
     have hs34 : w33.cell? ⟨gb254, 0, none⟩ = some (.int .i64 0) := (blk_cell BK254.out 0).trans rfl
     have hfs34 := blk_frozen BK254.out 0
     have hns34_1 := NB255_254.out
     have hns34_2 := NB258_254.out
     have hns34_3 := NB259_254.out
     have hms34_1 := NB254_255.out
     have hms34_2 := NB254_258.out
     have hms34_3 := NB254_259.out
     have hs35 : w33.cell? ⟨gb254, 1, none⟩ = some (.int .i64 0) := (blk_cell BK254.out 1).trans rfl
     have hfs35 := blk_frozen BK254.out 1
     have hns35_1 := NB255_254.out
     have hns35_2 := NB258_254.out
     have hns35_3 := NB259_254.out
     have hms35_1 := NB254_255.out
     have hms35_2 := NB254_258.out
     have hms35_3 := NB254_259.out
     refine skip_ (w1 := ?_) (by rfl) rfl ?_ ?_
     rotate_left
     · go_simp
       rfl
     refine hK.out _ _ ⟨((cell_far (p := ⟨gb254, _, none⟩) NB258_254.out _).trans (((cell_far (p := ⟨gb254, _, none⟩) NB258_254.out _).trans (hHeld.1)))), ((cell_far (p := ⟨gb254, _, none⟩) NB258_254.out _).trans (((cell_far (p := ⟨gb254, _, none⟩) NB258_254.out _).trans (hHeld.2.1)))), ((cell_far (p := ⟨gb254, _, none⟩) NB259_254.out _).trans (((cell_far (p := ⟨gb254, _, none⟩) NB259_254.out _).trans (hHeld.2.2.1)))), ((cell_far (p := ⟨gb254, _, none⟩) NB259_254.out _).trans (((cell_far (p := ⟨gb254, _, none⟩) NB259_254.out _).trans (hHeld.2.2.2))))⟩ (fun hHeld => ?_)
     clear hK K
     refine one_ (i := 3) (N := none) #[true, true, true, true] rfl rfl (by kernel_rfl) (by decide) (fun K hK => ?_)
     have hs36 : w33.cell? ⟨gb255, 0, none⟩ = some (.int .i64 0) := (blk_cell BK255.out 0).trans rfl
     have hfs36 := blk_frozen BK255.out 0
     have hns36_0 := NB254_255.out
     have hns36_2 := NB258_255.out
     have hns36_3 := NB259_255.out
     have hms36_0 := NB255_254.out
     have hms36_2 := NB255_258.out
     have hms36_3 := NB255_259.out
     have hs37 : w33.cell? ⟨gb255, 1, none⟩ = some (.int .i64 0) := (blk_cell BK255.out 1).trans rfl
     have hfs37 := blk_frozen BK255.out 1
     have hns37_0 := NB254_255.out
     have hns37_2 := NB258_255.out
     have hns37_3 := NB259_255.out
     have hms37_0 := NB255_254.out
     have hms37_2 := NB255_258.out
     have hms37_3 := NB255_259.out
     refine skip_ (w1 := ?_) (by rfl) rfl ?_ ?_
     rotate_left
     · go_simp
       rfl
     refine hK.out _ _ ⟨((cell_far (p := ⟨gb255, _, none⟩) NB258_255.out _).trans (((cell_far (p := ⟨gb255, _, none⟩) NB258_255.out _).trans (hHeld.1)))), ((cell_far (p := ⟨gb255, _, none⟩) NB258_255.out _).trans (((cell_far (p := ⟨gb255, _, none⟩) NB258_255.out _).trans (hHeld.2.1)))), ((cell_far (p := ⟨gb255, _, none⟩) NB259_255.out _).trans (((cell_far (p := ⟨gb255, _, none⟩) NB259_255.out _).trans (hHeld.2.2.1)))), ((cell_far (p := ⟨gb255, _, none⟩) NB259_255.out _).trans (((cell_far (p := ⟨gb255, _, none⟩) NB259_255.out _).trans (hHeld.2.2.2))))⟩ (fun hHeld => ?_)
     clear hK K
     refine done_ (by kernel_rfl) ?_
     try go_wp2
     refine bodyPost_ret (results_cc rfl _ _ gb254 gb255 105 105 #[.int .i64 x259000_1, .int .i64 x259001_1] #[.int .i64 x260000_1, .int .i64 x260001_1] (0, 0) (0, 0) _ _ rfl (by (with_reducible repeat (first | refine blk_drewN ?_ _ | refine blk_drew ?_ | refine blk_alloc ?_ _)); refine blk_far ?_ NB254_255.out _; (with_reducible repeat (first | refine blk_drewN ?_ _ | refine blk_drew ?_ | refine blk_alloc ?_ _)); refine blk_far ?_ NB254_255.out _; (with_reducible repeat (first | refine blk_drewN ?_ _ | refine blk_drew ?_ | refine blk_alloc ?_ _)); refine blk_put (cs := #[.int .i64 x259000_1, .int .i64 0]) ?_ 1 _ rfl; (with_reducible repeat (first | refine blk_drewN ?_ _ | refine blk_drew ?_ | refine blk_alloc ?_ _)); refine blk_put (cs := #[.int .i64 0, .int .i64 0]) ?_ 0 _ rfl; (with_reducible repeat (first | refine blk_drewN ?_ _ | refine blk_drew ?_ | refine blk_alloc ?_ _)); exact BK254.out) Try.underlying105 rfl (by kernel_rfl) rfl (by (with_reducible repeat (first | refine blk_drewN ?_ _ | refine blk_drew ?_ | refine blk_alloc ?_ _)); refine blk_put (cs := #[.int .i64 x260000_1, .int .i64 0]) ?_ 1 _ rfl; (with_reducible repeat (first | refine blk_drewN ?_ _ | refine blk_drew ?_ | refine blk_alloc ?_ _)); refine blk_put (cs := #[.int .i64 0, .int .i64 0]) ?_ 0 _ rfl; (with_reducible repeat (first | refine blk_drewN ?_ _ | refine blk_drew ?_ | refine blk_alloc ?_ _)); refine blk_far ?_ NB255_254.out _; (with_reducible repeat (first | refine blk_drewN ?_ _ | refine blk_drew ?_ | refine blk_alloc ?_ _)); refine blk_far ?_ NB255_254.out _; (with_reducible repeat (first | refine blk_drewN ?_ _ | refine blk_drew ?_ | refine blk_alloc ?_ _)); exact BK255.out) Try.underlying105 rfl (by kernel_rfl)) rfl ?_
     exact ⟨by first | rfl | (simp [errW_none, errW_some] <;> rfl) | (simp [*, errW_none, errW_some] <;> rfl), by repeat (first | (with_reducible first | exact HB.out | apply below_alloc | apply pw_below_drewN | apply below_drew1 | refine below_set ?_ GE254.out | refine below_set ?_ GE255.out | refine below_set ?_ GE258.out | refine below_set ?_ GE259.out) | exact HB.out)⟩
end Go.Proofs.Ytakagkflgkoiiaa.GFnExactTurnsOfPiece

-- Written by the session's own program (gen.py) out of the translation's print. Lean checks it.
import Derived.Test.YtakagkflgkoiiaaQ
import Derived.Test.YtakagkflgkoiiaaGFnExactIsCoverx0
namespace Go.Proofs.Ytakagkflgkoiiaa.GFnExactIsCover
open Go.RowKit Go.Proofs.YtakagkflgkoiiaaW.PrintWords Go.Proofs.YtakagkflgkoiiaaW.PrintLast Go.Proofs.YtakagkflgkoiiaaW.PrintMore
open List renaming setIfInBounds_toArray → sA, set_cons_zero → sB, set_cons_succ → sC
open Go.Proofs.YtakagkflgkoiiaaW.PrintWords.Aside0 renaming mk → mkA
open Go.Proofs.YtakagkflgkoiiaaX (dt_ bc_ p0_ p1_ bl_ cb_ bs0_ bs1_ bs2_ bs3_ bs4_ bs5_ bs6_ bs7_ bs8_ bs9_ bs10_ bs11_ bs12_)
open Go.Proofs.YtakagkflgkoiiaaQ
attribute [local go_sem] max2_int min2_int max_two min_two max_three min_three max_four min_four 
set_option linter.unusedVariables false
set_option linter.unusedSimpArgs false

/-! ### impl_compareCells: function 89 -/
def impl_compareCells.f (a0_0 : Int) (a0_1 : Int) (a1_0 : Int) (a1_1 : Int) : Option (Int) := if a0_1 = a1_1 then (some (wrap64 (a0_0 - a1_0))) else (some (wrap64 (a0_1 - a1_1)))
set_option maxHeartbeats 8000000 in
set_option maxRecDepth 100000 in
theorem impl_compareCells.calls (a0_0 : Int) (a0_1 : Int) (a1_0 : Int) (a1_1 : Int) (r : Int) (w : World) (h : impl_compareCells.f a0_0 a0_1 a1_0 a1_1 = some r) :
 Calls Try.prog 89 #[.agg #[.int .i64 a0_0, .int .i64 a0_1], .agg #[.int .i64 a1_0, .int .i64 a1_1]] w fun e w' => e = .returned (.int .i64 r) ∧ Below w.heap.size w w' := by
 have hu105 := Try.underlying105
 have HB := mkA (Below.refl w.heap.size w)
 unfold impl_compareCells.f at h
 have H := h
 clear h
 by_cases c3 : a0_1 = a1_1
 · rw [if_pos c3] at H
   have c3b0 : (a0_1 == a1_1) = true := beq_iff_eq.mpr c3
   have c3b1 : (a0_1 != a1_1) = false := bne_eq_false_iff_eq.mpr c3
   clear c3
   obtain rfl := Option.some.inj H
   go_enter Try.func89, Try.ntmps89
   go_wp2_with (first | ((with_reducible refine gt_ 2 ?_); refine bx_ 2 #[.int .i64 a0_0, .int .i64 a0_1] 105 fun gb401 hg w4 hbox hb => ?_; have BK401 := mkA (hbox); have GW401 := gs_ hg (bs0_ HB.out); have GE401 := GW401; replace HB := mkA (below_step (bs0_ HB.out) hb); clear hb hbox hg) | ((with_reducible refine gt_ 3 ?_); refine bx_ 3 #[.int .i64 a1_0, .int .i64 a1_1] 105 fun gb402 hg w5 hbox hb => ?_; have BK402 := mkA (hbox); have GW402 := gs_ hg (bs1_ HB.out GE401.out); have GE402 := GW402; replace HB := mkA (below_step (bs1_ HB.out GE401.out) hb); have NB401_402 := nl_ hg (bl_ BK401.out); have NB402_401 := nr_ hg (bl_ BK401.out); replace BK401 := mkA (blk_below (bl_ BK401.out) hb); clear hb hbox hg; have hnb6 := NB401_402.out; have hnc6 := NB402_401.out; obtain ⟨hcz7_0, hcz7_1, hfz7_0, hfz7_1⟩ := z2_ BK401.out; obtain ⟨hcz8_0, hcz8_1, hfz8_0, hfz8_1⟩ := z2_ BK402.out))
   go_ret
   exact ⟨re_, bs2_ HB.out GE401.out GE402.out⟩
 · rw [if_neg c3] at H
   have c3b0 : (a0_1 == a1_1) = false := beq_eq_false_iff_ne.mpr c3
   have c3b1 : (a0_1 != a1_1) = true := bne_iff_ne.mpr c3
   obtain rfl := Option.some.inj H
   go_enter Try.func89, Try.ntmps89
   go_wp2_with (first | ((with_reducible refine gt_ 2 ?_); refine bx_ 2 #[.int .i64 a0_0, .int .i64 a0_1] 105 fun gb401 hg w9 hbox hb => ?_; have BK401 := mkA (hbox); have GW401 := gs_ hg (bs0_ HB.out); have GE401 := GW401; replace HB := mkA (below_step (bs0_ HB.out) hb); clear hb hbox hg) | ((with_reducible refine gt_ 3 ?_); refine bx_ 3 #[.int .i64 a1_0, .int .i64 a1_1] 105 fun gb402 hg w10 hbox hb => ?_; have BK402 := mkA (hbox); have GW402 := gs_ hg (bs1_ HB.out GE401.out); have GE402 := GW402; replace HB := mkA (below_step (bs1_ HB.out GE401.out) hb); have NB401_402 := nl_ hg (bl_ BK401.out); have NB402_401 := nr_ hg (bl_ BK401.out); replace BK401 := mkA (blk_below (bl_ BK401.out) hb); clear hb hbox hg; have hnb11 := NB401_402.out; have hnc11 := NB402_401.out; obtain ⟨hcz12_0, hcz12_1, hfz12_0, hfz12_1⟩ := z2_ BK401.out; obtain ⟨hcz13_0, hcz13_1, hfz13_0, hfz13_1⟩ := z2_ BK402.out))
   go_ret
   exact ⟨re_, bs2_ HB.out GE401.out GE402.out⟩
/-! ### impl_bounds: function 90 -/
def impl_bounds.l0 : Nat → List (S105) → Int → Int → Int → Int → Int → Int → Option (Int × Int × Int × Int)
  | 0, _, _, _, _, _, _, _ => none
  | k + 1, x14, x15, x16, x408000, x408001, x409000, x409001 => if x16 < x15 then (if 0 ≤ x16 then (if x16 < (x14.length : Int) then (impl_bounds.l0 k x14 x15 (wrap64 (x16 + 1)) (mn x408000 ((rd_T105 x14 x16).f0)) (mn x408001 ((rd_T105 x14 x16).f1)) (mx x409000 ((rd_T105 x14 x16).f0)) (mx x409001 ((rd_T105 x14 x16).f1))) else (none)) else (none)) else (some (x408000, x408001, x409000, x409001))
def impl_bounds.f (k : Nat) (l0 : List (S105)) : Option (Int × Int × Int × Int) := if 0 < (l0.length : Int) then (impl_bounds.l0 k l0 (l0.length : Int) 0 ((rd_T105 l0 0).f0) ((rd_T105 l0 0).f1) ((rd_T105 l0 0).f0) ((rd_T105 l0 0).f1)) else (none)
def impl_bounds.T1 : Bool × List (List Nat × List Nat) := (true, [([], []), ([0], [0]), ([1], [1]), ([], []), ([3], [3]), ([4], [4]), ([], []), ([], []), ([6, 2, 0, 1, 2, 6, 7], [2, 6]), ([7, 5, 8, 0, 1, 2, 3, 4, 5, 6, 7, 8], [5, 7])])
def impl_bounds.B1 : List Nat := [0, 1, 3, 0, 8, 24, 0, 0, 199, 511]
theorem impl_bounds.tab1 : rtab .any (opsOf Try.f90 1) = impl_bounds.T1 := by kernel_rfl
theorem impl_bounds.bits1 : waitsOk impl_bounds.T1.2 impl_bounds.B1 = true := by kernel_rfl
set_option maxHeartbeats 8000000 in
set_option maxRecDepth 100000 in
theorem impl_bounds.calls (k : Nat) (A0 : Option Addr) (c0 : Nat) (l0 : List (S105)) (r1 : Int) (r2 : Int) (r3 : Int) (r4 : Int) (w : World) (hr0 : Kd.C k105 w A0 l0.length l0) (hc0 : l0.length ≤ c0) (h : impl_bounds.f k l0 = some (r1, r2, r3, r4)) :
 Calls Try.prog 90 #[.slice A0 l0.length c0] w fun e w' => e = .returned (.tuple #[.agg #[.int .i64 r1, .int .i64 r2], .agg #[.int .i64 r3, .int .i64 r4]]) ∧ Below w.heap.size w w' := by
 have hu105 := Try.underlying105
 have HR0 := mkA hr0
 have HC0 := mkA hc0
 clear hr0 hc0
 have HB := mkA (Below.refl w.heap.size w)
 unfold impl_bounds.f at h
 have H := h
 clear h
 revert H
 refine ng_ fun c2 => ?_
 intro H
 have c2b0 := decide_eq_true c2
 have c2b1 : decide (0 < l0.length) = true := decide_eq_true (by omega)
 clear c2
 have H' := mkA H
 clear H
 go_enter Try.func90, Try.ntmps90
 try go_wp2_with (first | ((with_reducible refine gt_ 2 ?_); refine bx_ 2 #[.int .i64 0, .int .i64 0] 105 fun gb403 hg w3 hbox hb => ?_; have BK403 := mkA (hbox); have GW403 := gs_ hg (bs0_ HB.out); have GE403 := GW403; replace HB := mkA (below_step (bs0_ HB.out) hb); clear hb hbox hg) | ((with_reducible refine gt_ 3 ?_); refine bx_ 3 #[.int .i64 0, .int .i64 0] 105 fun gb404 hg w4 hbox hb => ?_; have BK404 := mkA (hbox); have GW404 := gs_ hg (bs1_ HB.out GE403.out); have GE404 := GW404; replace HB := mkA (below_step (bs1_ HB.out GE403.out) hb); have NB403_404 := nl_ hg (bl_ BK403.out); have NB404_403 := nr_ hg (bl_ BK403.out); replace BK403 := mkA (blk_below (bl_ BK403.out) hb); clear hb hbox hg))
 replace BK403 := mkA (blk_drew BK403.out)
 replace BK404 := mkA (blk_drew BK404.out)
 replace HB := mkA (below_drew1 HB.out)
 obtain ⟨ad405, e405, hx405_0, hx405_1⟩ := at_T105 HR0.out 0 (by omega) dt_
 have hw405_1 := hx405_1
 (try simp only [show ((0 : Int)).toNat = 0 from rfl, show 0 * 2 = 0 from rfl, Addr.add_zero'] at hw405_1)
 have hw405_0 := hx405_0
 (try simp only [show ((0 : Int)).toNat = 0 from rfl, show 0 * 2 = 0 from rfl, Addr.add_zero'] at hw405_0)
 cases e405
 (try simp only [show ((0 : Int)).toNat = 0 from rfl, show 0 * 2 = 0 from rfl, Addr.add_zero'] at hx405_0 hx405_1)
 replace hx405_0 := bc_ HB.out hx405_0
 replace hx405_1 := bc_ HB.out hx405_1
 have p405 : (0 ≤ (0 : Int)) = True := eq_true (by omega)
 have q405 : (0 < (l0.length : Int)) = True := eq_true dt_
 have qi405 := qn_ q405
 obtain ⟨ad406, e406, hx406_0, hx406_1⟩ := at_T105 HR0.out 0 (by omega) dt_
 have hw406_1 := hx406_1
 (try simp only [show ((0 : Int)).toNat = 0 from rfl, show 0 * 2 = 0 from rfl, Addr.add_zero'] at hw406_1)
 have hw406_0 := hx406_0
 (try simp only [show ((0 : Int)).toNat = 0 from rfl, show 0 * 2 = 0 from rfl, Addr.add_zero'] at hw406_0)
 obtain rfl : ad405 = ad406 := (by injection e406)
 (try simp only [show ((0 : Int)).toNat = 0 from rfl, show 0 * 2 = 0 from rfl, Addr.add_zero'] at hx406_0 hx406_1)
 replace hx406_0 := bc_ HB.out hx406_0
 replace hx406_1 := bc_ HB.out hx406_1
 have p406 : (0 ≤ (0 : Int)) = True := eq_true (by omega)
 have q406 : (0 < (l0.length : Int)) = True := eq_true dt_
 have qi406 := qn_ q406
 refine st_ 10 (fun w' => C_ hw405_0 w' ∧ C_ hw405_1 w' ∧ C_ hw406_0 w' ∧ C_ hw406_1 w') [] impl_bounds.tab1 impl_bounds.bits1 sp_ fun hHeld HT_ HW_ => ?_
 generalize w4.drew = w5 at BK403 BK404 HB hx405_0 hx405_1 hx406_0 hx406_1 hHeld ⊢
 refine a1_ 0 8 (h := a1_ 1 9 (h := a1_ 3 11 (h := a1_ 4 12 (h := tk_ 2 10 (h := tk_ 5 13 (h := ?_))))))
 refine join_ (σ := Nat × Nat) 2 (fA 10 255) (fun s_ => [(4, .pointer (some ⟨s_.1, 0, none⟩)), (5, .pointer (some ⟨s_.2, 0, none⟩))]) (fun s_ w' => (w'.cell? ad405 = some (.int .i64 ((rd_T105 l0 0).f0)) ∧ w'.cell? ⟨ad405.block, ad405.off + 1, none⟩ = some (.int .i64 ((rd_T105 l0 0).f1)) ∧ w'.cell? ad405 = some (.int .i64 ((rd_T105 l0 0).f0)) ∧ w'.cell? ⟨ad405.block, ad405.off + 1, none⟩ = some (.int .i64 ((rd_T105 l0 0).f1))) ∧ (w'.heap[gb403]? = some (.cells #[.int .i64 0, .int .i64 0] 105 (0, 0))) ∧ (w'.heap[gb404]? = some (.cells #[.int .i64 0, .int .i64 0] 105 (0, 0))) ∧ (w'.heap[s_.1]? = some (.cells #[.int .i64 0, .int .i64 0] 105 (0, 0))) ∧ (w'.heap[s_.2]? = some (.cells #[.int .i64 0, .int .i64 0] 105 (0, 0))) ∧ (w.heap.size ≤ s_.1) ∧ (w.heap.size ≤ s_.1) ∧ (gb403 ≠ s_.1) ∧ (s_.1 ≠ gb403) ∧ (gb404 ≠ s_.1) ∧ (s_.1 ≠ gb404) ∧ (s_.2 ≠ s_.1) ∧ (s_.1 ≠ s_.2) ∧ (w.heap.size ≤ s_.2) ∧ (w.heap.size ≤ s_.2) ∧ (gb403 ≠ s_.2) ∧ (s_.2 ≠ gb403) ∧ (gb404 ≠ s_.2) ∧ (s_.2 ≠ gb404) ∧ (Below w.heap.size w w')) ?_ ?_
 rotate_left
 · intro hCont
   refine two_ (i := 6) (j := 7) (Ni := some 4) (Nj := some 5) (fA 10 127) (fA 10 191) rfl rfl rfl rfl (two_of HT_.out (by kernel_rfl)) (by decide) (by decide) (fun K hK => ?_) (fun K hK => ?_)
   · skip
     refine box_step ?hg (N := 4) ?hd (cs := #[.int .i64 0, .int .i64 0]) (t := 105) ?hr ?_; (case hd => rfl); (case hg => rfl); (case hr => first | (go_simp; done) | (go_simp; rfl))
     intro gb407 hg w6 hbox hb
     have BK407 := mkA (hbox)
     have GW407 := gs_ hg (bs2_ HB.out GE403.out GE404.out)
     have GE407 := GW407
     replace HB := mkA (below_step (bs2_ HB.out GE403.out GE404.out) hb)
     have NB403_407 := nl_ hg (bl_ BK403.out)
     have NB407_403 := nr_ hg (bl_ BK403.out)
     replace BK403 := mkA (blk_below (bl_ BK403.out) hb)
     have NB404_407 := nl_ hg (bl_ BK404.out)
     have NB407_404 := nr_ hg (bl_ BK404.out)
     replace BK404 := mkA (blk_below (bl_ BK404.out) hb)
     clear hb hbox hg
     refine hK.out _ _ sp_ fun hHeld => ?_
     clear hK K
     refine nm_ 4 ?_
     refine on_ 7 5 fun K hK => ?_
     refine box_step ?hg (N := 5) ?hd (cs := #[.int .i64 0, .int .i64 0]) (t := 105) ?hr ?_; (case hd => rfl); (case hg => rfl); (case hr => first | (go_simp; done) | (go_simp; rfl))
     intro gb408 hg w7 hbox hb
     have BK408 := mkA (hbox)
     have GW408 := gs_ hg (bs3_ HB.out GE403.out GE404.out GE407.out)
     have GE408 := GW408
     replace HB := mkA (below_step (bs3_ HB.out GE403.out GE404.out GE407.out) hb)
     have NB403_408 := nl_ hg (bl_ BK403.out)
     have NB408_403 := nr_ hg (bl_ BK403.out)
     replace BK403 := mkA (blk_below (bl_ BK403.out) hb)
     have NB404_408 := nl_ hg (bl_ BK404.out)
     have NB408_404 := nr_ hg (bl_ BK404.out)
     replace BK404 := mkA (blk_below (bl_ BK404.out) hb)
     have NB407_408 := nl_ hg (bl_ BK407.out)
     have NB408_407 := nr_ hg (bl_ BK407.out)
     replace BK407 := mkA (blk_below (bl_ BK407.out) hb)
     clear hb hbox hg
     refine hK.out _ _ sp_ fun hHeld => ?_
     clear hK K
     refine nm_ 5 ?_
     exact norm_ (by simp only [putAll, Act.put, sA, sB, sC]) (hCont (gb407, gb408) _ ⟨hHeld, (bl_ BK403.out), (bl_ BK404.out), (bl_ BK407.out), (bl_ BK408.out), GW407.out, GE407.out, NB403_407.out, NB407_403.out, NB404_407.out, NB407_404.out, NB408_407.out, NB407_408.out, GW408.out, GE408.out, NB403_408.out, NB408_403.out, NB404_408.out, NB408_404.out, (bs4_ HB.out GE403.out GE404.out GE407.out GE408.out)⟩)
   · skip
     refine box_step ?hg (N := 5) ?hd (cs := #[.int .i64 0, .int .i64 0]) (t := 105) ?hr ?_; (case hd => rfl); (case hg => rfl); (case hr => first | (go_simp; done) | (go_simp; rfl))
     intro gb408 hg w6 hbox hb
     have BK408 := mkA (hbox)
     have GW408 := gs_ hg (bs2_ HB.out GE403.out GE404.out)
     have GE408 := GW408
     replace HB := mkA (below_step (bs2_ HB.out GE403.out GE404.out) hb)
     have NB403_408 := nl_ hg (bl_ BK403.out)
     have NB408_403 := nr_ hg (bl_ BK403.out)
     replace BK403 := mkA (blk_below (bl_ BK403.out) hb)
     have NB404_408 := nl_ hg (bl_ BK404.out)
     have NB408_404 := nr_ hg (bl_ BK404.out)
     replace BK404 := mkA (blk_below (bl_ BK404.out) hb)
     clear hb hbox hg
     refine hK.out _ _ sp_ fun hHeld => ?_
     clear hK K
     refine nm_ 5 ?_
     refine on_ 6 4 fun K hK => ?_
     refine box_step ?hg (N := 4) ?hd (cs := #[.int .i64 0, .int .i64 0]) (t := 105) ?hr ?_; (case hd => rfl); (case hg => rfl); (case hr => first | (go_simp; done) | (go_simp; rfl))
     intro gb407 hg w7 hbox hb
     have BK407 := mkA (hbox)
     have GW407 := gs_ hg (bs3_ HB.out GE403.out GE404.out GE408.out)
     have GE407 := GW407
     replace HB := mkA (below_step (bs3_ HB.out GE403.out GE404.out GE408.out) hb)
     have NB403_407 := nl_ hg (bl_ BK403.out)
     have NB407_403 := nr_ hg (bl_ BK403.out)
     replace BK403 := mkA (blk_below (bl_ BK403.out) hb)
     have NB404_407 := nl_ hg (bl_ BK404.out)
     have NB407_404 := nr_ hg (bl_ BK404.out)
     replace BK404 := mkA (blk_below (bl_ BK404.out) hb)
     have NB408_407 := nl_ hg (bl_ BK408.out)
     have NB407_408 := nr_ hg (bl_ BK408.out)
     replace BK408 := mkA (blk_below (bl_ BK408.out) hb)
     clear hb hbox hg
     refine hK.out _ _ sp_ fun hHeld => ?_
     clear hK K
     refine nm_ 4 ?_
     exact norm_ (by simp only [putAll, Act.put, sA, sB, sC]) (hCont (gb407, gb408) _ ⟨hHeld, (bl_ BK403.out), (bl_ BK404.out), (bl_ BK407.out), (bl_ BK408.out), GW407.out, GE407.out, NB403_407.out, NB407_403.out, NB404_407.out, NB407_404.out, NB408_407.out, NB407_408.out, GW408.out, GE408.out, NB403_408.out, NB408_403.out, NB404_408.out, NB408_404.out, (bs4_ HB.out GE403.out GE404.out GE408.out GE407.out)⟩)
 rintro ⟨gb407, gb408⟩ w8 ⟨hS_, h0_, h1_, h2_, h3_, h4_, h5_, h6_, h7_, h8_, h9_, h10_, h11_, h12_, h13_, h14_, h15_, h16_, h17_, h18_⟩
 replace BK403 : Aside0 (w8.heap[gb403]? = some (.cells #[.int .i64 0, .int .i64 0] 105 (0, 0))) := ⟨h0_⟩
 replace BK404 : Aside0 (w8.heap[gb404]? = some (.cells #[.int .i64 0, .int .i64 0] 105 (0, 0))) := ⟨h1_⟩
 have BK407 : Aside0 (w8.heap[gb407]? = some (.cells #[.int .i64 0, .int .i64 0] 105 (0, 0))) := ⟨h2_⟩
 have BK408 : Aside0 (w8.heap[gb408]? = some (.cells #[.int .i64 0, .int .i64 0] 105 (0, 0))) := ⟨h3_⟩
 have GW407 : Aside0 (w.heap.size ≤ gb407) := ⟨h4_⟩
 have GE407 : Aside0 (w.heap.size ≤ gb407) := ⟨h5_⟩
 have NB403_407 : Aside0 (gb403 ≠ gb407) := ⟨h6_⟩
 have NB407_403 : Aside0 (gb407 ≠ gb403) := ⟨h7_⟩
 have NB404_407 : Aside0 (gb404 ≠ gb407) := ⟨h8_⟩
 have NB407_404 : Aside0 (gb407 ≠ gb404) := ⟨h9_⟩
 have NB408_407 : Aside0 (gb408 ≠ gb407) := ⟨h10_⟩
 have NB407_408 : Aside0 (gb407 ≠ gb408) := ⟨h11_⟩
 have GW408 : Aside0 (w.heap.size ≤ gb408) := ⟨h12_⟩
 have GE408 : Aside0 (w.heap.size ≤ gb408) := ⟨h13_⟩
 have NB403_408 : Aside0 (gb403 ≠ gb408) := ⟨h14_⟩
 have NB408_403 : Aside0 (gb408 ≠ gb403) := ⟨h15_⟩
 have NB404_408 : Aside0 (gb404 ≠ gb408) := ⟨h16_⟩
 have NB408_404 : Aside0 (gb408 ≠ gb404) := ⟨h17_⟩
 replace HB : Aside0 (Below w.heap.size w w8) := ⟨h18_⟩
 clear h0_ h1_ h2_ h3_ h4_ h5_ h6_ h7_ h8_ h9_ h10_ h11_ h12_ h13_ h14_ h15_ h16_ h17_ h18_
 have hHeld : w8.cell? ad405 = some (.int .i64 ((rd_T105 l0 0).f0)) ∧ w8.cell? ⟨ad405.block, ad405.off + 1, none⟩ = some (.int .i64 ((rd_T105 l0 0).f1)) ∧ w8.cell? ad405 = some (.int .i64 ((rd_T105 l0 0).f0)) ∧ w8.cell? ⟨ad405.block, ad405.off + 1, none⟩ = some (.int .i64 ((rd_T105 l0 0).f1)) := hS_
 refine norm_ (a' := ?_) ?_ ?_
 rotate_left
 · simp only [putAll, Act.put, sA, sB, sC]
   rfl
 refine one_ (i := 8) (N := none) (fA 10 511) rfl rfl (one_of HT_.out (by kernel_rfl)) (by decide) (fun K hK => ?_)
 have hs9 : w8.cell? ⟨gb407, 0, none⟩ = some (.int .i64 0) := (blk_cell BK407.out 0).trans rfl
 have hfs9 := blk_frozen BK407.out 0
 have hns9_0 := NB403_407.out
 have hns9_1 := NB404_407.out
 have hns9_3 := NB408_407.out
 have hms9_0 := NB407_403.out
 have hms9_1 := NB407_404.out
 have hms9_3 := NB407_408.out
 have hs10 : w8.cell? ⟨gb407, 1, none⟩ = some (.int .i64 0) := (blk_cell BK407.out 1).trans rfl
 have hfs10 := blk_frozen BK407.out 1
 have hns10_0 := NB403_407.out
 have hns10_1 := NB404_407.out
 have hns10_3 := NB408_407.out
 have hms10_0 := NB407_403.out
 have hms10_1 := NB407_404.out
 have hms10_3 := NB407_408.out
 refine skip_ (w1 := ?_) (by rfl) rfl ?_ ?_
 rotate_left
 · go_simp
   rfl
 refine hK.out _ _ ⟨((cell_far (p := ⟨gb407, _, none⟩) (by first | exact Nat.ne_of_lt (Nat.lt_of_lt_of_le (by have := World.block_lt_of_cell? _ _ hw405_0; first | rwa [add_block] at this | exact this) GW407.out) | (rw [add_block]; exact Nat.ne_of_lt (Nat.lt_of_lt_of_le (by have := World.block_lt_of_cell? _ _ hw405_0; first | rwa [add_block] at this | exact this) GW407.out)) | (show (Addr.add _ _).block ≠ _; rw [add_block]; exact Nat.ne_of_lt (Nat.lt_of_lt_of_le (by have := World.block_lt_of_cell? _ _ hw405_0; first | rwa [add_block] at this | exact this) GW407.out)) | (dsimp only; exact Nat.ne_of_lt (Nat.lt_of_lt_of_le (by have := World.block_lt_of_cell? _ _ hw405_0; first | rwa [add_block] at this | exact this) GW407.out))) _).trans (((cell_far (p := ⟨gb407, _, none⟩) (by first | exact Nat.ne_of_lt (Nat.lt_of_lt_of_le (by have := World.block_lt_of_cell? _ _ hw405_0; first | rwa [add_block] at this | exact this) GW407.out) | (rw [add_block]; exact Nat.ne_of_lt (Nat.lt_of_lt_of_le (by have := World.block_lt_of_cell? _ _ hw405_0; first | rwa [add_block] at this | exact this) GW407.out)) | (show (Addr.add _ _).block ≠ _; rw [add_block]; exact Nat.ne_of_lt (Nat.lt_of_lt_of_le (by have := World.block_lt_of_cell? _ _ hw405_0; first | rwa [add_block] at this | exact this) GW407.out)) | (dsimp only; exact Nat.ne_of_lt (Nat.lt_of_lt_of_le (by have := World.block_lt_of_cell? _ _ hw405_0; first | rwa [add_block] at this | exact this) GW407.out))) _).trans (hHeld.1)))), ((cell_far (p := ⟨gb407, _, none⟩) (by first | exact Nat.ne_of_lt (Nat.lt_of_lt_of_le (by have := World.block_lt_of_cell? _ _ hw405_1; first | rwa [add_block] at this | exact this) GW407.out) | (rw [add_block]; exact Nat.ne_of_lt (Nat.lt_of_lt_of_le (by have := World.block_lt_of_cell? _ _ hw405_1; first | rwa [add_block] at this | exact this) GW407.out)) | (show (Addr.add _ _).block ≠ _; rw [add_block]; exact Nat.ne_of_lt (Nat.lt_of_lt_of_le (by have := World.block_lt_of_cell? _ _ hw405_1; first | rwa [add_block] at this | exact this) GW407.out)) | (dsimp only; exact Nat.ne_of_lt (Nat.lt_of_lt_of_le (by have := World.block_lt_of_cell? _ _ hw405_1; first | rwa [add_block] at this | exact this) GW407.out))) _).trans (((cell_far (p := ⟨gb407, _, none⟩) (by first | exact Nat.ne_of_lt (Nat.lt_of_lt_of_le (by have := World.block_lt_of_cell? _ _ hw405_1; first | rwa [add_block] at this | exact this) GW407.out) | (rw [add_block]; exact Nat.ne_of_lt (Nat.lt_of_lt_of_le (by have := World.block_lt_of_cell? _ _ hw405_1; first | rwa [add_block] at this | exact this) GW407.out)) | (show (Addr.add _ _).block ≠ _; rw [add_block]; exact Nat.ne_of_lt (Nat.lt_of_lt_of_le (by have := World.block_lt_of_cell? _ _ hw405_1; first | rwa [add_block] at this | exact this) GW407.out)) | (dsimp only; exact Nat.ne_of_lt (Nat.lt_of_lt_of_le (by have := World.block_lt_of_cell? _ _ hw405_1; first | rwa [add_block] at this | exact this) GW407.out))) _).trans (hHeld.2.1)))), ((cell_far (p := ⟨gb407, _, none⟩) (by first | exact Nat.ne_of_lt (Nat.lt_of_lt_of_le (by have := World.block_lt_of_cell? _ _ hw406_0; first | rwa [add_block] at this | exact this) GW407.out) | (rw [add_block]; exact Nat.ne_of_lt (Nat.lt_of_lt_of_le (by have := World.block_lt_of_cell? _ _ hw406_0; first | rwa [add_block] at this | exact this) GW407.out)) | (show (Addr.add _ _).block ≠ _; rw [add_block]; exact Nat.ne_of_lt (Nat.lt_of_lt_of_le (by have := World.block_lt_of_cell? _ _ hw406_0; first | rwa [add_block] at this | exact this) GW407.out)) | (dsimp only; exact Nat.ne_of_lt (Nat.lt_of_lt_of_le (by have := World.block_lt_of_cell? _ _ hw406_0; first | rwa [add_block] at this | exact this) GW407.out))) _).trans (((cell_far (p := ⟨gb407, _, none⟩) (by first | exact Nat.ne_of_lt (Nat.lt_of_lt_of_le (by have := World.block_lt_of_cell? _ _ hw406_0; first | rwa [add_block] at this | exact this) GW407.out) | (rw [add_block]; exact Nat.ne_of_lt (Nat.lt_of_lt_of_le (by have := World.block_lt_of_cell? _ _ hw406_0; first | rwa [add_block] at this | exact this) GW407.out)) | (show (Addr.add _ _).block ≠ _; rw [add_block]; exact Nat.ne_of_lt (Nat.lt_of_lt_of_le (by have := World.block_lt_of_cell? _ _ hw406_0; first | rwa [add_block] at this | exact this) GW407.out)) | (dsimp only; exact Nat.ne_of_lt (Nat.lt_of_lt_of_le (by have := World.block_lt_of_cell? _ _ hw406_0; first | rwa [add_block] at this | exact this) GW407.out))) _).trans (hHeld.2.2.1)))), ((cell_far (p := ⟨gb407, _, none⟩) (by first | exact Nat.ne_of_lt (Nat.lt_of_lt_of_le (by have := World.block_lt_of_cell? _ _ hw406_1; first | rwa [add_block] at this | exact this) GW407.out) | (rw [add_block]; exact Nat.ne_of_lt (Nat.lt_of_lt_of_le (by have := World.block_lt_of_cell? _ _ hw406_1; first | rwa [add_block] at this | exact this) GW407.out)) | (show (Addr.add _ _).block ≠ _; rw [add_block]; exact Nat.ne_of_lt (Nat.lt_of_lt_of_le (by have := World.block_lt_of_cell? _ _ hw406_1; first | rwa [add_block] at this | exact this) GW407.out)) | (dsimp only; exact Nat.ne_of_lt (Nat.lt_of_lt_of_le (by have := World.block_lt_of_cell? _ _ hw406_1; first | rwa [add_block] at this | exact this) GW407.out))) _).trans (((cell_far (p := ⟨gb407, _, none⟩) (by first | exact Nat.ne_of_lt (Nat.lt_of_lt_of_le (by have := World.block_lt_of_cell? _ _ hw406_1; first | rwa [add_block] at this | exact this) GW407.out) | (rw [add_block]; exact Nat.ne_of_lt (Nat.lt_of_lt_of_le (by have := World.block_lt_of_cell? _ _ hw406_1; first | rwa [add_block] at this | exact this) GW407.out)) | (show (Addr.add _ _).block ≠ _; rw [add_block]; exact Nat.ne_of_lt (Nat.lt_of_lt_of_le (by have := World.block_lt_of_cell? _ _ hw406_1; first | rwa [add_block] at this | exact this) GW407.out)) | (dsimp only; exact Nat.ne_of_lt (Nat.lt_of_lt_of_le (by have := World.block_lt_of_cell? _ _ hw406_1; first | rwa [add_block] at this | exact this) GW407.out))) _).trans (hHeld.2.2.2))))⟩ (fun hHeld => ?_)
 clear hK K
 refine one_ (i := 9) (N := none) (fA 10 1023) rfl rfl (one_of HT_.out (by kernel_rfl)) (by decide) (fun K hK => ?_)
 have hs11 : w8.cell? ⟨gb408, 0, none⟩ = some (.int .i64 0) := (blk_cell BK408.out 0).trans rfl
 have hfs11 := blk_frozen BK408.out 0
 have hns11_0 := NB403_408.out
 have hns11_1 := NB404_408.out
 have hns11_2 := NB407_408.out
 have hms11_0 := NB408_403.out
 have hms11_1 := NB408_404.out
 have hms11_2 := NB408_407.out
 have hs12 : w8.cell? ⟨gb408, 1, none⟩ = some (.int .i64 0) := (blk_cell BK408.out 1).trans rfl
 have hfs12 := blk_frozen BK408.out 1
 have hns12_0 := NB403_408.out
 have hns12_1 := NB404_408.out
 have hns12_2 := NB407_408.out
 have hms12_0 := NB408_403.out
 have hms12_1 := NB408_404.out
 have hms12_2 := NB408_407.out
 refine skip_ (w1 := ?_) (by rfl) rfl ?_ ?_
 rotate_left
 · go_simp
   rfl
 refine hK.out _ _ ⟨((cell_far (p := ⟨gb408, _, none⟩) (by first | exact Nat.ne_of_lt (Nat.lt_of_lt_of_le (by have := World.block_lt_of_cell? _ _ hw405_0; first | rwa [add_block] at this | exact this) GW408.out) | (rw [add_block]; exact Nat.ne_of_lt (Nat.lt_of_lt_of_le (by have := World.block_lt_of_cell? _ _ hw405_0; first | rwa [add_block] at this | exact this) GW408.out)) | (show (Addr.add _ _).block ≠ _; rw [add_block]; exact Nat.ne_of_lt (Nat.lt_of_lt_of_le (by have := World.block_lt_of_cell? _ _ hw405_0; first | rwa [add_block] at this | exact this) GW408.out)) | (dsimp only; exact Nat.ne_of_lt (Nat.lt_of_lt_of_le (by have := World.block_lt_of_cell? _ _ hw405_0; first | rwa [add_block] at this | exact this) GW408.out))) _).trans (((cell_far (p := ⟨gb408, _, none⟩) (by first | exact Nat.ne_of_lt (Nat.lt_of_lt_of_le (by have := World.block_lt_of_cell? _ _ hw405_0; first | rwa [add_block] at this | exact this) GW408.out) | (rw [add_block]; exact Nat.ne_of_lt (Nat.lt_of_lt_of_le (by have := World.block_lt_of_cell? _ _ hw405_0; first | rwa [add_block] at this | exact this) GW408.out)) | (show (Addr.add _ _).block ≠ _; rw [add_block]; exact Nat.ne_of_lt (Nat.lt_of_lt_of_le (by have := World.block_lt_of_cell? _ _ hw405_0; first | rwa [add_block] at this | exact this) GW408.out)) | (dsimp only; exact Nat.ne_of_lt (Nat.lt_of_lt_of_le (by have := World.block_lt_of_cell? _ _ hw405_0; first | rwa [add_block] at this | exact this) GW408.out))) _).trans (hHeld.1)))), ((cell_far (p := ⟨gb408, _, none⟩) (by first | exact Nat.ne_of_lt (Nat.lt_of_lt_of_le (by have := World.block_lt_of_cell? _ _ hw405_1; first | rwa [add_block] at this | exact this) GW408.out) | (rw [add_block]; exact Nat.ne_of_lt (Nat.lt_of_lt_of_le (by have := World.block_lt_of_cell? _ _ hw405_1; first | rwa [add_block] at this | exact this) GW408.out)) | (show (Addr.add _ _).block ≠ _; rw [add_block]; exact Nat.ne_of_lt (Nat.lt_of_lt_of_le (by have := World.block_lt_of_cell? _ _ hw405_1; first | rwa [add_block] at this | exact this) GW408.out)) | (dsimp only; exact Nat.ne_of_lt (Nat.lt_of_lt_of_le (by have := World.block_lt_of_cell? _ _ hw405_1; first | rwa [add_block] at this | exact this) GW408.out))) _).trans (((cell_far (p := ⟨gb408, _, none⟩) (by first | exact Nat.ne_of_lt (Nat.lt_of_lt_of_le (by have := World.block_lt_of_cell? _ _ hw405_1; first | rwa [add_block] at this | exact this) GW408.out) | (rw [add_block]; exact Nat.ne_of_lt (Nat.lt_of_lt_of_le (by have := World.block_lt_of_cell? _ _ hw405_1; first | rwa [add_block] at this | exact this) GW408.out)) | (show (Addr.add _ _).block ≠ _; rw [add_block]; exact Nat.ne_of_lt (Nat.lt_of_lt_of_le (by have := World.block_lt_of_cell? _ _ hw405_1; first | rwa [add_block] at this | exact this) GW408.out)) | (dsimp only; exact Nat.ne_of_lt (Nat.lt_of_lt_of_le (by have := World.block_lt_of_cell? _ _ hw405_1; first | rwa [add_block] at this | exact this) GW408.out))) _).trans (hHeld.2.1)))), ((cell_far (p := ⟨gb408, _, none⟩) (by first | exact Nat.ne_of_lt (Nat.lt_of_lt_of_le (by have := World.block_lt_of_cell? _ _ hw406_0; first | rwa [add_block] at this | exact this) GW408.out) | (rw [add_block]; exact Nat.ne_of_lt (Nat.lt_of_lt_of_le (by have := World.block_lt_of_cell? _ _ hw406_0; first | rwa [add_block] at this | exact this) GW408.out)) | (show (Addr.add _ _).block ≠ _; rw [add_block]; exact Nat.ne_of_lt (Nat.lt_of_lt_of_le (by have := World.block_lt_of_cell? _ _ hw406_0; first | rwa [add_block] at this | exact this) GW408.out)) | (dsimp only; exact Nat.ne_of_lt (Nat.lt_of_lt_of_le (by have := World.block_lt_of_cell? _ _ hw406_0; first | rwa [add_block] at this | exact this) GW408.out))) _).trans (((cell_far (p := ⟨gb408, _, none⟩) (by first | exact Nat.ne_of_lt (Nat.lt_of_lt_of_le (by have := World.block_lt_of_cell? _ _ hw406_0; first | rwa [add_block] at this | exact this) GW408.out) | (rw [add_block]; exact Nat.ne_of_lt (Nat.lt_of_lt_of_le (by have := World.block_lt_of_cell? _ _ hw406_0; first | rwa [add_block] at this | exact this) GW408.out)) | (show (Addr.add _ _).block ≠ _; rw [add_block]; exact Nat.ne_of_lt (Nat.lt_of_lt_of_le (by have := World.block_lt_of_cell? _ _ hw406_0; first | rwa [add_block] at this | exact this) GW408.out)) | (dsimp only; exact Nat.ne_of_lt (Nat.lt_of_lt_of_le (by have := World.block_lt_of_cell? _ _ hw406_0; first | rwa [add_block] at this | exact this) GW408.out))) _).trans (hHeld.2.2.1)))), ((cell_far (p := ⟨gb408, _, none⟩) (by first | exact Nat.ne_of_lt (Nat.lt_of_lt_of_le (by have := World.block_lt_of_cell? _ _ hw406_1; first | rwa [add_block] at this | exact this) GW408.out) | (rw [add_block]; exact Nat.ne_of_lt (Nat.lt_of_lt_of_le (by have := World.block_lt_of_cell? _ _ hw406_1; first | rwa [add_block] at this | exact this) GW408.out)) | (show (Addr.add _ _).block ≠ _; rw [add_block]; exact Nat.ne_of_lt (Nat.lt_of_lt_of_le (by have := World.block_lt_of_cell? _ _ hw406_1; first | rwa [add_block] at this | exact this) GW408.out)) | (dsimp only; exact Nat.ne_of_lt (Nat.lt_of_lt_of_le (by have := World.block_lt_of_cell? _ _ hw406_1; first | rwa [add_block] at this | exact this) GW408.out))) _).trans (((cell_far (p := ⟨gb408, _, none⟩) (by first | exact Nat.ne_of_lt (Nat.lt_of_lt_of_le (by have := World.block_lt_of_cell? _ _ hw406_1; first | rwa [add_block] at this | exact this) GW408.out) | (rw [add_block]; exact Nat.ne_of_lt (Nat.lt_of_lt_of_le (by have := World.block_lt_of_cell? _ _ hw406_1; first | rwa [add_block] at this | exact this) GW408.out)) | (show (Addr.add _ _).block ≠ _; rw [add_block]; exact Nat.ne_of_lt (Nat.lt_of_lt_of_le (by have := World.block_lt_of_cell? _ _ hw406_1; first | rwa [add_block] at this | exact this) GW408.out)) | (dsimp only; exact Nat.ne_of_lt (Nat.lt_of_lt_of_le (by have := World.block_lt_of_cell? _ _ hw406_1; first | rwa [add_block] at this | exact this) GW408.out))) _).trans (hHeld.2.2.2))))⟩ (fun hHeld => ?_)
 clear hK K
 refine dn_ ?_
 try go_wp2
 go_loopg [16] k (fun kq v16 w' => ∃ (x16_1 : Int) (x408000_1 : Int) (x408001_1 : Int) (x409000_1 : Int) (x409001_1 : Int), v16 = .int .i64 x16_1 ∧ Aside0 (impl_bounds.l0 kq l0 (l0.length : Int) x16_1 x408000_1 x408001_1 x409000_1 x409001_1 = some (r1, r2, r3, r4)) ∧ Aside0 (kq ≤ k) ∧ Aside0 (w'.heap[gb403]? = some (.cells #[.int .i64 0, .int .i64 0] 105 (0, 0))) ∧ Aside0 (w'.heap[gb404]? = some (.cells #[.int .i64 0, .int .i64 0] 105 (0, 0))) ∧ Aside0 (w'.heap[gb407]? = some (.cells #[.int .i64 x408000_1, .int .i64 x408001_1] 105 (0, 0))) ∧ Aside0 (w'.heap[gb408]? = some (.cells #[.int .i64 x409000_1, .int .i64 x409001_1] 105 (0, 0))) ∧ Aside0 (Below w.heap.size w w'))
 case atStart => exact ⟨(0), ((rd_T105 l0 0).f0), ((rd_T105 l0 0).f1), ((rd_T105 l0 0).f0), ((rd_T105 l0 0).f1), rf_, H', ⟨Nat.le_refl _⟩, ⟨by refine bl_ ?_; refine blk_far ?_ NB403_408.out _; refine bl_ ?_; refine blk_far ?_ NB403_408.out _; refine bl_ ?_; refine blk_far ?_ NB403_407.out _; refine bl_ ?_; refine blk_far ?_ NB403_407.out _; refine bl_ ?_; exact BK403.out⟩, ⟨by refine bl_ ?_; refine blk_far ?_ NB404_408.out _; refine bl_ ?_; refine blk_far ?_ NB404_408.out _; refine bl_ ?_; refine blk_far ?_ NB404_407.out _; refine bl_ ?_; refine blk_far ?_ NB404_407.out _; refine bl_ ?_; exact BK404.out⟩, ⟨by refine bl_ ?_; refine blk_far ?_ NB407_408.out _; refine bl_ ?_; refine blk_far ?_ NB407_408.out _; refine bl_ ?_; refine blk_put (cs := #[.int .i64 ((rd_T105 l0 0).f0), .int .i64 0]) ?_ 1 _ rfl; refine bl_ ?_; refine blk_put (cs := #[.int .i64 0, .int .i64 0]) ?_ 0 _ rfl; refine bl_ ?_; exact BK407.out⟩, ⟨by refine bl_ ?_; refine blk_put (cs := #[.int .i64 ((rd_T105 l0 0).f0), .int .i64 0]) ?_ 1 _ rfl; refine bl_ ?_; refine blk_put (cs := #[.int .i64 0, .int .i64 0]) ?_ 0 _ rfl; refine bl_ ?_; refine blk_far ?_ NB408_407.out _; refine bl_ ?_; refine blk_far ?_ NB408_407.out _; refine bl_ ?_; exact BK408.out⟩, ⟨bs4_ HB.out GE403.out GE404.out GE407.out GE408.out⟩⟩
 case round =>
  clear H'
  try clear c2 c2b0 c2b1
  try clear hx405_0 hx405_1 hx406_0 hx406_1
  try clear p405 p406
  try clear q405 q406
  obtain ⟨x16_1, x408000_1, x408001_1, x409000_1, x409001_1, rfl, HA, HK1, BK403, BK404, BK407, BK408, HB⟩ := hrel
  cases gk with
  | zero => exact absurd HA.out (by simp [impl_bounds.l0])
  | succ k1 =>
   have H := HA.out
   clear HA
   simp only [impl_bounds.l0] at H
   by_cases c13 : x16_1 < (l0.length : Int)
   · rw [if_pos c13] at H
     have c13b0 := decide_eq_true c13
     clear c13
     revert H
     refine ng_ fun c14 => ng_ fun c15 => ?_
     intro H
     have c14b0 := decide_eq_true c14
     clear c14
     have c15b0 := decide_eq_true c15
     clear c15
     obtain ⟨ji16, hji16⟩ : ∃ j_ : Int, (mn x408000_1 ((rd_T105 l0 x16_1).f0)) = j_ := ⟨_, rfl⟩
     replace H : (impl_bounds.l0 k1 l0 (l0.length : Int) (wrap64 (x16_1 + 1)) ji16 (mn x408001_1 ((rd_T105 l0 x16_1).f1)) (mx x409000_1 ((rd_T105 l0 x16_1).f0)) (mx x409001_1 ((rd_T105 l0 x16_1).f1))) = some (r1, r2, r3, r4) := by first | (rw [hji16] at H; exact H) | (simp only [hji16] at H ⊢; exact H)
     have hji16_ : (if ((rd_T105 l0 x16_1).f0) < x408000_1 then ((rd_T105 l0 x16_1).f0) else x408000_1) = ji16 := hji16
     obtain ⟨ji17, hji17⟩ : ∃ j_ : Int, (mn x408001_1 ((rd_T105 l0 x16_1).f1)) = j_ := ⟨_, rfl⟩
     replace H : (impl_bounds.l0 k1 l0 (l0.length : Int) (wrap64 (x16_1 + 1)) ji16 ji17 (mx x409000_1 ((rd_T105 l0 x16_1).f0)) (mx x409001_1 ((rd_T105 l0 x16_1).f1))) = some (r1, r2, r3, r4) := by first | (rw [hji17] at H; exact H) | (simp only [hji17] at H ⊢; exact H)
     have hji17_ : (if ((rd_T105 l0 x16_1).f1) < x408001_1 then ((rd_T105 l0 x16_1).f1) else x408001_1) = ji17 := hji17
     obtain ⟨ji18, hji18⟩ : ∃ j_ : Int, (mx x409000_1 ((rd_T105 l0 x16_1).f0)) = j_ := ⟨_, rfl⟩
     replace H : (impl_bounds.l0 k1 l0 (l0.length : Int) (wrap64 (x16_1 + 1)) ji16 ji17 ji18 (mx x409001_1 ((rd_T105 l0 x16_1).f1))) = some (r1, r2, r3, r4) := by first | (rw [hji18] at H; exact H) | (simp only [hji18] at H ⊢; exact H)
     have hji18_ : (if x409000_1 < ((rd_T105 l0 x16_1).f0) then ((rd_T105 l0 x16_1).f0) else x409000_1) = ji18 := hji18
     obtain ⟨ji19, hji19⟩ : ∃ j_ : Int, (mx x409001_1 ((rd_T105 l0 x16_1).f1)) = j_ := ⟨_, rfl⟩
     replace H : (impl_bounds.l0 k1 l0 (l0.length : Int) (wrap64 (x16_1 + 1)) ji16 ji17 ji18 ji19) = some (r1, r2, r3, r4) := by first | (rw [hji19] at H; exact H) | (simp only [hji19] at H ⊢; exact H)
     have hji19_ : (if x409001_1 < ((rd_T105 l0 x16_1).f1) then ((rd_T105 l0 x16_1).f1) else x409001_1) = ji19 := hji19
     have H' := mkA H
     clear H
     obtain ⟨ad409, e409, hx409_0, hx409_1⟩ := at_T105 HR0.out x16_1 dt_ dt_
     obtain rfl : ad405 = ad409 := (by injection e409)
     obtain ⟨hx409_0, hx409_1⟩ := b2_ HB.out hx409_0 hx409_1
     have p409 : (0 ≤ (x16_1 : Int)) = True := eq_true dt_
     have q409 : (x16_1 < (l0.length : Int)) = True := eq_true dt_
     go_wp2_with (first | ((with_reducible refine gt_ 7 ?_); refine bx_ 7 #[.int .i64 0, .int .i64 0] 105 fun gb410 hg w20 hbox hb => ?_; have BK410 := mkA (hbox); have GW410 := gs_ hg (bs4_ HB.out GE403.out GE404.out GE407.out GE408.out); have GE410 := GW410; replace HB := mkA (below_step (bs4_ HB.out GE403.out GE404.out GE407.out GE408.out) hb); have NB403_410 := nl_ hg (bl_ BK403.out); have NB410_403 := nr_ hg (bl_ BK403.out); replace BK403 := mkA (blk_below (bl_ BK403.out) hb); have NB404_410 := nl_ hg (bl_ BK404.out); have NB410_404 := nr_ hg (bl_ BK404.out); replace BK404 := mkA (blk_below (bl_ BK404.out) hb); have NB407_410 := nl_ hg (bl_ BK407.out); have NB410_407 := nr_ hg (bl_ BK407.out); replace BK407 := mkA (blk_below (bl_ BK407.out) hb); have NB408_410 := nl_ hg (bl_ BK408.out); have NB410_408 := nr_ hg (bl_ BK408.out); replace BK408 := mkA (blk_below (bl_ BK408.out) hb); clear hb hbox hg; have hnb21 := NB410_403.out; have hnc21 := NB403_410.out; have hnb22 := NB410_404.out; have hnc22 := NB404_410.out; have hnb23 := NB410_407.out; have hnc23 := NB407_410.out; have hnb24 := NB410_408.out; have hnc24 := NB408_410.out; obtain ⟨hcz25_0, hcz25_1, hfz25_0, hfz25_1⟩ := z2_ BK410.out; have hnb26 := NB407_403.out; have hnc26 := NB403_407.out; have hnb27 := NB407_404.out; have hnc27 := NB404_407.out; have hnb28 := NB407_408.out; have hnc28 := NB408_407.out; obtain ⟨hcz29_0, hcz29_1, hfz29_0, hfz29_1⟩ := z2_ BK407.out; have hnb30 := NB408_403.out; have hnc30 := NB403_408.out; have hnb31 := NB408_404.out; have hnc31 := NB404_408.out; obtain ⟨hcz32_0, hcz32_1, hfz32_0, hfz32_1⟩ := z2_ BK408.out))
     go_roundg k1
     case measure => have := HK1.out; omega
     case rel => exact ⟨(wrap64 (x16_1 + 1)), (ji16), (ji17), (ji18), (ji19), rf_, H', ⟨om_ HK1.out⟩, ⟨by refine bl_ ?_; refine blk_far ?_ NB403_408.out _; refine bl_ ?_; refine blk_far ?_ NB403_408.out _; refine bl_ ?_; refine blk_far ?_ NB403_407.out _; refine bl_ ?_; refine blk_far ?_ NB403_407.out _; refine bl_ ?_; refine blk_far ?_ NB403_410.out _; refine bl_ ?_; refine blk_far ?_ NB403_410.out _; refine bl_ ?_; exact BK403.out⟩, ⟨by refine bl_ ?_; refine blk_far ?_ NB404_408.out _; refine bl_ ?_; refine blk_far ?_ NB404_408.out _; refine bl_ ?_; refine blk_far ?_ NB404_407.out _; refine bl_ ?_; refine blk_far ?_ NB404_407.out _; refine bl_ ?_; refine blk_far ?_ NB404_410.out _; refine bl_ ?_; refine blk_far ?_ NB404_410.out _; refine bl_ ?_; exact BK404.out⟩, ⟨by refine bl_ ?_; refine blk_far ?_ NB407_408.out _; refine bl_ ?_; refine blk_far ?_ NB407_408.out _; refine bl_ ?_; refine blk_put (cs := #[.int .i64 ji16, .int .i64 x408001_1]) ?_ 1 _ rfl; refine bl_ ?_; refine blk_put (cs := #[.int .i64 x408000_1, .int .i64 x408001_1]) ?_ 0 _ rfl; refine bl_ ?_; refine blk_far ?_ NB407_410.out _; refine bl_ ?_; refine blk_far ?_ NB407_410.out _; refine bl_ ?_; exact BK407.out⟩, ⟨by refine bl_ ?_; refine blk_put (cs := #[.int .i64 ji18, .int .i64 x409001_1]) ?_ 1 _ rfl; refine bl_ ?_; refine blk_put (cs := #[.int .i64 x409000_1, .int .i64 x409001_1]) ?_ 0 _ rfl; refine bl_ ?_; refine blk_far ?_ NB408_407.out _; refine bl_ ?_; refine blk_far ?_ NB408_407.out _; refine bl_ ?_; refine blk_far ?_ NB408_410.out _; refine bl_ ?_; refine blk_far ?_ NB408_410.out _; refine bl_ ?_; exact BK408.out⟩, ⟨bs5_ HB.out GE403.out GE404.out GE407.out GE408.out GE410.out⟩⟩
   · rw [if_neg c13] at H
     have c13b0 := decide_eq_false c13
     clear c13
     simp only [Option.some.injEq, Prod.mk.injEq] at H
     obtain ⟨rfl, rfl, rfl, rfl⟩ := H
     try go_wp2
     replace BK403 := mkA (blk_drew BK403.out)
     replace BK404 := mkA (blk_drew BK404.out)
     replace BK407 := mkA (blk_drew BK407.out)
     replace BK408 := mkA (blk_drew BK408.out)
     replace HB := mkA (below_drew1 HB.out)
     refine start_ (n := 4) (S := fun w' => w'.cell? ⟨gb407, 0, none⟩ = some (.int .i64 x408000_1) ∧ w'.cell? ⟨gb407, 1, none⟩ = some (.int .i64 x408001_1) ∧ w'.cell? ⟨gb408, 0, none⟩ = some (.int .i64 x409000_1) ∧ w'.cell? ⟨gb408, 1, none⟩ = some (.int .i64 x409001_1)) (ds := []) (fA 4 0) (by kernel_rfl) rfl rfl ⟨(blk_cell BK407.out 0).trans rfl, (blk_cell BK407.out 1).trans rfl, (blk_cell BK408.out 0).trans rfl, (blk_cell BK408.out 1).trans rfl⟩ (fun hHeld => ?_)
     generalize wr.drew = w33 at BK403 BK404 BK407 BK408 HB hHeld ⊢
     refine take_ (i := 0) (N := some 43) (v := ?_) (a' := ?_) (fA 4 1) rfl rfl (by kernel_rfl) (fun _ _ _ h => h) (Or.inl ⟨by rfl, ?_⟩) hHeld ?_ ?_
     rotate_left
     · rintro w' ⟨s0, s1, s2, s3⟩
       (try simp only [C_] at s0 s1 s2 s3)
       go_simp
       with_reducible rfl
     rotate_left
     · simp only [Act.put, sA, sB, sC, i64_w, i32_w]
       rfl
     refine take_ (i := 1) (N := some 44) (v := ?_) (a' := ?_) (fA 4 3) rfl rfl (by kernel_rfl) (fun _ _ _ h => h) (Or.inl ⟨by rfl, ?_⟩) hHeld ?_ ?_
     rotate_left
     · rintro w' ⟨s0, s1, s2, s3⟩
       (try simp only [C_] at s0 s1 s2 s3)
       go_simp
       with_reducible rfl
     rotate_left
     · simp only [Act.put, sA, sB, sC, i64_w, i32_w]
       rfl
     refine one_ (i := 2) (N := none) (fA 4 7) rfl rfl (by kernel_rfl) (by decide) (fun K hK => ?_)
     have hs34 : w33.cell? ⟨gb403, 0, none⟩ = some (.int .i64 0) := (blk_cell BK403.out 0).trans rfl
     have hfs34 := blk_frozen BK403.out 0
     have hns34_1 := NB404_403.out
     have hns34_2 := NB407_403.out
     have hns34_3 := NB408_403.out
     have hms34_1 := NB403_404.out
     have hms34_2 := NB403_407.out
     have hms34_3 := NB403_408.out
     have hs35 : w33.cell? ⟨gb403, 1, none⟩ = some (.int .i64 0) := (blk_cell BK403.out 1).trans rfl
     have hfs35 := blk_frozen BK403.out 1
     have hns35_1 := NB404_403.out
     have hns35_2 := NB407_403.out
     have hns35_3 := NB408_403.out
     have hms35_1 := NB403_404.out
     have hms35_2 := NB403_407.out
     have hms35_3 := NB403_408.out
     refine skip_ (w1 := ?_) (by rfl) rfl ?_ ?_
     rotate_left
     · go_simp
       rfl
     refine hK.out _ _ ⟨((cell_far (p := ⟨gb403, _, none⟩) NB407_403.out _).trans (((cell_far (p := ⟨gb403, _, none⟩) NB407_403.out _).trans (hHeld.1)))), ((cell_far (p := ⟨gb403, _, none⟩) NB407_403.out _).trans (((cell_far (p := ⟨gb403, _, none⟩) NB407_403.out _).trans (hHeld.2.1)))), ((cell_far (p := ⟨gb403, _, none⟩) NB408_403.out _).trans (((cell_far (p := ⟨gb403, _, none⟩) NB408_403.out _).trans (hHeld.2.2.1)))), ((cell_far (p := ⟨gb403, _, none⟩) NB408_403.out _).trans (((cell_far (p := ⟨gb403, _, none⟩) NB408_403.out _).trans (hHeld.2.2.2))))⟩ (fun hHeld => ?_)
     clear hK K
     refine one_ (i := 3) (N := none) (fA 4 15) rfl rfl (by kernel_rfl) (by decide) (fun K hK => ?_)
     have hs36 : w33.cell? ⟨gb404, 0, none⟩ = some (.int .i64 0) := (blk_cell BK404.out 0).trans rfl
     have hfs36 := blk_frozen BK404.out 0
     have hns36_0 := NB403_404.out
     have hns36_2 := NB407_404.out
     have hns36_3 := NB408_404.out
     have hms36_0 := NB404_403.out
     have hms36_2 := NB404_407.out
     have hms36_3 := NB404_408.out
     have hs37 : w33.cell? ⟨gb404, 1, none⟩ = some (.int .i64 0) := (blk_cell BK404.out 1).trans rfl
     have hfs37 := blk_frozen BK404.out 1
     have hns37_0 := NB403_404.out
     have hns37_2 := NB407_404.out
     have hns37_3 := NB408_404.out
     have hms37_0 := NB404_403.out
     have hms37_2 := NB404_407.out
     have hms37_3 := NB404_408.out
     refine skip_ (w1 := ?_) (by rfl) rfl ?_ ?_
     rotate_left
     · go_simp
       rfl
     refine hK.out _ _ ⟨((cell_far (p := ⟨gb404, _, none⟩) NB407_404.out _).trans (((cell_far (p := ⟨gb404, _, none⟩) NB407_404.out _).trans (hHeld.1)))), ((cell_far (p := ⟨gb404, _, none⟩) NB407_404.out _).trans (((cell_far (p := ⟨gb404, _, none⟩) NB407_404.out _).trans (hHeld.2.1)))), ((cell_far (p := ⟨gb404, _, none⟩) NB408_404.out _).trans (((cell_far (p := ⟨gb404, _, none⟩) NB408_404.out _).trans (hHeld.2.2.1)))), ((cell_far (p := ⟨gb404, _, none⟩) NB408_404.out _).trans (((cell_far (p := ⟨gb404, _, none⟩) NB408_404.out _).trans (hHeld.2.2.2))))⟩ (fun hHeld => ?_)
     clear hK K
     refine done_ (by kernel_rfl) ?_
     try go_wp2
     refine bodyPost_ret (results_cc rfl _ _ gb403 gb404 105 105 #[.int .i64 x408000_1, .int .i64 x408001_1] #[.int .i64 x409000_1, .int .i64 x409001_1] (0, 0) (0, 0) _ _ rfl (by refine bl_ ?_; refine blk_far ?_ NB403_404.out _; refine bl_ ?_; refine blk_far ?_ NB403_404.out _; refine bl_ ?_; refine blk_put (cs := #[.int .i64 x408000_1, .int .i64 0]) ?_ 1 _ rfl; refine bl_ ?_; refine blk_put (cs := #[.int .i64 0, .int .i64 0]) ?_ 0 _ rfl; refine bl_ ?_; exact BK403.out) Try.underlying105 rfl (by kernel_rfl) rfl (by refine bl_ ?_; refine blk_put (cs := #[.int .i64 x409000_1, .int .i64 0]) ?_ 1 _ rfl; refine bl_ ?_; refine blk_put (cs := #[.int .i64 0, .int .i64 0]) ?_ 0 _ rfl; refine bl_ ?_; refine blk_far ?_ NB404_403.out _; refine bl_ ?_; refine blk_far ?_ NB404_403.out _; refine bl_ ?_; exact BK404.out) Try.underlying105 rfl (by kernel_rfl)) rfl ?_
     exact ⟨re_, bs4_ HB.out GE403.out GE404.out GE407.out GE408.out⟩
end Go.Proofs.Ytakagkflgkoiiaa.GFnExactIsCover

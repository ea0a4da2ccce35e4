-- Written by the session's own program (gen.py) out of the translation's print. Lean checks it.
import Derived.Test.YtakagkflgkoiiaaQ
import Derived.Test.YtakagkflgkoiiaaGFnExactFirstUncoveredx0
namespace Go.Proofs.Ytakagkflgkoiiaa.GFnExactFirstUncovered
open Go.RowKit Go.Proofs.YtakagkflgkoiiaaW.PrintWords Go.Proofs.YtakagkflgkoiiaaW.PrintLast Go.Proofs.YtakagkflgkoiiaaW.PrintMore
open List renaming setIfInBounds_toArray → sA, set_cons_zero → sB, set_cons_succ → sC
open Go.Proofs.YtakagkflgkoiiaaW.PrintWords.Aside0 renaming mk → mkA
open Go.Proofs.YtakagkflgkoiiaaX (dt_ bc_ p0_ p1_ bl_ cb_ bs0_ bs1_ bs2_ bs3_ bs4_ bs5_ bs6_ bs7_ bs8_ bs9_ bs10_ bs11_ bs12_)
open Go.Proofs.YtakagkflgkoiiaaQ
attribute [local go_sem] max2_int min2_int max_two min_two max_three min_three max_four min_four 
set_option linter.unusedVariables false
set_option linter.unusedSimpArgs false

/-! ### impl_bounds: function 90 -/
def impl_bounds.l0 : Nat → List (S105) → Int → Int → Int → Int → Int → Int → Option (Int × Int × Int × Int)
  | 0, _, _, _, _, _, _, _ => none
  | k + 1, x14, x15, x16, x403000, x403001, x404000, x404001 => if x16 < x15 then (if 0 ≤ x16 then (if x16 < (x14.length : Int) then (impl_bounds.l0 k x14 x15 (wrap64 (x16 + 1)) (mn x403000 ((rd_T105 x14 x16).f0)) (mn x403001 ((rd_T105 x14 x16).f1)) (mx x404000 ((rd_T105 x14 x16).f0)) (mx x404001 ((rd_T105 x14 x16).f1))) else (none)) else (none)) else (some (x403000, x403001, x404000, x404001))
def impl_bounds.f (k : Nat) (l0 : List (S105)) : Option (Int × Int × Int × Int) := if 0 < (l0.length : Int) then (impl_bounds.l0 k l0 (l0.length : Int) 0 ((rd_T105 l0 0).f0) ((rd_T105 l0 0).f1) ((rd_T105 l0 0).f0) ((rd_T105 l0 0).f1)) else (none)
def impl_bounds.T1 : Bool × List (List Nat × List Nat) := (true, [([], []), ([0], [0]), ([1], [1]), ([], []), ([3], [3]), ([4], [4]), ([], []), ([], []), ([6, 2, 0, 1, 2, 6, 7], [2, 6]), ([7, 5, 8, 0, 1, 2, 3, 4, 5, 6, 7, 8], [5, 7])])
def impl_bounds.B1 : List Nat := [0, 1, 3, 0, 8, 24, 0, 0, 199, 511]
theorem impl_bounds.tab1 : rtab .any (opsOf Try.f90 1) = impl_bounds.T1 := by kernel_rfl
theorem impl_bounds.bits1 : waitsOk impl_bounds.T1.2 impl_bounds.B1 = true := by kernel_rfl
set_option maxHeartbeats 8000000 in
set_option maxRecDepth 100000 in
theorem impl_bounds.calls (k : Nat) (A0 : Option Addr) (c0 : Nat) (l0 : List (S105)) (r1 : Int) (r2 : Int) (r3 : Int) (r4 : Int) (w : World) (hr0 : Kd.C k105 w A0 l0.length l0) (hc0 : l0.length ≤ c0) (h : impl_bounds.f k l0 = some (r1, r2, r3, r4)) :
 Calls Try.prog 90 #[.slice A0 l0.length c0] w fun e w' => e = .returned (.tuple #[.agg #[.int .i64 r1, .int .i64 r2], .agg #[.int .i64 r3, .int .i64 r4]]) ∧ Below w.heap.size w w' := by
 have hu105 := Try.underlying105
 have HR0 := mkA hr0
 have HC0 := mkA hc0
 clear hr0 hc0
 have HB := mkA (Below.refl w.heap.size w)
 unfold impl_bounds.f at h
 have H := h
 clear h
 revert H
 refine ng_ fun c2 => ?_
 intro H
 have c2b0 := decide_eq_true c2
 have c2b1 : decide (0 < l0.length) = true := decide_eq_true (by omega)
 clear c2
 have H' := mkA H
 clear H
 go_enter Try.func90, Try.ntmps90
 try go_wp2_with (first | ((with_reducible refine gt_ 2 ?_); refine bx_ 2 #[.int .i64 0, .int .i64 0] 105 fun gb398 hg w3 hbox hb => ?_; have BK398 := mkA (hbox); have GW398 := gs_ hg (bs0_ HB.out); have GE398 := GW398; replace HB := mkA (below_step (bs0_ HB.out) hb); clear hb hbox hg) | ((with_reducible refine gt_ 3 ?_); refine bx_ 3 #[.int .i64 0, .int .i64 0] 105 fun gb399 hg w4 hbox hb => ?_; have BK399 := mkA (hbox); have GW399 := gs_ hg (bs1_ HB.out GE398.out); have GE399 := GW399; replace HB := mkA (below_step (bs1_ HB.out GE398.out) hb); have NB398_399 := nl_ hg (bl_ BK398.out); have NB399_398 := nr_ hg (bl_ BK398.out); replace BK398 := mkA (blk_below (bl_ BK398.out) hb); clear hb hbox hg))
 replace BK398 := mkA (blk_drew BK398.out)
 replace BK399 := mkA (blk_drew BK399.out)
 replace HB := mkA (below_drew1 HB.out)
 obtain ⟨ad400, e400, hx400_0, hx400_1⟩ := at_T105 HR0.out 0 (by omega) dt_
 have hw400_1 := hx400_1
 (try simp only [show ((0 : Int)).toNat = 0 from rfl, show 0 * 2 = 0 from rfl, Addr.add_zero'] at hw400_1)
 have hw400_0 := hx400_0
 (try simp only [show ((0 : Int)).toNat = 0 from rfl, show 0 * 2 = 0 from rfl, Addr.add_zero'] at hw400_0)
 cases e400
 (try simp only [show ((0 : Int)).toNat = 0 from rfl, show 0 * 2 = 0 from rfl, Addr.add_zero'] at hx400_0 hx400_1)
 replace hx400_0 := bc_ HB.out hx400_0
 replace hx400_1 := bc_ HB.out hx400_1
 have p400 : (0 ≤ (0 : Int)) = True := eq_true (by omega)
 have q400 : (0 < (l0.length : Int)) = True := eq_true dt_
 have qi400 := qn_ q400
 obtain ⟨ad401, e401, hx401_0, hx401_1⟩ := at_T105 HR0.out 0 (by omega) dt_
 have hw401_1 := hx401_1
 (try simp only [show ((0 : Int)).toNat = 0 from rfl, show 0 * 2 = 0 from rfl, Addr.add_zero'] at hw401_1)
 have hw401_0 := hx401_0
 (try simp only [show ((0 : Int)).toNat = 0 from rfl, show 0 * 2 = 0 from rfl, Addr.add_zero'] at hw401_0)
 obtain rfl : ad400 = ad401 := (by injection e401)
 (try simp only [show ((0 : Int)).toNat = 0 from rfl, show 0 * 2 = 0 from rfl, Addr.add_zero'] at hx401_0 hx401_1)
 replace hx401_0 := bc_ HB.out hx401_0
 replace hx401_1 := bc_ HB.out hx401_1
 have p401 : (0 ≤ (0 : Int)) = True := eq_true (by omega)
 have q401 : (0 < (l0.length : Int)) = True := eq_true dt_
 have qi401 := qn_ q401
 refine st_ 10 (fun w' => C_ hw400_0 w' ∧ C_ hw400_1 w' ∧ C_ hw401_0 w' ∧ C_ hw401_1 w') [] impl_bounds.tab1 impl_bounds.bits1 sp_ fun hHeld HT_ HW_ => ?_
 generalize w4.drew = w5 at BK398 BK399 HB hx400_0 hx400_1 hx401_0 hx401_1 hHeld ⊢
 refine a1_ 0 8 (h := a1_ 1 9 (h := a1_ 3 11 (h := a1_ 4 12 (h := tk_ 2 10 (h := tk_ 5 13 (h := ?_))))))
 refine join_ (σ := Nat × Nat) 2 (fA 10 255) (fun s_ => [(4, .pointer (some ⟨s_.1, 0, none⟩)), (5, .pointer (some ⟨s_.2, 0, none⟩))]) (fun s_ w' => (w'.cell? ad400 = some (.int .i64 ((rd_T105 l0 0).f0)) ∧ w'.cell? ⟨ad400.block, ad400.off + 1, none⟩ = some (.int .i64 ((rd_T105 l0 0).f1)) ∧ w'.cell? ad400 = some (.int .i64 ((rd_T105 l0 0).f0)) ∧ w'.cell? ⟨ad400.block, ad400.off + 1, none⟩ = some (.int .i64 ((rd_T105 l0 0).f1))) ∧ (w'.heap[gb398]? = some (.cells #[.int .i64 0, .int .i64 0] 105 (0, 0))) ∧ (w'.heap[gb399]? = some (.cells #[.int .i64 0, .int .i64 0] 105 (0, 0))) ∧ (w'.heap[s_.1]? = some (.cells #[.int .i64 0, .int .i64 0] 105 (0, 0))) ∧ (w'.heap[s_.2]? = some (.cells #[.int .i64 0, .int .i64 0] 105 (0, 0))) ∧ (w.heap.size ≤ s_.1) ∧ (w.heap.size ≤ s_.1) ∧ (gb398 ≠ s_.1) ∧ (s_.1 ≠ gb398) ∧ (gb399 ≠ s_.1) ∧ (s_.1 ≠ gb399) ∧ (s_.2 ≠ s_.1) ∧ (s_.1 ≠ s_.2) ∧ (w.heap.size ≤ s_.2) ∧ (w.heap.size ≤ s_.2) ∧ (gb398 ≠ s_.2) ∧ (s_.2 ≠ gb398) ∧ (gb399 ≠ s_.2) ∧ (s_.2 ≠ gb399) ∧ (Below w.heap.size w w')) ?_ ?_
 rotate_left
 · intro hCont
   refine two_ (i := 6) (j := 7) (Ni := some 4) (Nj := some 5) (fA 10 127) (fA 10 191) rfl rfl rfl rfl (two_of HT_.out (by kernel_rfl)) (by decide) (by decide) (fun K hK => ?_) (fun K hK => ?_)
   · skip
     refine box_step ?hg (N := 4) ?hd (cs := #[.int .i64 0, .int .i64 0]) (t := 105) ?hr ?_; (case hd => rfl); (case hg => rfl); (case hr => first | (go_simp; done) | (go_simp; rfl))
     intro gb402 hg w6 hbox hb
     have BK402 := mkA (hbox)
     have GW402 := gs_ hg (bs2_ HB.out GE398.out GE399.out)
     have GE402 := GW402
     replace HB := mkA (below_step (bs2_ HB.out GE398.out GE399.out) hb)
     have NB398_402 := nl_ hg (bl_ BK398.out)
     have NB402_398 := nr_ hg (bl_ BK398.out)
     replace BK398 := mkA (blk_below (bl_ BK398.out) hb)
     have NB399_402 := nl_ hg (bl_ BK399.out)
     have NB402_399 := nr_ hg (bl_ BK399.out)
     replace BK399 := mkA (blk_below (bl_ BK399.out) hb)
     clear hb hbox hg
     refine hK.out _ _ sp_ fun hHeld => ?_
     clear hK K
     refine nm_ 4 ?_
     refine on_ 7 5 fun K hK => ?_
     refine box_step ?hg (N := 5) ?hd (cs := #[.int .i64 0, .int .i64 0]) (t := 105) ?hr ?_; (case hd => rfl); (case hg => rfl); (case hr => first | (go_simp; done) | (go_simp; rfl))
     intro gb403 hg w7 hbox hb
     have BK403 := mkA (hbox)
     have GW403 := gs_ hg (bs3_ HB.out GE398.out GE399.out GE402.out)
     have GE403 := GW403
     replace HB := mkA (below_step (bs3_ HB.out GE398.out GE399.out GE402.out) hb)
     have NB398_403 := nl_ hg (bl_ BK398.out)
     have NB403_398 := nr_ hg (bl_ BK398.out)
     replace BK398 := mkA (blk_below (bl_ BK398.out) hb)
     have NB399_403 := nl_ hg (bl_ BK399.out)
     have NB403_399 := nr_ hg (bl_ BK399.out)
     replace BK399 := mkA (blk_below (bl_ BK399.out) hb)
     have NB402_403 := nl_ hg (bl_ BK402.out)
     have NB403_402 := nr_ hg (bl_ BK402.out)
     replace BK402 := mkA (blk_below (bl_ BK402.out) hb)
     clear hb hbox hg
     refine hK.out _ _ sp_ fun hHeld => ?_
     clear hK K
     refine nm_ 5 ?_
     exact norm_ (by simp only [putAll, Act.put, sA, sB, sC]) (hCont (gb402, gb403) _ ⟨hHeld, (bl_ BK398.out), (bl_ BK399.out), (bl_ BK402.out), (bl_ BK403.out), GW402.out, GE402.out, NB398_402.out, NB402_398.out, NB399_402.out, NB402_399.out, NB403_402.out, NB402_403.out, GW403.out, GE403.out, NB398_403.out, NB403_398.out, NB399_403.out, NB403_399.out, (bs4_ HB.out GE398.out GE399.out GE402.out GE403.out)⟩)
   · skip
     refine box_step ?hg (N := 5) ?hd (cs := #[.int .i64 0, .int .i64 0]) (t := 105) ?hr ?_; (case hd => rfl); (case hg => rfl); (case hr => first | (go_simp; done) | (go_simp; rfl))
     intro gb403 hg w6 hbox hb
     have BK403 := mkA (hbox)
     have GW403 := gs_ hg (bs2_ HB.out GE398.out GE399.out)
     have GE403 := GW403
     replace HB := mkA (below_step (bs2_ HB.out GE398.out GE399.out) hb)
     have NB398_403 := nl_ hg (bl_ BK398.out)
     have NB403_398 := nr_ hg (bl_ BK398.out)
     replace BK398 := mkA (blk_below (bl_ BK398.out) hb)
     have NB399_403 := nl_ hg (bl_ BK399.out)
     have NB403_399 := nr_ hg (bl_ BK399.out)
     replace BK399 := mkA (blk_below (bl_ BK399.out) hb)
     clear hb hbox hg
     refine hK.out _ _ sp_ fun hHeld => ?_
     clear hK K
     refine nm_ 5 ?_
     refine on_ 6 4 fun K hK => ?_
     refine box_step ?hg (N := 4) ?hd (cs := #[.int .i64 0, .int .i64 0]) (t := 105) ?hr ?_; (case hd => rfl); (case hg => rfl); (case hr => first | (go_simp; done) | (go_simp; rfl))
     intro gb402 hg w7 hbox hb
     have BK402 := mkA (hbox)
     have GW402 := gs_ hg (bs3_ HB.out GE398.out GE399.out GE403.out)
     have GE402 := GW402
     replace HB := mkA (below_step (bs3_ HB.out GE398.out GE399.out GE403.out) hb)
     have NB398_402 := nl_ hg (bl_ BK398.out)
     have NB402_398 := nr_ hg (bl_ BK398.out)
     replace BK398 := mkA (blk_below (bl_ BK398.out) hb)
     have NB399_402 := nl_ hg (bl_ BK399.out)
     have NB402_399 := nr_ hg (bl_ BK399.out)
     replace BK399 := mkA (blk_below (bl_ BK399.out) hb)
     have NB403_402 := nl_ hg (bl_ BK403.out)
     have NB402_403 := nr_ hg (bl_ BK403.out)
     replace BK403 := mkA (blk_below (bl_ BK403.out) hb)
     clear hb hbox hg
     refine hK.out _ _ sp_ fun hHeld => ?_
     clear hK K
     refine nm_ 4 ?_
     exact norm_ (by simp only [putAll, Act.put, sA, sB, sC]) (hCont (gb402, gb403) _ ⟨hHeld, (bl_ BK398.out), (bl_ BK399.out), (bl_ BK402.out), (bl_ BK403.out), GW402.out, GE402.out, NB398_402.out, NB402_398.out, NB399_402.out, NB402_399.out, NB403_402.out, NB402_403.out, GW403.out, GE403.out, NB398_403.out, NB403_398.out, NB399_403.out, NB403_399.out, (bs4_ HB.out GE398.out GE399.out GE403.out GE402.out)⟩)
 rintro ⟨gb402, gb403⟩ w8 ⟨hS_, h0_, h1_, h2_, h3_, h4_, h5_, h6_, h7_, h8_, h9_, h10_, h11_, h12_, h13_, h14_, h15_, h16_, h17_, h18_⟩
 replace BK398 : Aside0 (w8.heap[gb398]? = some (.cells #[.int .i64 0, .int .i64 0] 105 (0, 0))) := ⟨h0_⟩
 replace BK399 : Aside0 (w8.heap[gb399]? = some (.cells #[.int .i64 0, .int .i64 0] 105 (0, 0))) := ⟨h1_⟩
 have BK402 : Aside0 (w8.heap[gb402]? = some (.cells #[.int .i64 0, .int .i64 0] 105 (0, 0))) := ⟨h2_⟩
 have BK403 : Aside0 (w8.heap[gb403]? = some (.cells #[.int .i64 0, .int .i64 0] 105 (0, 0))) := ⟨h3_⟩
 have GW402 : Aside0 (w.heap.size ≤ gb402) := ⟨h4_⟩
 have GE402 : Aside0 (w.heap.size ≤ gb402) := ⟨h5_⟩
 have NB398_402 : Aside0 (gb398 ≠ gb402) := ⟨h6_⟩
 have NB402_398 : Aside0 (gb402 ≠ gb398) := ⟨h7_⟩
 have NB399_402 : Aside0 (gb399 ≠ gb402) := ⟨h8_⟩
 have NB402_399 : Aside0 (gb402 ≠ gb399) := ⟨h9_⟩
 have NB403_402 : Aside0 (gb403 ≠ gb402) := ⟨h10_⟩
 have NB402_403 : Aside0 (gb402 ≠ gb403) := ⟨h11_⟩
 have GW403 : Aside0 (w.heap.size ≤ gb403) := ⟨h12_⟩
 have GE403 : Aside0 (w.heap.size ≤ gb403) := ⟨h13_⟩
 have NB398_403 : Aside0 (gb398 ≠ gb403) := ⟨h14_⟩
 have NB403_398 : Aside0 (gb403 ≠ gb398) := ⟨h15_⟩
 have NB399_403 : Aside0 (gb399 ≠ gb403) := ⟨h16_⟩
 have NB403_399 : Aside0 (gb403 ≠ gb399) := ⟨h17_⟩
 replace HB : Aside0 (Below w.heap.size w w8) := ⟨h18_⟩
 clear h0_ h1_ h2_ h3_ h4_ h5_ h6_ h7_ h8_ h9_ h10_ h11_ h12_ h13_ h14_ h15_ h16_ h17_ h18_
 have hHeld : w8.cell? ad400 = some (.int .i64 ((rd_T105 l0 0).f0)) ∧ w8.cell? ⟨ad400.block, ad400.off + 1, none⟩ = some (.int .i64 ((rd_T105 l0 0).f1)) ∧ w8.cell? ad400 = some (.int .i64 ((rd_T105 l0 0).f0)) ∧ w8.cell? ⟨ad400.block, ad400.off + 1, none⟩ = some (.int .i64 ((rd_T105 l0 0).f1)) := hS_
 refine norm_ (a' := ?_) ?_ ?_
 rotate_left
 · simp only [putAll, Act.put, sA, sB, sC]
   rfl
 refine one_ (i := 8) (N := none) (fA 10 511) rfl rfl (one_of HT_.out (by kernel_rfl)) (by decide) (fun K hK => ?_)
 have hs9 : w8.cell? ⟨gb402, 0, none⟩ = some (.int .i64 0) := (blk_cell BK402.out 0).trans rfl
 have hfs9 := blk_frozen BK402.out 0
 have hns9_0 := NB398_402.out
 have hns9_1 := NB399_402.out
 have hns9_3 := NB403_402.out
 have hms9_0 := NB402_398.out
 have hms9_1 := NB402_399.out
 have hms9_3 := NB402_403.out
 have hs10 : w8.cell? ⟨gb402, 1, none⟩ = some (.int .i64 0) := (blk_cell BK402.out 1).trans rfl
 have hfs10 := blk_frozen BK402.out 1
 have hns10_0 := NB398_402.out
 have hns10_1 := NB399_402.out
 have hns10_3 := NB403_402.out
 have hms10_0 := NB402_398.out
 have hms10_1 := NB402_399.out
 have hms10_3 := NB402_403.out
 refine skip_ (w1 := ?_) (by rfl) rfl ?_ ?_
 rotate_left
 · go_simp
   rfl
 refine hK.out _ _ ⟨((cell_far (p := ⟨gb402, _, none⟩) (by first | exact Nat.ne_of_lt (Nat.lt_of_lt_of_le (by have := World.block_lt_of_cell? _ _ hw400_0; first | rwa [add_block] at this | exact this) GW402.out) | (rw [add_block]; exact Nat.ne_of_lt (Nat.lt_of_lt_of_le (by have := World.block_lt_of_cell? _ _ hw400_0; first | rwa [add_block] at this | exact this) GW402.out)) | (show (Addr.add _ _).block ≠ _; rw [add_block]; exact Nat.ne_of_lt (Nat.lt_of_lt_of_le (by have := World.block_lt_of_cell? _ _ hw400_0; first | rwa [add_block] at this | exact this) GW402.out)) | (dsimp only; exact Nat.ne_of_lt (Nat.lt_of_lt_of_le (by have := World.block_lt_of_cell? _ _ hw400_0; first | rwa [add_block] at this | exact this) GW402.out))) _).trans (((cell_far (p := ⟨gb402, _, none⟩) (by first | exact Nat.ne_of_lt (Nat.lt_of_lt_of_le (by have := World.block_lt_of_cell? _ _ hw400_0; first | rwa [add_block] at this | exact this) GW402.out) | (rw [add_block]; exact Nat.ne_of_lt (Nat.lt_of_lt_of_le (by have := World.block_lt_of_cell? _ _ hw400_0; first | rwa [add_block] at this | exact this) GW402.out)) | (show (Addr.add _ _).block ≠ _; rw [add_block]; exact Nat.ne_of_lt (Nat.lt_of_lt_of_le (by have := World.block_lt_of_cell? _ _ hw400_0; first | rwa [add_block] at this | exact this) GW402.out)) | (dsimp only; exact Nat.ne_of_lt (Nat.lt_of_lt_of_le (by have := World.block_lt_of_cell? _ _ hw400_0; first | rwa [add_block] at this | exact this) GW402.out))) _).trans (hHeld.1)))), ((cell_far (p := ⟨gb402, _, none⟩) (by first | exact Nat.ne_of_lt (Nat.lt_of_lt_of_le (by have := World.block_lt_of_cell? _ _ hw400_1; first | rwa [add_block] at this | exact this) GW402.out) | (rw [add_block]; exact Nat.ne_of_lt (Nat.lt_of_lt_of_le (by have := World.block_lt_of_cell? _ _ hw400_1; first | rwa [add_block] at this | exact this) GW402.out)) | (show (Addr.add _ _).block ≠ _; rw [add_block]; exact Nat.ne_of_lt (Nat.lt_of_lt_of_le (by have := World.block_lt_of_cell? _ _ hw400_1; first | rwa [add_block] at this | exact this) GW402.out)) | (dsimp only; exact Nat.ne_of_lt (Nat.lt_of_lt_of_le (by have := World.block_lt_of_cell? _ _ hw400_1; first | rwa [add_block] at this | exact this) GW402.out))) _).trans (((cell_far (p := ⟨gb402, _, none⟩) (by first | exact Nat.ne_of_lt (Nat.lt_of_lt_of_le (by have := World.block_lt_of_cell? _ _ hw400_1; first | rwa [add_block] at this | exact this) GW402.out) | (rw [add_block]; exact Nat.ne_of_lt (Nat.lt_of_lt_of_le (by have := World.block_lt_of_cell? _ _ hw400_1; first | rwa [add_block] at this | exact this) GW402.out)) | (show (Addr.add _ _).block ≠ _; rw [add_block]; exact Nat.ne_of_lt (Nat.lt_of_lt_of_le (by have := World.block_lt_of_cell? _ _ hw400_1; first | rwa [add_block] at this | exact this) GW402.out)) | (dsimp only; exact Nat.ne_of_lt (Nat.lt_of_lt_of_le (by have := World.block_lt_of_cell? _ _ hw400_1; first | rwa [add_block] at this | exact this) GW402.out))) _).trans (hHeld.2.1)))), ((cell_far (p := ⟨gb402, _, none⟩) (by first | exact Nat.ne_of_lt (Nat.lt_of_lt_of_le (by have := World.block_lt_of_cell? _ _ hw401_0; first | rwa [add_block] at this | exact this) GW402.out) | (rw [add_block]; exact Nat.ne_of_lt (Nat.lt_of_lt_of_le (by have := World.block_lt_of_cell? _ _ hw401_0; first | rwa [add_block] at this | exact this) GW402.out)) | (show (Addr.add _ _).block ≠ _; rw [add_block]; exact Nat.ne_of_lt (Nat.lt_of_lt_of_le (by have := World.block_lt_of_cell? _ _ hw401_0; first | rwa [add_block] at this | exact this) GW402.out)) | (dsimp only; exact Nat.ne_of_lt (Nat.lt_of_lt_of_le (by have := World.block_lt_of_cell? _ _ hw401_0; first | rwa [add_block] at this | exact this) GW402.out))) _).trans (((cell_far (p := ⟨gb402, _, none⟩) (by first | exact Nat.ne_of_lt (Nat.lt_of_lt_of_le (by have := World.block_lt_of_cell? _ _ hw401_0; first | rwa [add_block] at this | exact this) GW402.out) | (rw [add_block]; exact Nat.ne_of_lt (Nat.lt_of_lt_of_le (by have := World.block_lt_of_cell? _ _ hw401_0; first | rwa [add_block] at this | exact this) GW402.out)) | (show (Addr.add _ _).block ≠ _; rw [add_block]; exact Nat.ne_of_lt (Nat.lt_of_lt_of_le (by have := World.block_lt_of_cell? _ _ hw401_0; first | rwa [add_block] at this | exact this) GW402.out)) | (dsimp only; exact Nat.ne_of_lt (Nat.lt_of_lt_of_le (by have := World.block_lt_of_cell? _ _ hw401_0; first | rwa [add_block] at this | exact this) GW402.out))) _).trans (hHeld.2.2.1)))), ((cell_far (p := ⟨gb402, _, none⟩) (by first | exact Nat.ne_of_lt (Nat.lt_of_lt_of_le (by have := World.block_lt_of_cell? _ _ hw401_1; first | rwa [add_block] at this | exact this) GW402.out) | (rw [add_block]; exact Nat.ne_of_lt (Nat.lt_of_lt_of_le (by have := World.block_lt_of_cell? _ _ hw401_1; first | rwa [add_block] at this | exact this) GW402.out)) | (show (Addr.add _ _).block ≠ _; rw [add_block]; exact Nat.ne_of_lt (Nat.lt_of_lt_of_le (by have := World.block_lt_of_cell? _ _ hw401_1; first | rwa [add_block] at this | exact this) GW402.out)) | (dsimp only; exact Nat.ne_of_lt (Nat.lt_of_lt_of_le (by have := World.block_lt_of_cell? _ _ hw401_1; first | rwa [add_block] at this | exact this) GW402.out))) _).trans (((cell_far (p := ⟨gb402, _, none⟩) (by first | exact Nat.ne_of_lt (Nat.lt_of_lt_of_le (by have := World.block_lt_of_cell? _ _ hw401_1; first | rwa [add_block] at this | exact this) GW402.out) | (rw [add_block]; exact Nat.ne_of_lt (Nat.lt_of_lt_of_le (by have := World.block_lt_of_cell? _ _ hw401_1; first | rwa [add_block] at this | exact this) GW402.out)) | (show (Addr.add _ _).block ≠ _; rw [add_block]; exact Nat.ne_of_lt (Nat.lt_of_lt_of_le (by have := World.block_lt_of_cell? _ _ hw401_1; first | rwa [add_block] at this | exact this) GW402.out)) | (dsimp only; exact Nat.ne_of_lt (Nat.lt_of_lt_of_le (by have := World.block_lt_of_cell? _ _ hw401_1; first | rwa [add_block] at this | exact this) GW402.out))) _).trans (hHeld.2.2.2))))⟩ (fun hHeld => ?_)
 clear hK K
 refine one_ (i := 9) (N := none) (fA 10 1023) rfl rfl (one_of HT_.out (by kernel_rfl)) (by decide) (fun K hK => ?_)
 have hs11 : w8.cell? ⟨gb403, 0, none⟩ = some (.int .i64 0) := (blk_cell BK403.out 0).trans rfl
 have hfs11 := blk_frozen BK403.out 0
 have hns11_0 := NB398_403.out
 have hns11_1 := NB399_403.out
 have hns11_2 := NB402_403.out
 have hms11_0 := NB403_398.out
 have hms11_1 := NB403_399.out
 have hms11_2 := NB403_402.out
 have hs12 : w8.cell? ⟨gb403, 1, none⟩ = some (.int .i64 0) := (blk_cell BK403.out 1).trans rfl
 have hfs12 := blk_frozen BK403.out 1
 have hns12_0 := NB398_403.out
 have hns12_1 := NB399_403.out
 have hns12_2 := NB402_403.out
 have hms12_0 := NB403_398.out
 have hms12_1 := NB403_399.out
 have hms12_2 := NB403_402.out
 refine skip_ (w1 := ?_) (by rfl) rfl ?_ ?_
 rotate_left
 · go_simp
   rfl
 refine hK.out _ _ ⟨((cell_far (p := ⟨gb403, _, none⟩) (by first | exact Nat.ne_of_lt (Nat.lt_of_lt_of_le (by have := World.block_lt_of_cell? _ _ hw400_0; first | rwa [add_block] at this | exact this) GW403.out) | (rw [add_block]; exact Nat.ne_of_lt (Nat.lt_of_lt_of_le (by have := World.block_lt_of_cell? _ _ hw400_0; first | rwa [add_block] at this | exact this) GW403.out)) | (show (Addr.add _ _).block ≠ _; rw [add_block]; exact Nat.ne_of_lt (Nat.lt_of_lt_of_le (by have := World.block_lt_of_cell? _ _ hw400_0; first | rwa [add_block] at this | exact this) GW403.out)) | (dsimp only; exact Nat.ne_of_lt (Nat.lt_of_lt_of_le (by have := World.block_lt_of_cell? _ _ hw400_0; first | rwa [add_block] at this | exact this) GW403.out))) _).trans (((cell_far (p := ⟨gb403, _, none⟩) (by first | exact Nat.ne_of_lt (Nat.lt_of_lt_of_le (by have := World.block_lt_of_cell? _ _ hw400_0; first | rwa [add_block] at this | exact this) GW403.out) | (rw [add_block]; exact Nat.ne_of_lt (Nat.lt_of_lt_of_le (by have := World.block_lt_of_cell? _ _ hw400_0; first | rwa [add_block] at this | exact this) GW403.out)) | (show (Addr.add _ _).block ≠ _; rw [add_block]; exact Nat.ne_of_lt (Nat.lt_of_lt_of_le (by have := World.block_lt_of_cell? _ _ hw400_0; first | rwa [add_block] at this | exact this) GW403.out)) | (dsimp only; exact Nat.ne_of_lt (Nat.lt_of_lt_of_le (by have := World.block_lt_of_cell? _ _ hw400_0; first | rwa [add_block] at this | exact this) GW403.out))) _).trans (hHeld.1)))), ((cell_far (p := ⟨gb403, _, none⟩) (by first | exact Nat.ne_of_lt (Nat.lt_of_lt_of_le (by have := World.block_lt_of_cell? _ _ hw400_1; first | rwa [add_block] at this | exact this) GW403.out) | (rw [add_block]; exact Nat.ne_of_lt (Nat.lt_of_lt_of_le (by have := World.block_lt_of_cell? _ _ hw400_1; first | rwa [add_block] at this | exact this) GW403.out)) | (show (Addr.add _ _).block ≠ _; rw [add_block]; exact Nat.ne_of_lt (Nat.lt_of_lt_of_le (by have := World.block_lt_of_cell? _ _ hw400_1; first | rwa [add_block] at this | exact this) GW403.out)) | (dsimp only; exact Nat.ne_of_lt (Nat.lt_of_lt_of_le (by have := World.block_lt_of_cell? _ _ hw400_1; first | rwa [add_block] at this | exact this) GW403.out))) _).trans (((cell_far (p := ⟨gb403, _, none⟩) (by first | exact Nat.ne_of_lt (Nat.lt_of_lt_of_le (by have := World.block_lt_of_cell? _ _ hw400_1; first | rwa [add_block] at this | exact this) GW403.out) | (rw [add_block]; exact Nat.ne_of_lt (Nat.lt_of_lt_of_le (by have := World.block_lt_of_cell? _ _ hw400_1; first | rwa [add_block] at this | exact this) GW403.out)) | (show (Addr.add _ _).block ≠ _; rw [add_block]; exact Nat.ne_of_lt (Nat.lt_of_lt_of_le (by have := World.block_lt_of_cell? _ _ hw400_1; first | rwa [add_block] at this | exact this) GW403.out)) | (dsimp only; exact Nat.ne_of_lt (Nat.lt_of_lt_of_le (by have := World.block_lt_of_cell? _ _ hw400_1; first | rwa [add_block] at this | exact this) GW403.out))) _).trans (hHeld.2.1)))), ((cell_far (p := ⟨gb403, _, none⟩) (by first | exact Nat.ne_of_lt (Nat.lt_of_lt_of_le (by have := World.block_lt_of_cell? _ _ hw401_0; first | rwa [add_block] at this | exact this) GW403.out) | (rw [add_block]; exact Nat.ne_of_lt (Nat.lt_of_lt_of_le (by have := World.block_lt_of_cell? _ _ hw401_0; first | rwa [add_block] at this | exact this) GW403.out)) | (show (Addr.add _ _).block ≠ _; rw [add_block]; exact Nat.ne_of_lt (Nat.lt_of_lt_of_le (by have := World.block_lt_of_cell? _ _ hw401_0; first | rwa [add_block] at this | exact this) GW403.out)) | (dsimp only; exact Nat.ne_of_lt (Nat.lt_of_lt_of_le (by have := World.block_lt_of_cell? _ _ hw401_0; first | rwa [add_block] at this | exact this) GW403.out))) _).trans (((cell_far (p := ⟨gb403, _, none⟩) (by first | exact Nat.ne_of_lt (Nat.lt_of_lt_of_le (by have := World.block_lt_of_cell? _ _ hw401_0; first | rwa [add_block] at this | exact this) GW403.out) | (rw [add_block]; exact Nat.ne_of_lt (Nat.lt_of_lt_of_le (by have := World.block_lt_of_cell? _ _ hw401_0; first | rwa [add_block] at this | exact this) GW403.out)) | (show (Addr.add _ _).block ≠ _; rw [add_block]; exact Nat.ne_of_lt (Nat.lt_of_lt_of_le (by have := World.block_lt_of_cell? _ _ hw401_0; first | rwa [add_block] at this | exact this) GW403.out)) | (dsimp only; exact Nat.ne_of_lt (Nat.lt_of_lt_of_le (by have := World.block_lt_of_cell? _ _ hw401_0; first | rwa [add_block] at this | exact this) GW403.out))) _).trans (hHeld.2.2.1)))), ((cell_far (p := ⟨gb403, _, none⟩) (by first | exact Nat.ne_of_lt (Nat.lt_of_lt_of_le (by have := World.block_lt_of_cell? _ _ hw401_1; first | rwa [add_block] at this | exact this) GW403.out) | (rw [add_block]; exact Nat.ne_of_lt (Nat.lt_of_lt_of_le (by have := World.block_lt_of_cell? _ _ hw401_1; first | rwa [add_block] at this | exact this) GW403.out)) | (show (Addr.add _ _).block ≠ _; rw [add_block]; exact Nat.ne_of_lt (Nat.lt_of_lt_of_le (by have := World.block_lt_of_cell? _ _ hw401_1; first | rwa [add_block] at this | exact this) GW403.out)) | (dsimp only; exact Nat.ne_of_lt (Nat.lt_of_lt_of_le (by have := World.block_lt_of_cell? _ _ hw401_1; first | rwa [add_block] at this | exact this) GW403.out))) _).trans (((cell_far (p := ⟨gb403, _, none⟩) (by first | exact Nat.ne_of_lt (Nat.lt_of_lt_of_le (by have := World.block_lt_of_cell? _ _ hw401_1; first | rwa [add_block] at this | exact this) GW403.out) | (rw [add_block]; exact Nat.ne_of_lt (Nat.lt_of_lt_of_le (by have := World.block_lt_of_cell? _ _ hw401_1; first | rwa [add_block] at this | exact this) GW403.out)) | (show (Addr.add _ _).block ≠ _; rw [add_block]; exact Nat.ne_of_lt (Nat.lt_of_lt_of_le (by have := World.block_lt_of_cell? _ _ hw401_1; first | rwa [add_block] at this | exact this) GW403.out)) | (dsimp only; exact Nat.ne_of_lt (Nat.lt_of_lt_of_le (by have := World.block_lt_of_cell? _ _ hw401_1; first | rwa [add_block] at this | exact this) GW403.out))) _).trans (hHeld.2.2.2))))⟩ (fun hHeld => ?_)
 clear hK K
 refine dn_ ?_
 try go_wp2
 go_loopg [16] k (fun kq v16 w' => ∃ (x16_1 : Int) (x403000_1 : Int) (x403001_1 : Int) (x404000_1 : Int) (x404001_1 : Int), v16 = .int .i64 x16_1 ∧ Aside0 (impl_bounds.l0 kq l0 (l0.length : Int) x16_1 x403000_1 x403001_1 x404000_1 x404001_1 = some (r1, r2, r3, r4)) ∧ Aside0 (kq ≤ k) ∧ Aside0 (w'.heap[gb398]? = some (.cells #[.int .i64 0, .int .i64 0] 105 (0, 0))) ∧ Aside0 (w'.heap[gb399]? = some (.cells #[.int .i64 0, .int .i64 0] 105 (0, 0))) ∧ Aside0 (w'.heap[gb402]? = some (.cells #[.int .i64 x403000_1, .int .i64 x403001_1] 105 (0, 0))) ∧ Aside0 (w'.heap[gb403]? = some (.cells #[.int .i64 x404000_1, .int .i64 x404001_1] 105 (0, 0))) ∧ Aside0 (Below w.heap.size w w'))
 case atStart => exact ⟨(0), ((rd_T105 l0 0).f0), ((rd_T105 l0 0).f1), ((rd_T105 l0 0).f0), ((rd_T105 l0 0).f1), rf_, H', ⟨Nat.le_refl _⟩, ⟨by refine bl_ ?_; refine blk_far ?_ NB398_403.out _; refine bl_ ?_; refine blk_far ?_ NB398_403.out _; refine bl_ ?_; refine blk_far ?_ NB398_402.out _; refine bl_ ?_; refine blk_far ?_ NB398_402.out _; refine bl_ ?_; exact BK398.out⟩, ⟨by refine bl_ ?_; refine blk_far ?_ NB399_403.out _; refine bl_ ?_; refine blk_far ?_ NB399_403.out _; refine bl_ ?_; refine blk_far ?_ NB399_402.out _; refine bl_ ?_; refine blk_far ?_ NB399_402.out _; refine bl_ ?_; exact BK399.out⟩, ⟨by refine bl_ ?_; refine blk_far ?_ NB402_403.out _; refine bl_ ?_; refine blk_far ?_ NB402_403.out _; refine bl_ ?_; refine blk_put (cs := #[.int .i64 ((rd_T105 l0 0).f0), .int .i64 0]) ?_ 1 _ rfl; refine bl_ ?_; refine blk_put (cs := #[.int .i64 0, .int .i64 0]) ?_ 0 _ rfl; refine bl_ ?_; exact BK402.out⟩, ⟨by refine bl_ ?_; refine blk_put (cs := #[.int .i64 ((rd_T105 l0 0).f0), .int .i64 0]) ?_ 1 _ rfl; refine bl_ ?_; refine blk_put (cs := #[.int .i64 0, .int .i64 0]) ?_ 0 _ rfl; refine bl_ ?_; refine blk_far ?_ NB403_402.out _; refine bl_ ?_; refine blk_far ?_ NB403_402.out _; refine bl_ ?_; exact BK403.out⟩, ⟨bs4_ HB.out GE398.out GE399.out GE402.out GE403.out⟩⟩
 case round =>
  clear H'
  try clear c2 c2b0 c2b1
  try clear hx400_0 hx400_1 hx401_0 hx401_1
  try clear p400 p401
  try clear q400 q401
  obtain ⟨x16_1, x403000_1, x403001_1, x404000_1, x404001_1, rfl, HA, HK1, BK398, BK399, BK402, BK403, HB⟩ := hrel
  cases gk with
  | zero => exact absurd HA.out (by simp [impl_bounds.l0])
  | succ k1 =>
   have H := HA.out
   clear HA
   simp only [impl_bounds.l0] at H
   by_cases c13 : x16_1 < (l0.length : Int)
   · rw [if_pos c13] at H
     have c13b0 := decide_eq_true c13
     clear c13
     revert H
     refine ng_ fun c14 => ng_ fun c15 => ?_
     intro H
     have c14b0 := decide_eq_true c14
     clear c14
     have c15b0 := decide_eq_true c15
     clear c15
     obtain ⟨ji16, hji16⟩ : ∃ j_ : Int, (mn x403000_1 ((rd_T105 l0 x16_1).f0)) = j_ := ⟨_, rfl⟩
     replace H : (impl_bounds.l0 k1 l0 (l0.length : Int) (wrap64 (x16_1 + 1)) ji16 (mn x403001_1 ((rd_T105 l0 x16_1).f1)) (mx x404000_1 ((rd_T105 l0 x16_1).f0)) (mx x404001_1 ((rd_T105 l0 x16_1).f1))) = some (r1, r2, r3, r4) := by first | (rw [hji16] at H; exact H) | (simp only [hji16] at H ⊢; exact H)
     have hji16_ : (if ((rd_T105 l0 x16_1).f0) < x403000_1 then ((rd_T105 l0 x16_1).f0) else x403000_1) = ji16 := hji16
     obtain ⟨ji17, hji17⟩ : ∃ j_ : Int, (mn x403001_1 ((rd_T105 l0 x16_1).f1)) = j_ := ⟨_, rfl⟩
     replace H : (impl_bounds.l0 k1 l0 (l0.length : Int) (wrap64 (x16_1 + 1)) ji16 ji17 (mx x404000_1 ((rd_T105 l0 x16_1).f0)) (mx x404001_1 ((rd_T105 l0 x16_1).f1))) = some (r1, r2, r3, r4) := by first | (rw [hji17] at H; exact H) | (simp only [hji17] at H ⊢; exact H)
     have hji17_ : (if ((rd_T105 l0 x16_1).f1) < x403001_1 then ((rd_T105 l0 x16_1).f1) else x403001_1) = ji17 := hji17
     obtain ⟨ji18, hji18⟩ : ∃ j_ : Int, (mx x404000_1 ((rd_T105 l0 x16_1).f0)) = j_ := ⟨_, rfl⟩
     replace H : (impl_bounds.l0 k1 l0 (l0.length : Int) (wrap64 (x16_1 + 1)) ji16 ji17 ji18 (mx x404001_1 ((rd_T105 l0 x16_1).f1))) = some (r1, r2, r3, r4) := by first | (rw [hji18] at H; exact H) | (simp only [hji18] at H ⊢; exact H)
     have hji18_ : (if x404000_1 < ((rd_T105 l0 x16_1).f0) then ((rd_T105 l0 x16_1).f0) else x404000_1) = ji18 := hji18
     obtain ⟨ji19, hji19⟩ : ∃ j_ : Int, (mx x404001_1 ((rd_T105 l0 x16_1).f1)) = j_ := ⟨_, rfl⟩
     replace H : (impl_bounds.l0 k1 l0 (l0.length : Int) (wrap64 (x16_1 + 1)) ji16 ji17 ji18 ji19) = some (r1, r2, r3, r4) := by first | (rw [hji19] at H; exact H) | (simp only [hji19] at H ⊢; exact H)
     have hji19_ : (if x404001_1 < ((rd_T105 l0 x16_1).f1) then ((rd_T105 l0 x16_1).f1) else x404001_1) = ji19 := hji19
     have H' := mkA H
     clear H
     obtain ⟨ad404, e404, hx404_0, hx404_1⟩ := at_T105 HR0.out x16_1 dt_ dt_
     obtain rfl : ad400 = ad404 := (by injection e404)
     obtain ⟨hx404_0, hx404_1⟩ := b2_ HB.out hx404_0 hx404_1
     have p404 : (0 ≤ (x16_1 : Int)) = True := eq_true dt_
     have q404 : (x16_1 < (l0.length : Int)) = True := eq_true dt_
     go_wp2_with (first | ((with_reducible refine gt_ 7 ?_); refine bx_ 7 #[.int .i64 0, .int .i64 0] 105 fun gb405 hg w20 hbox hb => ?_; have BK405 := mkA (hbox); have GW405 := gs_ hg (bs4_ HB.out GE398.out GE399.out GE402.out GE403.out); have GE405 := GW405; replace HB := mkA (below_step (bs4_ HB.out GE398.out GE399.out GE402.out GE403.out) hb); have NB398_405 := nl_ hg (bl_ BK398.out); have NB405_398 := nr_ hg (bl_ BK398.out); replace BK398 := mkA (blk_below (bl_ BK398.out) hb); have NB399_405 := nl_ hg (bl_ BK399.out); have NB405_399 := nr_ hg (bl_ BK399.out); replace BK399 := mkA (blk_below (bl_ BK399.out) hb); have NB402_405 := nl_ hg (bl_ BK402.out); have NB405_402 := nr_ hg (bl_ BK402.out); replace BK402 := mkA (blk_below (bl_ BK402.out) hb); have NB403_405 := nl_ hg (bl_ BK403.out); have NB405_403 := nr_ hg (bl_ BK403.out); replace BK403 := mkA (blk_below (bl_ BK403.out) hb); clear hb hbox hg; have hnb21 := NB405_398.out; have hnc21 := NB398_405.out; have hnb22 := NB405_399.out; have hnc22 := NB399_405.out; have hnb23 := NB405_402.out; have hnc23 := NB402_405.out; have hnb24 := NB405_403.out; have hnc24 := NB403_405.out; obtain ⟨hcz25_0, hcz25_1, hfz25_0, hfz25_1⟩ := z2_ BK405.out; have hnb26 := NB402_398.out; have hnc26 := NB398_402.out; have hnb27 := NB402_399.out; have hnc27 := NB399_402.out; have hnb28 := NB402_403.out; have hnc28 := NB403_402.out; obtain ⟨hcz29_0, hcz29_1, hfz29_0, hfz29_1⟩ := z2_ BK402.out; have hnb30 := NB403_398.out; have hnc30 := NB398_403.out; have hnb31 := NB403_399.out; have hnc31 := NB399_403.out; obtain ⟨hcz32_0, hcz32_1, hfz32_0, hfz32_1⟩ := z2_ BK403.out))
     go_roundg k1
     case measure => have := HK1.out; omega
     case rel => exact ⟨(wrap64 (x16_1 + 1)), (ji16), (ji17), (ji18), (ji19), rf_, H', ⟨om_ HK1.out⟩, ⟨by refine bl_ ?_; refine blk_far ?_ NB398_403.out _; refine bl_ ?_; refine blk_far ?_ NB398_403.out _; refine bl_ ?_; refine blk_far ?_ NB398_402.out _; refine bl_ ?_; refine blk_far ?_ NB398_402.out _; refine bl_ ?_; refine blk_far ?_ NB398_405.out _; refine bl_ ?_; refine blk_far ?_ NB398_405.out _; refine bl_ ?_; exact BK398.out⟩, ⟨by refine bl_ ?_; refine blk_far ?_ NB399_403.out _; refine bl_ ?_; refine blk_far ?_ NB399_403.out _; refine bl_ ?_; refine blk_far ?_ NB399_402.out _; refine bl_ ?_; refine blk_far ?_ NB399_402.out _; refine bl_ ?_; refine blk_far ?_ NB399_405.out _; refine bl_ ?_; refine blk_far ?_ NB399_405.out _; refine bl_ ?_; exact BK399.out⟩, ⟨by refine bl_ ?_; refine blk_far ?_ NB402_403.out _; refine bl_ ?_; refine blk_far ?_ NB402_403.out _; refine bl_ ?_; refine blk_put (cs := #[.int .i64 ji16, .int .i64 x403001_1]) ?_ 1 _ rfl; refine bl_ ?_; refine blk_put (cs := #[.int .i64 x403000_1, .int .i64 x403001_1]) ?_ 0 _ rfl; refine bl_ ?_; refine blk_far ?_ NB402_405.out _; refine bl_ ?_; refine blk_far ?_ NB402_405.out _; refine bl_ ?_; exact BK402.out⟩, ⟨by refine bl_ ?_; refine blk_put (cs := #[.int .i64 ji18, .int .i64 x404001_1]) ?_ 1 _ rfl; refine bl_ ?_; refine blk_put (cs := #[.int .i64 x404000_1, .int .i64 x404001_1]) ?_ 0 _ rfl; refine bl_ ?_; refine blk_far ?_ NB403_402.out _; refine bl_ ?_; refine blk_far ?_ NB403_402.out _; refine bl_ ?_; refine blk_far ?_ NB403_405.out _; refine bl_ ?_; refine blk_far ?_ NB403_405.out _; refine bl_ ?_; exact BK403.out⟩, ⟨bs5_ HB.out GE398.out GE399.out GE402.out GE403.out GE405.out⟩⟩
   · rw [if_neg c13] at H
     have c13b0 := decide_eq_false c13
     clear c13
     simp only [Option.some.injEq, Prod.mk.injEq] at H
     obtain ⟨rfl, rfl, rfl, rfl⟩ := H
     try go_wp2
     replace BK398 := mkA (blk_drew BK398.out)
     replace BK399 := mkA (blk_drew BK399.out)
     replace BK402 := mkA (blk_drew BK402.out)
     replace BK403 := mkA (blk_drew BK403.out)
     replace HB := mkA (below_drew1 HB.out)
     refine start_ (n := 4) (S := fun w' => w'.cell? ⟨gb402, 0, none⟩ = some (.int .i64 x403000_1) ∧ w'.cell? ⟨gb402, 1, none⟩ = some (.int .i64 x403001_1) ∧ w'.cell? ⟨gb403, 0, none⟩ = some (.int .i64 x404000_1) ∧ w'.cell? ⟨gb403, 1, none⟩ = some (.int .i64 x404001_1)) (ds := []) (fA 4 0) (by kernel_rfl) rfl rfl ⟨(blk_cell BK402.out 0).trans rfl, (blk_cell BK402.out 1).trans rfl, (blk_cell BK403.out 0).trans rfl, (blk_cell BK403.out 1).trans rfl⟩ (fun hHeld => ?_)
     generalize wr.drew = w33 at BK398 BK399 BK402 BK403 HB hHeld ⊢
     refine take_ (i := 0) (N := some 43) (v := ?_) (a' := ?_) (fA 4 1) rfl rfl (by kernel_rfl) (fun _ _ _ h => h) (Or.inl ⟨by rfl, ?_⟩) hHeld ?_ ?_
     rotate_left
     · rintro w' ⟨s0, s1, s2, s3⟩
       (try simp only [C_] at s0 s1 s2 s3)
       go_simp
       with_reducible rfl
     rotate_left
     · simp only [Act.put, sA, sB, sC, i64_w, i32_w]
       rfl
     refine take_ (i := 1) (N := some 44) (v := ?_) (a' := ?_) (fA 4 3) rfl rfl (by kernel_rfl) (fun _ _ _ h => h) (Or.inl ⟨by rfl, ?_⟩) hHeld ?_ ?_
     rotate_left
     · rintro w' ⟨s0, s1, s2, s3⟩
       (try simp only [C_] at s0 s1 s2 s3)
       go_simp
       with_reducible rfl
     rotate_left
     · simp only [Act.put, sA, sB, sC, i64_w, i32_w]
       rfl
     refine one_ (i := 2) (N := none) (fA 4 7) rfl rfl (by kernel_rfl) (by decide) (fun K hK => ?_)
     have hs34 : w33.cell? ⟨gb398, 0, none⟩ = some (.int .i64 0) := (blk_cell BK398.out 0).trans rfl
     have hfs34 := blk_frozen BK398.out 0
     have hns34_1 := NB399_398.out
     have hns34_2 := NB402_398.out
     have hns34_3 := NB403_398.out
     have hms34_1 := NB398_399.out
     have hms34_2 := NB398_402.out
     have hms34_3 := NB398_403.out
     have hs35 : w33.cell? ⟨gb398, 1, none⟩ = some (.int .i64 0) := (blk_cell BK398.out 1).trans rfl
     have hfs35 := blk_frozen BK398.out 1
     have hns35_1 := NB399_398.out
     have hns35_2 := NB402_398.out
     have hns35_3 := NB403_398.out
     have hms35_1 := NB398_399.out
     have hms35_2 := NB398_402.out
     have hms35_3 := NB398_403.out
     refine skip_ (w1 := ?_) (by rfl) rfl ?_ ?_
     rotate_left
     · go_simp
       rfl
     refine hK.out _ _ ⟨((cell_far (p := ⟨gb398, _, none⟩) NB402_398.out _).trans (((cell_far (p := ⟨gb398, _, none⟩) NB402_398.out _).trans (hHeld.1)))), ((cell_far (p := ⟨gb398, _, none⟩) NB402_398.out _).trans (((cell_far (p := ⟨gb398, _, none⟩) NB402_398.out _).trans (hHeld.2.1)))), ((cell_far (p := ⟨gb398, _, none⟩) NB403_398.out _).trans (((cell_far (p := ⟨gb398, _, none⟩) NB403_398.out _).trans (hHeld.2.2.1)))), ((cell_far (p := ⟨gb398, _, none⟩) NB403_398.out _).trans (((cell_far (p := ⟨gb398, _, none⟩) NB403_398.out _).trans (hHeld.2.2.2))))⟩ (fun hHeld => ?_)
     clear hK K
     refine one_ (i := 3) (N := none) (fA 4 15) rfl rfl (by kernel_rfl) (by decide) (fun K hK => ?_)
     have hs36 : w33.cell? ⟨gb399, 0, none⟩ = some (.int .i64 0) := (blk_cell BK399.out 0).trans rfl
     have hfs36 := blk_frozen BK399.out 0
     have hns36_0 := NB398_399.out
     have hns36_2 := NB402_399.out
     have hns36_3 := NB403_399.out
     have hms36_0 := NB399_398.out
     have hms36_2 := NB399_402.out
     have hms36_3 := NB399_403.out
     have hs37 : w33.cell? ⟨gb399, 1, none⟩ = some (.int .i64 0) := (blk_cell BK399.out 1).trans rfl
     have hfs37 := blk_frozen BK399.out 1
     have hns37_0 := NB398_399.out
     have hns37_2 := NB402_399.out
     have hns37_3 := NB403_399.out
     have hms37_0 := NB399_398.out
     have hms37_2 := NB399_402.out
     have hms37_3 := NB399_403.out
     refine skip_ (w1 := ?_) (by rfl) rfl ?_ ?_
     rotate_left
     · go_simp
       rfl
     refine hK.out _ _ ⟨((cell_far (p := ⟨gb399, _, none⟩) NB402_399.out _).trans (((cell_far (p := ⟨gb399, _, none⟩) NB402_399.out _).trans (hHeld.1)))), ((cell_far (p := ⟨gb399, _, none⟩) NB402_399.out _).trans (((cell_far (p := ⟨gb399, _, none⟩) NB402_399.out _).trans (hHeld.2.1)))), ((cell_far (p := ⟨gb399, _, none⟩) NB403_399.out _).trans (((cell_far (p := ⟨gb399, _, none⟩) NB403_399.out _).trans (hHeld.2.2.1)))), ((cell_far (p := ⟨gb399, _, none⟩) NB403_399.out _).trans (((cell_far (p := ⟨gb399, _, none⟩) NB403_399.out _).trans (hHeld.2.2.2))))⟩ (fun hHeld => ?_)
     clear hK K
     refine done_ (by kernel_rfl) ?_
     try go_wp2
     refine bodyPost_ret (results_cc rfl _ _ gb398 gb399 105 105 #[.int .i64 x403000_1, .int .i64 x403001_1] #[.int .i64 x404000_1, .int .i64 x404001_1] (0, 0) (0, 0) _ _ rfl (by refine bl_ ?_; refine blk_far ?_ NB398_399.out _; refine bl_ ?_; refine blk_far ?_ NB398_399.out _; refine bl_ ?_; refine blk_put (cs := #[.int .i64 x403000_1, .int .i64 0]) ?_ 1 _ rfl; refine bl_ ?_; refine blk_put (cs := #[.int .i64 0, .int .i64 0]) ?_ 0 _ rfl; refine bl_ ?_; exact BK398.out) Try.underlying105 rfl (by kernel_rfl) rfl (by refine bl_ ?_; refine blk_put (cs := #[.int .i64 x404000_1, .int .i64 0]) ?_ 1 _ rfl; refine bl_ ?_; refine blk_put (cs := #[.int .i64 0, .int .i64 0]) ?_ 0 _ rfl; refine bl_ ?_; refine blk_far ?_ NB399_398.out _; refine bl_ ?_; refine blk_far ?_ NB399_398.out _; refine bl_ ?_; exact BK399.out) Try.underlying105 rfl (by kernel_rfl)) rfl ?_
     exact ⟨re_, bs4_ HB.out GE398.out GE399.out GE402.out GE403.out⟩
end Go.Proofs.Ytakagkflgkoiiaa.GFnExactFirstUncovered

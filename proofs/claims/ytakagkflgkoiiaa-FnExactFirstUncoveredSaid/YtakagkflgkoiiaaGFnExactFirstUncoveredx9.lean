-- Written by the session's own program (gen.py) out of the translation's print. Lean checks it.
import Derived.Test.YtakagkflgkoiiaaQ
import Derived.Test.YtakagkflgkoiiaaGFnExactFirstUncoveredx0
import Derived.Test.YtakagkflgkoiiaaGFnExactFirstUncoveredx1
import Derived.Test.YtakagkflgkoiiaaGFnExactFirstUncoveredx8
namespace Go.Proofs.Ytakagkflgkoiiaa.GFnExactFirstUncovered
open Go.RowKit Go.Proofs.YtakagkflgkoiiaaW.PrintWords Go.Proofs.YtakagkflgkoiiaaW.PrintLast Go.Proofs.YtakagkflgkoiiaaW.PrintMore
open List renaming setIfInBounds_toArray → sA, set_cons_zero → sB, set_cons_succ → sC
open Go.Proofs.YtakagkflgkoiiaaW.PrintWords.Aside0 renaming mk → mkA
open Go.Proofs.YtakagkflgkoiiaaX (dt_ bc_ p0_ p1_ bl_ cb_ bs0_ bs1_ bs2_ bs3_ bs4_ bs5_ bs6_ bs7_ bs8_ bs9_ bs10_ bs11_ bs12_)
open Go.Proofs.YtakagkflgkoiiaaQ
attribute [local go_sem] max2_int min2_int max_two min_two max_three min_three max_four min_four 
set_option linter.unusedVariables false
set_option linter.unusedSimpArgs false

attribute [local go_sem high] eqA105
/-! ### spec_l19Pieces: function 69 -/
def spec_l19Pieces.l0 : Nat → List (S53) → Int → Option (Bool)
  | 0, _, _ => none
  | k + 1, x0, x3 => if x3 < (x0.length : Int) then (if 0 ≤ x3 then ((spec_l19Piece.f k [rd_T53 x0 x3]).bind fun t217 => (if t217 = true then (if x3 > 0 then (if 0 ≤ (wrap64 (x3 - 1)) then (if (wrap64 (x3 - 1)) < (x0.length : Int) then (if ((Op.bytesLess (((rd_T53 x0 (wrap64 (x3 - 1))).f0).toList) (((rd_T53 x0 x3).f0).toList)) = true) then (spec_l19Pieces.l0 k x0 (wrap64 (x3 + 1))) else (some false)) else (none)) else (none)) else (spec_l19Pieces.l0 k x0 (wrap64 (x3 + 1)))) else (some false))) else (none)) else (some (decide ((x0.length : Int) ≤ 8)))
def spec_l19Pieces.f (k : Nat) (l0 : List (S53)) : Option (Bool) := spec_l19Pieces.l0 k l0 0
def spec_l19Pieces.T4 : Bool × List (List Nat × List Nat) := (true, [([], []), ([], []), ([0, 1], [0, 1]), ([2], [2]), ([3], [3]), ([4, 3], [4]), ([5], [5]), ([6, 5], [5, 6]), ([7, 5, 5], [5, 7]), ([8], [8]), ([8], [8]), ([10, 8], [8, 10]), ([9, 11, 8], [8, 9, 11]), ([12, 8], [8, 12]), ([13, 8], [8, 13]), ([8], [8]), ([8], [8]), ([15, 16, 8], [8, 15, 16]), ([17, 8], [8, 17]), ([18, 8], [8, 18]), ([14, 19, 8], [8, 14, 19]), ([8, 20, 5], [5, 8, 20]), ([5, 21], [5, 21])])
def spec_l19Pieces.B4 : List Nat := [0, 0, 3, 7, 15, 31, 63, 127, 255, 511, 511, 1535, 4095, 8191, 16383, 511, 511, 98815, 229887, 492031, 1048575, 2097151, 4194303]
theorem spec_l19Pieces.tab4 : rtab .any (opsOf Try.f69 4) = spec_l19Pieces.T4 := by kernel_rfl
theorem spec_l19Pieces.bits4 : waitsOk spec_l19Pieces.T4.2 spec_l19Pieces.B4 = true := by kernel_rfl
set_option maxHeartbeats 8000000 in
set_option maxRecDepth 100000 in
theorem spec_l19Pieces.calls (k : Nat) (A0 : Option Addr) (c0 : Nat) (l0 : List (S53)) (r : Bool) (w : World) (hr0 : Kd.C k53 w A0 l0.length l0) (hc0 : l0.length ≤ c0) (h : spec_l19Pieces.f k l0 = some r) :
 Calls Try.prog 69 #[.slice A0 l0.length c0] w fun e w' => e = .returned (.bool r) ∧ Below w.heap.size w w' := by
 have HR0 := mkA hr0
 have HC0 := mkA hc0
 clear hr0 hc0
 have HB := mkA (Below.refl w.heap.size w)
 unfold spec_l19Pieces.f at h
 have H := h
 clear h
 have H' := mkA H
 clear H
 go_enter Try.func69, Try.ntmps69
 go_wp2
 go_loopg [3] k (fun kq v3 w' => ∃ (x3_1 : Int), v3 = .int .i64 x3_1 ∧ Aside0 (spec_l19Pieces.l0 kq l0 x3_1 = some r) ∧ Aside0 (kq ≤ k) ∧ Aside0 (Below w.heap.size w w'))
 case atStart => exact ⟨(0), rf_, H', ⟨Nat.le_refl _⟩, ⟨bs0_ HB.out⟩⟩
 case round =>
  clear H'
  obtain ⟨x3_1, rfl, HA, HK1, HB⟩ := hrel
  cases gk with
  | zero => exact absurd HA.out (by simp [spec_l19Pieces.l0])
  | succ k1 =>
   have H := HA.out
   clear HA
   simp only [spec_l19Pieces.l0] at H
   by_cases c2 : x3_1 < (l0.length : Int)
   rotate_left
   · rw [if_neg c2] at H
     have c2b0 := decide_eq_false c2
     clear c2
     obtain rfl := Option.some.inj H
     go_wp2
     go_ret
     exact ⟨re_, bs0_ HB.out⟩
   rw [if_pos c2] at H
   have c2b0 := decide_eq_true c2
   clear c2
   revert H
   refine ng_ fun c3 => ob_ fun t217 A4 => ?_
   intro H
   have c3b0 := decide_eq_true c3
   clear c3
   by_cases c5 : t217 = true
   rotate_left
   · replace c5 := Bool.eq_false_iff.mpr c5
     subst c5
     rw [if_neg Bool.false_ne_true] at H
     obtain rfl := Option.some.inj H
     try go_wp2
     replace HB := mkA (below_drew1 HB.out)
     obtain ⟨ad216, A216_1, c216_1, e216, hw216_0, hw216_1, hw216_2, hw216_3, hl216_1, hi216_1⟩ := at_T53 HR0.out x3_1 dt_ dt_
     cases e216
     have HR216_1 := mkA hi216_1
     have HC216_1 := mkA hl216_1
     clear hi216_1 hl216_1
     obtain ⟨hx216_0, hx216_1, hx216_2, hx216_3⟩ := b4_ HB.out hw216_0 hw216_1 hw216_2 hw216_3
     have p216 : (0 ≤ (x3_1 : Int)) = True := eq_true dt_
     have q216 : (x3_1 < (l0.length : Int)) = True := eq_true dt_
     refine st_ 23 (fun w' => C_ hw216_0 w' ∧ C_ hw216_1 w' ∧ C_ hw216_2 w' ∧ C_ hw216_3 w') [] spec_l19Pieces.tab4 spec_l19Pieces.bits4 sp_ fun hHeld HT_ HW_ => ?_
     generalize wr.drew = w17 at HB HR216_1 hx216_0 hx216_1 hx216_2 hx216_3 hHeld ⊢
     refine a1_ 0 10 (h := a1_ 1 11 (h := a1_ 2 12 (h := ?_)))
     refine on_ 3 13 fun K hK => ?_
     refine go_ Try.func72 #[.pointer (some (ad216.add (x3_1.toNat * 4)))] ?_
     with_reducible refine (spec_l19Piece.calls k1 _ [rd_T53 l0 x3_1] false _ ?side1 A4.out).mono ?_
     (case side1 => refine Go.Proofs.YtakagkflgkoiiaaX.rp_elem (xs := l0) z53 x3_1 (of_eq_true p216) (of_eq_true q216) ?_; repeat (first | exact (Kd.C_below HR0.out HB.out) | (with_reducible refine Kd.C_alloc ?_ _) | (with_reducible refine Kd.C_drewN ?_ _) | (with_reducible refine Kd.C_drew ?_)))
     rintro e w18 ⟨rfl, hb⟩
     refine ⟨_, rfl, ?_⟩
     replace HB := mkA (below_step (bs0_ HB.out) hb)
     (try clear hb)
     (try clear hb2)
     (try clear hk)
     (try clear hi)
     refine hK.out _ _ sp_ fun hHeld => ?_
     clear hK K
     refine nm_ 13 ?_
     refine a1_ 4 14 (h := a1_ 5 15 (h := a0_ 6 16 (h := a0_ 7 17 (h := a0_ 8 18 (h := a0_ 9 19 (h := a0_ 10 20 (h := a0_ 11 21 (h := a0_ 12 22 (h := a0_ 13 23 (h := a0_ 14 24 (h := a0_ 15 25 (h := a0_ 16 26 (h := a0_ 17 27 (h := a0_ 18 28 (h := a0_ 19 29 (h := a0_ 20 30 (h := a0_ 21 31 (h := a1_ 22 32 (h := ?_)))))))))))))))))))
     refine dn_ ?_
     try go_wp2
     go_ret
     exact ⟨re_, bs0_ HB.out⟩
   subst c5
   rw [if_pos rfl] at H
   by_cases c6 : x3_1 > 0
   rotate_left
   · rw [if_neg c6] at H
     have c6b0 := decide_eq_false c6
     clear c6
     have H' := mkA H
     clear H
     try go_wp2
     replace HB := mkA (below_drew1 HB.out)
     obtain ⟨ad216, A216_1, c216_1, e216, hw216_0, hw216_1, hw216_2, hw216_3, hl216_1, hi216_1⟩ := at_T53 HR0.out x3_1 dt_ dt_
     cases e216
     have HR216_1 := mkA hi216_1
     have HC216_1 := mkA hl216_1
     clear hi216_1 hl216_1
     obtain ⟨hx216_0, hx216_1, hx216_2, hx216_3⟩ := b4_ HB.out hw216_0 hw216_1 hw216_2 hw216_3
     have p216 : (0 ≤ (x3_1 : Int)) = True := eq_true dt_
     have q216 : (x3_1 < (l0.length : Int)) = True := eq_true dt_
     refine st_ 23 (fun w' => C_ hw216_0 w' ∧ C_ hw216_1 w' ∧ C_ hw216_2 w' ∧ C_ hw216_3 w') [] spec_l19Pieces.tab4 spec_l19Pieces.bits4 sp_ fun hHeld HT_ HW_ => ?_
     generalize wr.drew = w15 at HB HR216_1 hx216_0 hx216_1 hx216_2 hx216_3 hHeld ⊢
     refine a1_ 0 10 (h := a1_ 1 11 (h := a1_ 2 12 (h := ?_)))
     refine on_ 3 13 fun K hK => ?_
     refine go_ Try.func72 #[.pointer (some (ad216.add (x3_1.toNat * 4)))] ?_
     with_reducible refine (spec_l19Piece.calls k1 _ [rd_T53 l0 x3_1] true _ ?side1 A4.out).mono ?_
     (case side1 => refine Go.Proofs.YtakagkflgkoiiaaX.rp_elem (xs := l0) z53 x3_1 (of_eq_true p216) (of_eq_true q216) ?_; repeat (first | exact (Kd.C_below HR0.out HB.out) | (with_reducible refine Kd.C_alloc ?_ _) | (with_reducible refine Kd.C_drewN ?_ _) | (with_reducible refine Kd.C_drew ?_)))
     rintro e w16 ⟨rfl, hb⟩
     refine ⟨_, rfl, ?_⟩
     replace HB := mkA (below_step (bs0_ HB.out) hb)
     (try clear hb)
     (try clear hb2)
     (try clear hk)
     (try clear hi)
     refine hK.out _ _ sp_ fun hHeld => ?_
     clear hK K
     refine nm_ 13 ?_
     refine a1_ 4 14 (h := a1_ 5 15 (h := a1_ 6 16 (h := a1_ 7 17 (h := a1_ 8 18 (h := a0_ 9 19 (h := a0_ 10 20 (h := a0_ 11 21 (h := a0_ 12 22 (h := a0_ 13 23 (h := a0_ 14 24 (h := a0_ 15 25 (h := a0_ 16 26 (h := a0_ 17 27 (h := a0_ 18 28 (h := a0_ 19 29 (h := a0_ 20 30 (h := a1_ 21 31 (h := a1_ 22 32 (h := ?_)))))))))))))))))))
     refine dn_ ?_
     try go_wp2
     go_roundg k1
     case measure => have := HK1.out; omega
     case rel => exact ⟨(wrap64 (x3_1 + 1)), rf_, H', ⟨om_ HK1.out⟩, ⟨bs0_ HB.out⟩⟩
   rw [if_pos c6] at H
   have c6b0 := decide_eq_true c6
   clear c6
   obtain ⟨ji7, hji7⟩ : ∃ j_ : Int, (wrap64 (x3_1 - 1)) = j_ := ⟨_, rfl⟩
   replace H : (if 0 ≤ (ji7) then (if (ji7) < (l0.length : Int) then (if ((Op.bytesLess (((rd_T53 l0 (ji7)).f0).toList) (((rd_T53 l0 x3_1).f0).toList)) = true) then (spec_l19Pieces.l0 k1 l0 (wrap64 (x3_1 + 1))) else (some false)) else (none)) else (none)) = some r := by first | (rw [hji7] at H; exact H) | (simp only [hji7] at H ⊢; exact H)
   (try rw [hji7] at A4)
   have hji7w : (IntKind.i64.wrap (x3_1 - 1)) = ji7 := (i64_w _).trans hji7
   revert H
   refine ng_ fun c8 => ng_ fun c9 => ?_
   intro H
   have c8b0 := decide_eq_true c8
   clear c8
   have c9b0 := decide_eq_true c9
   clear c9
   by_cases c10 : ((Op.bytesLess (((rd_T53 l0 (ji7)).f0).toList) (((rd_T53 l0 x3_1).f0).toList)) = true)
   rotate_left
   · rw [if_neg c10] at H
     have c10b0 : (Op.bytesLess (((rd_T53 l0 (ji7)).f0).toList) (((rd_T53 l0 x3_1).f0).toList)) = false := by simpa using c10
     clear c10
     obtain rfl := Option.some.inj H
     try go_wp2
     replace HB := mkA (below_drew1 HB.out)
     obtain ⟨ad216, A216_1, c216_1, e216, hw216_0, hw216_1, hw216_2, hw216_3, hl216_1, hi216_1⟩ := at_T53 HR0.out x3_1 dt_ dt_
     cases e216
     have HR216_1 := mkA hi216_1
     have HC216_1 := mkA hl216_1
     clear hi216_1 hl216_1
     obtain ⟨hx216_0, hx216_1, hx216_2, hx216_3⟩ := b4_ HB.out hw216_0 hw216_1 hw216_2 hw216_3
     have p216 : (0 ≤ (x3_1 : Int)) = True := eq_true dt_
     have q216 : (x3_1 < (l0.length : Int)) = True := eq_true dt_
     obtain ⟨ad218, A218_1, c218_1, e218, hw218_0, hw218_1, hw218_2, hw218_3, hl218_1, hi218_1⟩ := at_T53 HR0.out (ji7) dt_ dt_
     obtain rfl : ad216 = ad218 := (by injection e218)
     have HR218_1 := mkA hi218_1
     have HC218_1 := mkA hl218_1
     clear hi218_1 hl218_1
     obtain ⟨hx218_0, hx218_1, hx218_2, hx218_3⟩ := b4_ HB.out hw218_0 hw218_1 hw218_2 hw218_3
     have p218 : (0 ≤ ((ji7) : Int)) = True := eq_true dt_
     have q218 : ((ji7) < (l0.length : Int)) = True := eq_true dt_
     obtain ⟨ad219, A219_1, c219_1, e219, hw219_0, hw219_1, hw219_2, hw219_3, hl219_1, hi219_1⟩ := at_T53 HR0.out x3_1 dt_ dt_
     obtain rfl : ad216 = ad219 := (by injection e219)
     have HR219_1 := mkA hi219_1
     have HC219_1 := mkA hl219_1
     clear hi219_1 hl219_1
     obtain ⟨hx219_0, hx219_1, hx219_2, hx219_3⟩ := b4_ HB.out hw219_0 hw219_1 hw219_2 hw219_3
     have p219 : (0 ≤ (x3_1 : Int)) = True := eq_true dt_
     have q219 : (x3_1 < (l0.length : Int)) = True := eq_true dt_
     refine st_ 23 (fun w' => C_ hw216_0 w' ∧ C_ hw216_1 w' ∧ C_ hw216_2 w' ∧ C_ hw216_3 w' ∧ C_ hw218_0 w' ∧ C_ hw218_1 w' ∧ C_ hw218_2 w' ∧ C_ hw218_3 w' ∧ C_ hw219_0 w' ∧ C_ hw219_1 w' ∧ C_ hw219_2 w' ∧ C_ hw219_3 w') [] spec_l19Pieces.tab4 spec_l19Pieces.bits4 sp_ fun hHeld HT_ HW_ => ?_
     generalize wr.drew = w13 at HB HR216_1 HR218_1 HR219_1 hx216_0 hx216_1 hx216_2 hx216_3 hx218_0 hx218_1 hx218_2 hx218_3 hx219_0 hx219_1 hx219_2 hx219_3 hHeld ⊢
     refine a1_ 0 10 (h := a1_ 1 11 (h := a1_ 2 12 (h := ?_)))
     refine on_ 3 13 fun K hK => ?_
     refine go_ Try.func72 #[.pointer (some (ad216.add (x3_1.toNat * 4)))] ?_
     with_reducible refine (spec_l19Piece.calls k1 _ [rd_T53 l0 x3_1] true _ ?side1 A4.out).mono ?_
     (case side1 => refine Go.Proofs.YtakagkflgkoiiaaX.rp_elem (xs := l0) z53 x3_1 (of_eq_true p216) (of_eq_true q216) ?_; repeat (first | exact (Kd.C_below HR0.out HB.out) | (with_reducible refine Kd.C_alloc ?_ _) | (with_reducible refine Kd.C_drewN ?_ _) | (with_reducible refine Kd.C_drew ?_)))
     rintro e w14 ⟨rfl, hb⟩
     refine ⟨_, rfl, ?_⟩
     replace HB := mkA (below_step (bs0_ HB.out) hb)
     (try clear hb)
     (try clear hb2)
     (try clear hk)
     (try clear hi)
     refine hK.out _ _ sp_ fun hHeld => ?_
     clear hK K
     refine nm_ 13 ?_
     refine a1_ 4 14 (h := a1_ 5 15 (h := a1_ 6 16 (h := a1_ 7 17 (h := a1_ 8 18 (h := a1_ 9 19 (h := a1_ 10 20 (h := a1_ 11 21 (h := a1_ 12 22 (h := a1_ 13 23 (h := a1_ 15 25 (h := a1_ 16 26 (h := a1_ 17 27 (h := a1_ 18 28 (h := tk_ 14 24 (h := tk_ 19 29 (h := a1_ 20 30 (h := a1_ 21 31 (h := a1_ 22 32 (h := ?_)))))))))))))))))))
     refine dn_ ?_
     try go_wp2
     go_ret
     exact ⟨by first | rfl | (simp [errW_none, errW_some] <;> rfl) | (simp only [← hji7]; first | rfl | (simp [errW_none, errW_some] <;> rfl)) | (simp [*, errW_none, errW_some] <;> rfl), bs0_ HB.out⟩
   rw [if_pos c10] at H
   have c10b0 : (Op.bytesLess (((rd_T53 l0 (ji7)).f0).toList) (((rd_T53 l0 x3_1).f0).toList)) = true := c10
   clear c10
   have H' := mkA H
   clear H
   try go_wp2
   replace HB := mkA (below_drew1 HB.out)
   obtain ⟨ad216, A216_1, c216_1, e216, hw216_0, hw216_1, hw216_2, hw216_3, hl216_1, hi216_1⟩ := at_T53 HR0.out x3_1 dt_ dt_
   cases e216
   have HR216_1 := mkA hi216_1
   have HC216_1 := mkA hl216_1
   clear hi216_1 hl216_1
   obtain ⟨hx216_0, hx216_1, hx216_2, hx216_3⟩ := b4_ HB.out hw216_0 hw216_1 hw216_2 hw216_3
   have p216 : (0 ≤ (x3_1 : Int)) = True := eq_true dt_
   have q216 : (x3_1 < (l0.length : Int)) = True := eq_true dt_
   obtain ⟨ad218, A218_1, c218_1, e218, hw218_0, hw218_1, hw218_2, hw218_3, hl218_1, hi218_1⟩ := at_T53 HR0.out (ji7) dt_ dt_
   obtain rfl : ad216 = ad218 := (by injection e218)
   have HR218_1 := mkA hi218_1
   have HC218_1 := mkA hl218_1
   clear hi218_1 hl218_1
   obtain ⟨hx218_0, hx218_1, hx218_2, hx218_3⟩ := b4_ HB.out hw218_0 hw218_1 hw218_2 hw218_3
   have p218 : (0 ≤ ((ji7) : Int)) = True := eq_true dt_
   have q218 : ((ji7) < (l0.length : Int)) = True := eq_true dt_
   obtain ⟨ad219, A219_1, c219_1, e219, hw219_0, hw219_1, hw219_2, hw219_3, hl219_1, hi219_1⟩ := at_T53 HR0.out x3_1 dt_ dt_
   obtain rfl : ad216 = ad219 := (by injection e219)
   have HR219_1 := mkA hi219_1
   have HC219_1 := mkA hl219_1
   clear hi219_1 hl219_1
   obtain ⟨hx219_0, hx219_1, hx219_2, hx219_3⟩ := b4_ HB.out hw219_0 hw219_1 hw219_2 hw219_3
   have p219 : (0 ≤ (x3_1 : Int)) = True := eq_true dt_
   have q219 : (x3_1 < (l0.length : Int)) = True := eq_true dt_
   refine st_ 23 (fun w' => C_ hw216_0 w' ∧ C_ hw216_1 w' ∧ C_ hw216_2 w' ∧ C_ hw216_3 w' ∧ C_ hw218_0 w' ∧ C_ hw218_1 w' ∧ C_ hw218_2 w' ∧ C_ hw218_3 w' ∧ C_ hw219_0 w' ∧ C_ hw219_1 w' ∧ C_ hw219_2 w' ∧ C_ hw219_3 w') [] spec_l19Pieces.tab4 spec_l19Pieces.bits4 sp_ fun hHeld HT_ HW_ => ?_
   generalize wr.drew = w11 at HB HR216_1 HR218_1 HR219_1 hx216_0 hx216_1 hx216_2 hx216_3 hx218_0 hx218_1 hx218_2 hx218_3 hx219_0 hx219_1 hx219_2 hx219_3 hHeld ⊢
   refine a1_ 0 10 (h := a1_ 1 11 (h := a1_ 2 12 (h := ?_)))
   refine on_ 3 13 fun K hK => ?_
   refine go_ Try.func72 #[.pointer (some (ad216.add (x3_1.toNat * 4)))] ?_
   with_reducible refine (spec_l19Piece.calls k1 _ [rd_T53 l0 x3_1] true _ ?side1 A4.out).mono ?_
   (case side1 => refine Go.Proofs.YtakagkflgkoiiaaX.rp_elem (xs := l0) z53 x3_1 (of_eq_true p216) (of_eq_true q216) ?_; repeat (first | exact (Kd.C_below HR0.out HB.out) | (with_reducible refine Kd.C_alloc ?_ _) | (with_reducible refine Kd.C_drewN ?_ _) | (with_reducible refine Kd.C_drew ?_)))
   rintro e w12 ⟨rfl, hb⟩
   refine ⟨_, rfl, ?_⟩
   replace HB := mkA (below_step (bs0_ HB.out) hb)
   (try clear hb)
   (try clear hb2)
   (try clear hk)
   (try clear hi)
   refine hK.out _ _ sp_ fun hHeld => ?_
   clear hK K
   refine nm_ 13 ?_
   refine a1_ 4 14 (h := a1_ 5 15 (h := a1_ 6 16 (h := a1_ 7 17 (h := a1_ 8 18 (h := a1_ 9 19 (h := a1_ 10 20 (h := a1_ 11 21 (h := a1_ 12 22 (h := a1_ 13 23 (h := a1_ 15 25 (h := a1_ 16 26 (h := a1_ 17 27 (h := a1_ 18 28 (h := tk_ 14 24 (h := tk_ 19 29 (h := a1_ 20 30 (h := a1_ 21 31 (h := a1_ 22 32 (h := ?_)))))))))))))))))))
   refine dn_ ?_
   try go_wp2
   go_roundg k1
   case measure => have := HK1.out; omega
   case rel => exact ⟨(wrap64 (x3_1 + 1)), rf_, H', ⟨om_ HK1.out⟩, ⟨bs0_ HB.out⟩⟩
/-! ### spec_l03Equal: function 94 -/
def spec_l03Equal.l0 : Nat → List (S105) → List (S105) → Int → Option (Bool)
  | 0, _, _, _ => none
  | k + 1, x0, x1, x5 => if x5 < (x0.length : Int) then (if 0 ≤ x5 then (if x5 < (x1.length : Int) then (if (!(((rd_T105 x0 x5).f0) == ((rd_T105 x1 x5).f0)) || (!(((rd_T105 x0 x5).f1) == ((rd_T105 x1 x5).f1)))) = true then (some false) else (spec_l03Equal.l0 k x0 x1 (wrap64 (x5 + 1)))) else (none)) else (none)) else (some true)
def spec_l03Equal.f (k : Nat) (l0 : List (S105)) (l1 : List (S105)) : Option (Bool) := if (l0.length : Int) = (l1.length : Int) then (spec_l03Equal.l0 k l0 l1 0) else (some false)
set_option maxHeartbeats 8000000 in
set_option maxRecDepth 100000 in
theorem spec_l03Equal.calls (k : Nat) (A0 : Option Addr) (c0 : Nat) (l0 : List (S105)) (A1 : Option Addr) (c1 : Nat) (l1 : List (S105)) (r : Bool) (w : World) (hr0 : Kd.C k105 w A0 l0.length l0) (hc0 : l0.length ≤ c0) (hr1 : Kd.C k105 w A1 l1.length l1) (hc1 : l1.length ≤ c1) (h : spec_l03Equal.f k l0 l1 = some r) :
    Calls Try.prog 94 #[.slice A0 l0.length c0, .slice A1 l1.length c1] w fun e w' => e = .returned (.bool r) ∧ Drawn0 w w' := by
 have hu105 := Try.underlying105
 have HR0 := mkA hr0
 have HC0 := mkA hc0
 clear hr0 hc0
 have HR1 := mkA hr1
 have HC1 := mkA hc1
 clear hr1 hc1
 unfold spec_l03Equal.f at h
 have H := h
 clear h
 by_cases c3 : (l0.length : Int) = (l1.length : Int)
 · rw [if_pos c3] at H
   have c3b0 : ((l0.length : Int) == (l1.length : Int)) = true := beq_iff_eq.mpr c3
   have c3b1 : ((l0.length : Int) != (l1.length : Int)) = false := bne_eq_false_iff_eq.mpr c3
   have c3b2 : (l0.length == l1.length) = true := by first | simpa using c3 | (simp at c3 ⊢; omega)
   clear c3
   have H' := mkA H
   clear H
   go_enter Try.func94, Try.ntmps94
   go_wp2
   repeat (go_quiet (fail); try go_wp2)
   go_loopg [5] k (fun kq v5 w' => ∃ (x5_1 : Int), v5 = .int .i64 x5_1 ∧ Aside0 (spec_l03Equal.l0 kq l0 l1 x5_1 = some r) ∧ Aside0 (kq ≤ k) ∧ Drawn0 w w')
   case atStart => exact ⟨(0), rf_, H', ⟨Nat.le_refl _⟩, by repeat (first | exact Drawn0.refl _ | apply Drawn0.step)⟩
   case round =>
    clear H'
    try clear c3 c3b0 c3b1 c3b2
    obtain ⟨x5_1, rfl, HA, HK1, ⟨m1, rfl⟩⟩ := hrel
    cases gk with
    | zero => exact absurd HA.out (by simp [spec_l03Equal.l0])
    | succ k1 =>
     have H := HA.out
     clear HA
     simp only [spec_l03Equal.l0] at H
     by_cases c4 : x5_1 < (l0.length : Int)
     · rw [if_pos c4] at H
       have c4b0 := decide_eq_true c4
       clear c4
       by_cases c5 : 0 ≤ x5_1
       · rw [if_pos c5] at H
         have c5b0 := decide_eq_true c5
         clear c5
         by_cases c6 : x5_1 < (l1.length : Int)
         · rw [if_pos c6] at H
           have c6b0 := decide_eq_true c6
           clear c6
           by_cases c7 : (!(((rd_T105 l0 x5_1).f0) == ((rd_T105 l1 x5_1).f0)) || (!(((rd_T105 l0 x5_1).f1) == ((rd_T105 l1 x5_1).f1)))) = true
           · rw [if_pos c7] at H
             have c7b0 : (!(((rd_T105 l0 x5_1).f0) == ((rd_T105 l1 x5_1).f0)) || (!(((rd_T105 l0 x5_1).f1) == ((rd_T105 l1 x5_1).f1)))) = true := c7
             clear c7
             obtain rfl := Option.some.inj H
             have p220 : 0 ≤ (x5_1 : Int) := of_decide_eq_true (by first | (with_reducible assumption) | assumption)
             have q220 : x5_1 < (l0.length : Int) := of_decide_eq_true (by first | (with_reducible assumption) | assumption)
             obtain ⟨ad220, e220, hx220_0, hx220_1⟩ := at_T105 HR0.out x5_1 p220 q220
             cases e220
             replace p220 := eq_true p220
             replace q220 := eq_true q220
             have p221 : 0 ≤ (x5_1 : Int) := of_decide_eq_true (by first | (with_reducible assumption) | assumption)
             have q221 : x5_1 < (l1.length : Int) := of_decide_eq_true (by first | (with_reducible assumption) | assumption)
             obtain ⟨ad221, e221, hx221_0, hx221_1⟩ := at_T105 HR1.out x5_1 p221 q221
             cases e221
             replace p221 := eq_true p221
             replace q221 := eq_true q221
             go_wp2
             repeat (go_quiet (fail); try go_wp2)
             go_ret
             exact ⟨by first | rfl | (simp; done) | (simp [*]; done) | (simp [i64_w, i32_w]; done), by repeat (first | exact Drawn0.refl _ | apply Drawn0.step)⟩
           · rw [if_neg c7] at H
             have c7b0 : (!(((rd_T105 l0 x5_1).f0) == ((rd_T105 l1 x5_1).f0)) || (!(((rd_T105 l0 x5_1).f1) == ((rd_T105 l1 x5_1).f1)))) = false := by simpa using c7
             clear c7
             have H' := mkA H
             clear H
             have p220 : 0 ≤ (x5_1 : Int) := of_decide_eq_true (by first | (with_reducible assumption) | assumption)
             have q220 : x5_1 < (l0.length : Int) := of_decide_eq_true (by first | (with_reducible assumption) | assumption)
             obtain ⟨ad220, e220, hx220_0, hx220_1⟩ := at_T105 HR0.out x5_1 p220 q220
             cases e220
             replace p220 := eq_true p220
             replace q220 := eq_true q220
             have p221 : 0 ≤ (x5_1 : Int) := of_decide_eq_true (by first | (with_reducible assumption) | assumption)
             have q221 : x5_1 < (l1.length : Int) := of_decide_eq_true (by first | (with_reducible assumption) | assumption)
             obtain ⟨ad221, e221, hx221_0, hx221_1⟩ := at_T105 HR1.out x5_1 p221 q221
             cases e221
             replace p221 := eq_true p221
             replace q221 := eq_true q221
             go_wp2
             repeat (go_quiet (fail); try go_wp2)
             go_roundg k1
             case measure => have := HK1.out; omega
             case rel => exact ⟨(wrap64 (x5_1 + 1)), rf_, H', ⟨om_ HK1.out⟩, by repeat (first | exact Drawn0.refl _ | apply Drawn0.step)⟩
         · rw [if_neg c6] at H
           exact absurd H (by simp)
       · rw [if_neg c5] at H
         exact absurd H (by simp)
     · rw [if_neg c4] at H
       have c4b0 := decide_eq_false c4
       clear c4
       obtain rfl := Option.some.inj H
       go_wp2
       repeat (go_quiet (fail); try go_wp2)
       go_ret
       exact ⟨by first | rfl | (simp; done) | (simp [*]; done) | (simp [i64_w, i32_w]; done), by repeat (first | exact Drawn0.refl _ | apply Drawn0.step)⟩
 · rw [if_neg c3] at H
   have c3b0 : ((l0.length : Int) == (l1.length : Int)) = false := beq_eq_false_iff_ne.mpr c3
   have c3b1 : ((l0.length : Int) != (l1.length : Int)) = true := bne_iff_ne.mpr c3
   have c3b2 : (l0.length == l1.length) = false := by first | simpa using c3 | (simp at c3 ⊢; omega)
   obtain rfl := Option.some.inj H
   go_enter Try.func94, Try.ntmps94
   go_wp2
   repeat (go_quiet (fail); try go_wp2)
   go_ret
   exact ⟨by first | rfl | (simp; done) | (simp [*]; done) | (simp [i64_w, i32_w]; done), by repeat (first | exact Drawn0.refl _ | apply Drawn0.step)⟩
/-! ### spec_l02Turned: function 110 -/
mutual
def spec_l02Turned.j0 : Nat → Int → Int → Int → Option (Int × Int)
  | 0, _, _, _ => none
  | k + 1, x1, x223000, x223001 => spec_l02Turned.l0 k (Int.tmod x1 4) x223000 x223001
def spec_l02Turned.l0 : Nat → Int → Int → Int → Option (Int × Int)
  | 0, _, _, _ => none
  | k + 1, x5, x223000, x223001 => if x5 > 0 then (spec_l02Turned.l0 k (wrap64 (x5 - 1)) (wrap64 (-x223001)) x223000) else (some (x223000, x223001))
end
def spec_l02Turned.f (k : Nat) (a0_0 : Int) (a0_1 : Int) (a1 : Int) : Option (Int × Int) := if a1 ≥ 4 then (spec_l02Turned.j0 k a1 (wrap64 (-a0_0)) a0_1) else (spec_l02Turned.j0 k a1 a0_0 a0_1)
set_option maxHeartbeats 8000000 in
set_option maxRecDepth 100000 in
theorem spec_l02Turned.calls (k : Nat) (a0_0 : Int) (a0_1 : Int) (a1 : Int) (r1 : Int) (r2 : Int) (w : World) (h : spec_l02Turned.f k a0_0 a0_1 a1 = some (r1, r2)) :
    Calls Try.prog 110 #[.agg #[.int .i64 a0_0, .int .i64 a0_1], .int .i64 a1] w fun e w' => e = .returned (.agg #[.int .i64 r1, .int .i64 r2]) ∧ Below w.heap.size w w' := by
 have hu105 := Try.underlying105
 have HB := mkA (Below.refl w.heap.size w)
 unfold spec_l02Turned.f at h
 have H := h
 clear h
 have HC3 := mkA H
 clear H
 go_enter Try.func110, Try.ntmps110
 go_upto_if 7 with (first | ((with_reducible refine gt_ 2 ?_); refine bx_ 2 #[.int .i64 a0_0, .int .i64 a0_1] 105 fun gb222 hg w4 hbox hb => ?_; have BK222 := mkA (hbox); have GW222 := gs_ hg (bs0_ HB.out); have GE222 := GW222; replace HB := mkA (below_step (bs0_ HB.out) hb); clear hb hbox hg) | ((with_reducible refine gt_ 4 ?_); refine bx_ 4 #[.int .i64 0, .int .i64 0] 105 fun gb223 hg w5 hbox hb => ?_; have BK223 := mkA (hbox); have GW223 := gs_ hg (bs1_ HB.out GE222.out); have GE223 := GW223; replace HB := mkA (below_step (bs1_ HB.out GE222.out) hb); have NB222_223 := nl_ hg (bl_ BK222.out); have NB223_222 := nr_ hg (bl_ BK222.out); replace BK222 := mkA (blk_below (bl_ BK222.out) hb); clear hb hbox hg))
 (try simp only [Act.put, sA, sB, sC])
 go_cut [] (fun wc => ∃ (kq : Nat) (x223000_2 : Int) (x223001_2 : Int), Aside0 (spec_l02Turned.j0 kq a1 x223000_2 x223001_2 = some (r1, r2)) ∧ Aside0 (kq ≤ k) ∧ Aside0 (wc.heap[gb222]? = some (.cells #[.int .i64 x223000_2, .int .i64 x223001_2] 105 (0, 0))) ∧ Aside0 (wc.heap[gb223]? = some (.cells #[.int .i64 0, .int .i64 0] 105 (0, 0))) ∧ Aside0 (Below w.heap.size w wc))
 case first =>
  have H := HC3.out
  clear HC3
  by_cases c6 : a1 ≥ 4
  · rw [if_pos c6] at H
    have c6b0 := decide_eq_true c6
    clear c6
    (first | rw [c6b0] | (simp only [i64_w, i32_w]; rw [c6b0]) | skip)
    have H' := mkA H
    clear H
    have hnb7 := NB222_223.out
    have hnc7 := NB223_222.out
    obtain ⟨hcz8_0, hcz8_1, hfz8_0, hfz8_1⟩ := z2_ BK222.out
    go_wp2
    go_meet
    case rel => exact ⟨_, (wrap64 (-a0_0)), (a0_1), H', ⟨by first | omega | exact Nat.le_refl _⟩, ⟨by refine bl_ ?_; refine blk_put (cs := #[.int .i64 (wrap64 (-a0_0)), .int .i64 a0_1]) ?_ 1 _ rfl; refine bl_ ?_; refine blk_put (cs := #[.int .i64 a0_0, .int .i64 a0_1]) ?_ 0 _ rfl; refine bl_ ?_; exact BK222.out⟩, ⟨by refine bl_ ?_; refine blk_far ?_ NB223_222.out _; refine bl_ ?_; refine blk_far ?_ NB223_222.out _; refine bl_ ?_; exact BK223.out⟩, ⟨bs2_ HB.out GE222.out GE223.out⟩⟩
  · rw [if_neg c6] at H
    have c6b0 := decide_eq_false c6
    clear c6
    (first | rw [c6b0] | (simp only [i64_w, i32_w]; rw [c6b0]) | skip)
    have H' := mkA H
    clear H
    go_wp2
    go_meet
    case rel => exact ⟨_, (a0_0), (a0_1), H', ⟨by first | omega | exact Nat.le_refl _⟩, ⟨bl_ BK222.out⟩, ⟨bl_ BK223.out⟩, ⟨bs2_ HB.out GE222.out GE223.out⟩⟩
 case rest =>
  clear HC3
  try clear c6 c6b0
  try clear hcz8_0 hcz8_1
  try clear hfz8_0 hfz8_1
  obtain ⟨kq, x223000_2, x223001_2, HA, HJ2, BK222, BK223, HB⟩ := hcut
  cases kq with
  | zero => exact absurd HA.out (by simp [spec_l02Turned.j0])
  | succ kj2 =>
   have H := HA.out
   clear HA
   simp only [spec_l02Turned.j0] at H
   have H' := mkA H
   clear H
   go_wp2
   go_loopg [5] kj2 (fun kq v5 w' => ∃ (x5_2 : Int) (x223000_2 : Int) (x223001_2 : Int), v5 = .int .i64 x5_2 ∧ Aside0 (spec_l02Turned.l0 kq x5_2 x223000_2 x223001_2 = some (r1, r2)) ∧ Aside0 (kq ≤ kj2) ∧ Aside0 (w'.heap[gb222]? = some (.cells #[.int .i64 x223000_2, .int .i64 x223001_2] 105 (0, 0))) ∧ Aside0 (w'.heap[gb223]? = some (.cells #[.int .i64 0, .int .i64 0] 105 (0, 0))) ∧ Aside0 (Below w.heap.size w w'))
   case atStart => exact ⟨(Int.tmod a1 4), (x223000_2), (x223001_2), rf_, H', ⟨Nat.le_refl _⟩, ⟨bl_ BK222.out⟩, ⟨bl_ BK223.out⟩, ⟨bs2_ HB.out GE222.out GE223.out⟩⟩
   case round =>
    clear H'
    try clear c6 c6b0
    try clear hcz8_0 hcz8_1
    try clear hfz8_0 hfz8_1
    obtain ⟨x5_2, x223000_2, x223001_2, rfl, HA, HK2, BK222, BK223, HB⟩ := hrel
    cases gk with
    | zero => exact absurd HA.out (by simp [spec_l02Turned.l0])
    | succ k2 =>
     have H := HA.out
     clear HA
     simp only [spec_l02Turned.l0] at H
     by_cases c9 : x5_2 > 0
     · rw [if_pos c9] at H
       have c9b0 := decide_eq_true c9
       clear c9
       have H' := mkA H
       clear H
       have hnb10 := NB222_223.out
       have hnc10 := NB223_222.out
       obtain ⟨hcz11_0, hcz11_1, hfz11_0, hfz11_1⟩ := z2_ BK222.out
       go_wp2
       go_roundg k2
       case measure => have := HJ2.out; have := HK2.out; omega
       case rel => exact ⟨(wrap64 (x5_2 - 1)), (wrap64 (-x223001_2)), (x223000_2), rf_, H', ⟨on2_ HJ2.out HK2.out⟩, ⟨by refine bl_ ?_; refine blk_put (cs := #[.int .i64 (wrap64 (-x223001_2)), .int .i64 x223001_2]) ?_ 1 _ rfl; refine bl_ ?_; refine blk_put (cs := #[.int .i64 x223000_2, .int .i64 x223001_2]) ?_ 0 _ rfl; refine bl_ ?_; exact BK222.out⟩, ⟨by refine bl_ ?_; refine blk_far ?_ NB223_222.out _; refine bl_ ?_; refine blk_far ?_ NB223_222.out _; refine bl_ ?_; exact BK223.out⟩, ⟨bs2_ HB.out GE222.out GE223.out⟩⟩
     · rw [if_neg c9] at H
       have c9b0 := decide_eq_false c9
       clear c9
       simp only [Option.some.injEq, Prod.mk.injEq] at H
       obtain ⟨rfl, rfl⟩ := H
       have hnb12 := NB222_223.out
       have hnc12 := NB223_222.out
       obtain ⟨hcz13_0, hcz13_1, hfz13_0, hfz13_1⟩ := z2_ BK222.out
       obtain ⟨hcz14_0, hcz14_1, hfz14_0, hfz14_1⟩ := z2_ BK223.out
       go_wp2
       refine bodyPost_ret (results_cell_row rfl _ _ gb223 105 #[.int .i64 x223000_2, .int .i64 x223001_2] (0, 0) _ rfl (by refine bl_ ?_; refine blk_put (cs := #[.int .i64 x223000_2, .int .i64 0]) ?_ 1 _ rfl; refine bl_ ?_; refine blk_put (cs := #[.int .i64 0, .int .i64 0]) ?_ 0 _ rfl; refine bl_ ?_; exact BK223.out) Try.underlying105 rfl (by kernel_rfl)) rfl ?_
       exact ⟨re_, bs2_ HB.out GE222.out GE223.out⟩
end Go.Proofs.Ytakagkflgkoiiaa.GFnExactFirstUncovered

-- Written by the session's own program (gen.py) out of the translation's print. Lean checks it.
import Derived.Test.YtakagkflgkoiiaaQ
import Derived.Test.YtakagkflgkoiiaaGFnExactIsCoverx0
import Derived.Test.YtakagkflgkoiiaaGFnExactIsCoverx1
import Derived.Test.YtakagkflgkoiiaaGFnExactIsCoverx9
namespace Go.Proofs.Ytakagkflgkoiiaa.GFnExactIsCover
open Go.RowKit Go.Proofs.YtakagkflgkoiiaaW.PrintWords Go.Proofs.YtakagkflgkoiiaaW.PrintLast Go.Proofs.YtakagkflgkoiiaaW.PrintMore
open List renaming setIfInBounds_toArray → sA, set_cons_zero → sB, set_cons_succ → sC
open Go.Proofs.YtakagkflgkoiiaaW.PrintWords.Aside0 renaming mk → mkA
open Go.Proofs.YtakagkflgkoiiaaX (dt_ bc_ p0_ p1_ bl_ cb_ bs0_ bs1_ bs2_ bs3_ bs4_ bs5_ bs6_ bs7_ bs8_ bs9_ bs10_ bs11_ bs12_)
open Go.Proofs.YtakagkflgkoiiaaQ
attribute [local go_sem] max2_int min2_int max_two min_two max_three min_three max_four min_four 
set_option linter.unusedVariables false
set_option linter.unusedSimpArgs false

attribute [local go_sem high] eqA105
/-! ### spec_l19Pieces: function 69 -/
def spec_l19Pieces.l0 : Nat → List (S53) → Int → Option (Bool)
  | 0, _, _ => none
  | k + 1, x0, x3 => if x3 < (x0.length : Int) then (if 0 ≤ x3 then ((spec_l19Piece.f k [rd_T53 x0 x3]).bind fun t234 => (if t234 = true then (if x3 > 0 then (if 0 ≤ (wrap64 (x3 - 1)) then (if (wrap64 (x3 - 1)) < (x0.length : Int) then (if ((Op.bytesLess (((rd_T53 x0 (wrap64 (x3 - 1))).f0).toList) (((rd_T53 x0 x3).f0).toList)) = true) then (spec_l19Pieces.l0 k x0 (wrap64 (x3 + 1))) else (some false)) else (none)) else (none)) else (spec_l19Pieces.l0 k x0 (wrap64 (x3 + 1)))) else (some false))) else (none)) else (some (decide ((x0.length : Int) ≤ 8)))
def spec_l19Pieces.f (k : Nat) (l0 : List (S53)) : Option (Bool) := spec_l19Pieces.l0 k l0 0
def spec_l19Pieces.T4 : Bool × List (List Nat × List Nat) := (true, [([], []), ([], []), ([0, 1], [0, 1]), ([2], [2]), ([3], [3]), ([4, 3], [4]), ([5], [5]), ([6, 5], [5, 6]), ([7, 5, 5], [5, 7]), ([8], [8]), ([8], [8]), ([10, 8], [8, 10]), ([9, 11, 8], [8, 9, 11]), ([12, 8], [8, 12]), ([13, 8], [8, 13]), ([8], [8]), ([8], [8]), ([15, 16, 8], [8, 15, 16]), ([17, 8], [8, 17]), ([18, 8], [8, 18]), ([14, 19, 8], [8, 14, 19]), ([8, 20, 5], [5, 8, 20]), ([5, 21], [5, 21])])
def spec_l19Pieces.B4 : List Nat := [0, 0, 3, 7, 15, 31, 63, 127, 255, 511, 511, 1535, 4095, 8191, 16383, 511, 511, 98815, 229887, 492031, 1048575, 2097151, 4194303]
theorem spec_l19Pieces.tab4 : rtab .any (opsOf Try.f69 4) = spec_l19Pieces.T4 := by kernel_rfl
theorem spec_l19Pieces.bits4 : waitsOk spec_l19Pieces.T4.2 spec_l19Pieces.B4 = true := by kernel_rfl
set_option maxHeartbeats 8000000 in
set_option maxRecDepth 100000 in
theorem spec_l19Pieces.calls (k : Nat) (A0 : Option Addr) (c0 : Nat) (l0 : List (S53)) (r : Bool) (w : World) (hr0 : Kd.C k53 w A0 l0.length l0) (hc0 : l0.length ≤ c0) (h : spec_l19Pieces.f k l0 = some r) :
 Calls Try.prog 69 #[.slice A0 l0.length c0] w fun e w' => e = .returned (.bool r) ∧ Below w.heap.size w w' := by
 have HR0 := mkA hr0
 have HC0 := mkA hc0
 clear hr0 hc0
 have HB := mkA (Below.refl w.heap.size w)
 unfold spec_l19Pieces.f at h
 have H := h
 clear h
 have H' := mkA H
 clear H
 go_enter Try.func69, Try.ntmps69
 go_wp2
 go_loopg [3] k (fun kq v3 w' => ∃ (x3_1 : Int), v3 = .int .i64 x3_1 ∧ Aside0 (spec_l19Pieces.l0 kq l0 x3_1 = some r) ∧ Aside0 (kq ≤ k) ∧ Aside0 (Below w.heap.size w w'))
 case atStart => exact ⟨(0), rf_, H', ⟨Nat.le_refl _⟩, ⟨bs0_ HB.out⟩⟩
 case round =>
  clear H'
  obtain ⟨x3_1, rfl, HA, HK1, HB⟩ := hrel
  cases gk with
  | zero => exact absurd HA.out (by simp [spec_l19Pieces.l0])
  | succ k1 =>
   have H := HA.out
   clear HA
   simp only [spec_l19Pieces.l0] at H
   by_cases c2 : x3_1 < (l0.length : Int)
   rotate_left
   · rw [if_neg c2] at H
     have c2b0 := decide_eq_false c2
     clear c2
     obtain rfl := Option.some.inj H
     go_wp2
     go_ret
     exact ⟨re_, bs0_ HB.out⟩
   rw [if_pos c2] at H
   have c2b0 := decide_eq_true c2
   clear c2
   revert H
   refine ng_ fun c3 => ob_ fun t234 A4 => ?_
   intro H
   have c3b0 := decide_eq_true c3
   clear c3
   by_cases c5 : t234 = true
   rotate_left
   · replace c5 := Bool.eq_false_iff.mpr c5
     subst c5
     rw [if_neg Bool.false_ne_true] at H
     obtain rfl := Option.some.inj H
     try go_wp2
     replace HB := mkA (below_drew1 HB.out)
     obtain ⟨ad233, A233_1, c233_1, e233, hw233_0, hw233_1, hw233_2, hw233_3, hl233_1, hi233_1⟩ := at_T53 HR0.out x3_1 dt_ dt_
     cases e233
     have HR233_1 := mkA hi233_1
     have HC233_1 := mkA hl233_1
     clear hi233_1 hl233_1
     obtain ⟨hx233_0, hx233_1, hx233_2, hx233_3⟩ := b4_ HB.out hw233_0 hw233_1 hw233_2 hw233_3
     have p233 : (0 ≤ (x3_1 : Int)) = True := eq_true dt_
     have q233 : (x3_1 < (l0.length : Int)) = True := eq_true dt_
     refine st_ 23 (fun w' => C_ hw233_0 w' ∧ C_ hw233_1 w' ∧ C_ hw233_2 w' ∧ C_ hw233_3 w') [] spec_l19Pieces.tab4 spec_l19Pieces.bits4 sp_ fun hHeld HT_ HW_ => ?_
     generalize wr.drew = w17 at HB HR233_1 hx233_0 hx233_1 hx233_2 hx233_3 hHeld ⊢
     refine a1_ 0 10 (h := a1_ 1 11 (h := a1_ 2 12 (h := ?_)))
     refine on_ 3 13 fun K hK => ?_
     refine go_ Try.func72 #[.pointer (some (ad233.add (x3_1.toNat * 4)))] ?_
     with_reducible refine (spec_l19Piece.calls k1 _ [rd_T53 l0 x3_1] false _ ?side1 A4.out).mono ?_
     (case side1 => refine Go.Proofs.YtakagkflgkoiiaaX.rp_elem (xs := l0) z53 x3_1 (of_eq_true p233) (of_eq_true q233) ?_; repeat (first | exact (Kd.C_below HR0.out HB.out) | (with_reducible refine Kd.C_alloc ?_ _) | (with_reducible refine Kd.C_drewN ?_ _) | (with_reducible refine Kd.C_drew ?_)))
     rintro e w18 ⟨rfl, hb⟩
     refine ⟨_, rfl, ?_⟩
     replace HB := mkA (below_step (bs0_ HB.out) hb)
     (try clear hb)
     (try clear hb2)
     (try clear hk)
     (try clear hi)
     refine hK.out _ _ sp_ fun hHeld => ?_
     clear hK K
     refine nm_ 13 ?_
     refine a1_ 4 14 (h := a1_ 5 15 (h := a0_ 6 16 (h := a0_ 7 17 (h := a0_ 8 18 (h := a0_ 9 19 (h := a0_ 10 20 (h := a0_ 11 21 (h := a0_ 12 22 (h := a0_ 13 23 (h := a0_ 14 24 (h := a0_ 15 25 (h := a0_ 16 26 (h := a0_ 17 27 (h := a0_ 18 28 (h := a0_ 19 29 (h := a0_ 20 30 (h := a0_ 21 31 (h := a1_ 22 32 (h := ?_)))))))))))))))))))
     refine dn_ ?_
     try go_wp2
     go_ret
     exact ⟨re_, bs0_ HB.out⟩
   subst c5
   rw [if_pos rfl] at H
   by_cases c6 : x3_1 > 0
   rotate_left
   · rw [if_neg c6] at H
     have c6b0 := decide_eq_false c6
     clear c6
     have H' := mkA H
     clear H
     try go_wp2
     replace HB := mkA (below_drew1 HB.out)
     obtain ⟨ad233, A233_1, c233_1, e233, hw233_0, hw233_1, hw233_2, hw233_3, hl233_1, hi233_1⟩ := at_T53 HR0.out x3_1 dt_ dt_
     cases e233
     have HR233_1 := mkA hi233_1
     have HC233_1 := mkA hl233_1
     clear hi233_1 hl233_1
     obtain ⟨hx233_0, hx233_1, hx233_2, hx233_3⟩ := b4_ HB.out hw233_0 hw233_1 hw233_2 hw233_3
     have p233 : (0 ≤ (x3_1 : Int)) = True := eq_true dt_
     have q233 : (x3_1 < (l0.length : Int)) = True := eq_true dt_
     refine st_ 23 (fun w' => C_ hw233_0 w' ∧ C_ hw233_1 w' ∧ C_ hw233_2 w' ∧ C_ hw233_3 w') [] spec_l19Pieces.tab4 spec_l19Pieces.bits4 sp_ fun hHeld HT_ HW_ => ?_
     generalize wr.drew = w15 at HB HR233_1 hx233_0 hx233_1 hx233_2 hx233_3 hHeld ⊢
     refine a1_ 0 10 (h := a1_ 1 11 (h := a1_ 2 12 (h := ?_)))
     refine on_ 3 13 fun K hK => ?_
     refine go_ Try.func72 #[.pointer (some (ad233.add (x3_1.toNat * 4)))] ?_
     with_reducible refine (spec_l19Piece.calls k1 _ [rd_T53 l0 x3_1] true _ ?side1 A4.out).mono ?_
     (case side1 => refine Go.Proofs.YtakagkflgkoiiaaX.rp_elem (xs := l0) z53 x3_1 (of_eq_true p233) (of_eq_true q233) ?_; repeat (first | exact (Kd.C_below HR0.out HB.out) | (with_reducible refine Kd.C_alloc ?_ _) | (with_reducible refine Kd.C_drewN ?_ _) | (with_reducible refine Kd.C_drew ?_)))
     rintro e w16 ⟨rfl, hb⟩
     refine ⟨_, rfl, ?_⟩
     replace HB := mkA (below_step (bs0_ HB.out) hb)
     (try clear hb)
     (try clear hb2)
     (try clear hk)
     (try clear hi)
     refine hK.out _ _ sp_ fun hHeld => ?_
     clear hK K
     refine nm_ 13 ?_
     refine a1_ 4 14 (h := a1_ 5 15 (h := a1_ 6 16 (h := a1_ 7 17 (h := a1_ 8 18 (h := a0_ 9 19 (h := a0_ 10 20 (h := a0_ 11 21 (h := a0_ 12 22 (h := a0_ 13 23 (h := a0_ 14 24 (h := a0_ 15 25 (h := a0_ 16 26 (h := a0_ 17 27 (h := a0_ 18 28 (h := a0_ 19 29 (h := a0_ 20 30 (h := a1_ 21 31 (h := a1_ 22 32 (h := ?_)))))))))))))))))))
     refine dn_ ?_
     try go_wp2
     go_roundg k1
     case measure => have := HK1.out; omega
     case rel => exact ⟨(wrap64 (x3_1 + 1)), rf_, H', ⟨om_ HK1.out⟩, ⟨bs0_ HB.out⟩⟩
   rw [if_pos c6] at H
   have c6b0 := decide_eq_true c6
   clear c6
   obtain ⟨ji7, hji7⟩ : ∃ j_ : Int, (wrap64 (x3_1 - 1)) = j_ := ⟨_, rfl⟩
   replace H : (if 0 ≤ (ji7) then (if (ji7) < (l0.length : Int) then (if ((Op.bytesLess (((rd_T53 l0 (ji7)).f0).toList) (((rd_T53 l0 x3_1).f0).toList)) = true) then (spec_l19Pieces.l0 k1 l0 (wrap64 (x3_1 + 1))) else (some false)) else (none)) else (none)) = some r := by first | (rw [hji7] at H; exact H) | (simp only [hji7] at H ⊢; exact H)
   (try rw [hji7] at A4)
   have hji7w : (IntKind.i64.wrap (x3_1 - 1)) = ji7 := (i64_w _).trans hji7
   revert H
   refine ng_ fun c8 => ng_ fun c9 => ?_
   intro H
   have c8b0 := decide_eq_true c8
   clear c8
   have c9b0 := decide_eq_true c9
   clear c9
   by_cases c10 : ((Op.bytesLess (((rd_T53 l0 (ji7)).f0).toList) (((rd_T53 l0 x3_1).f0).toList)) = true)
   rotate_left
   · rw [if_neg c10] at H
     have c10b0 : (Op.bytesLess (((rd_T53 l0 (ji7)).f0).toList) (((rd_T53 l0 x3_1).f0).toList)) = false := by simpa using c10
     clear c10
     obtain rfl := Option.some.inj H
     try go_wp2
     replace HB := mkA (below_drew1 HB.out)
     obtain ⟨ad233, A233_1, c233_1, e233, hw233_0, hw233_1, hw233_2, hw233_3, hl233_1, hi233_1⟩ := at_T53 HR0.out x3_1 dt_ dt_
     cases e233
     have HR233_1 := mkA hi233_1
     have HC233_1 := mkA hl233_1
     clear hi233_1 hl233_1
     obtain ⟨hx233_0, hx233_1, hx233_2, hx233_3⟩ := b4_ HB.out hw233_0 hw233_1 hw233_2 hw233_3
     have p233 : (0 ≤ (x3_1 : Int)) = True := eq_true dt_
     have q233 : (x3_1 < (l0.length : Int)) = True := eq_true dt_
     obtain ⟨ad235, A235_1, c235_1, e235, hw235_0, hw235_1, hw235_2, hw235_3, hl235_1, hi235_1⟩ := at_T53 HR0.out (ji7) dt_ dt_
     obtain rfl : ad233 = ad235 := (by injection e235)
     have HR235_1 := mkA hi235_1
     have HC235_1 := mkA hl235_1
     clear hi235_1 hl235_1
     obtain ⟨hx235_0, hx235_1, hx235_2, hx235_3⟩ := b4_ HB.out hw235_0 hw235_1 hw235_2 hw235_3
     have p235 : (0 ≤ ((ji7) : Int)) = True := eq_true dt_
     have q235 : ((ji7) < (l0.length : Int)) = True := eq_true dt_
     obtain ⟨ad236, A236_1, c236_1, e236, hw236_0, hw236_1, hw236_2, hw236_3, hl236_1, hi236_1⟩ := at_T53 HR0.out x3_1 dt_ dt_
     obtain rfl : ad233 = ad236 := (by injection e236)
     have HR236_1 := mkA hi236_1
     have HC236_1 := mkA hl236_1
     clear hi236_1 hl236_1
     obtain ⟨hx236_0, hx236_1, hx236_2, hx236_3⟩ := b4_ HB.out hw236_0 hw236_1 hw236_2 hw236_3
     have p236 : (0 ≤ (x3_1 : Int)) = True := eq_true dt_
     have q236 : (x3_1 < (l0.length : Int)) = True := eq_true dt_
     refine st_ 23 (fun w' => C_ hw233_0 w' ∧ C_ hw233_1 w' ∧ C_ hw233_2 w' ∧ C_ hw233_3 w' ∧ C_ hw235_0 w' ∧ C_ hw235_1 w' ∧ C_ hw235_2 w' ∧ C_ hw235_3 w' ∧ C_ hw236_0 w' ∧ C_ hw236_1 w' ∧ C_ hw236_2 w' ∧ C_ hw236_3 w') [] spec_l19Pieces.tab4 spec_l19Pieces.bits4 sp_ fun hHeld HT_ HW_ => ?_
     generalize wr.drew = w13 at HB HR233_1 HR235_1 HR236_1 hx233_0 hx233_1 hx233_2 hx233_3 hx235_0 hx235_1 hx235_2 hx235_3 hx236_0 hx236_1 hx236_2 hx236_3 hHeld ⊢
     refine a1_ 0 10 (h := a1_ 1 11 (h := a1_ 2 12 (h := ?_)))
     refine on_ 3 13 fun K hK => ?_
     refine go_ Try.func72 #[.pointer (some (ad233.add (x3_1.toNat * 4)))] ?_
     with_reducible refine (spec_l19Piece.calls k1 _ [rd_T53 l0 x3_1] true _ ?side1 A4.out).mono ?_
     (case side1 => refine Go.Proofs.YtakagkflgkoiiaaX.rp_elem (xs := l0) z53 x3_1 (of_eq_true p233) (of_eq_true q233) ?_; repeat (first | exact (Kd.C_below HR0.out HB.out) | (with_reducible refine Kd.C_alloc ?_ _) | (with_reducible refine Kd.C_drewN ?_ _) | (with_reducible refine Kd.C_drew ?_)))
     rintro e w14 ⟨rfl, hb⟩
     refine ⟨_, rfl, ?_⟩
     replace HB := mkA (below_step (bs0_ HB.out) hb)
     (try clear hb)
     (try clear hb2)
     (try clear hk)
     (try clear hi)
     refine hK.out _ _ sp_ fun hHeld => ?_
     clear hK K
     refine nm_ 13 ?_
     refine a1_ 4 14 (h := a1_ 5 15 (h := a1_ 6 16 (h := a1_ 7 17 (h := a1_ 8 18 (h := a1_ 9 19 (h := a1_ 10 20 (h := a1_ 11 21 (h := a1_ 12 22 (h := a1_ 13 23 (h := a1_ 15 25 (h := a1_ 16 26 (h := a1_ 17 27 (h := a1_ 18 28 (h := tk_ 14 24 (h := tk_ 19 29 (h := a1_ 20 30 (h := a1_ 21 31 (h := a1_ 22 32 (h := ?_)))))))))))))))))))
     refine dn_ ?_
     try go_wp2
     go_ret
     exact ⟨by first | rfl | (simp [errW_none, errW_some] <;> rfl) | (simp only [← hji7]; first | rfl | (simp [errW_none, errW_some] <;> rfl)) | (simp [*, errW_none, errW_some] <;> rfl), bs0_ HB.out⟩
   rw [if_pos c10] at H
   have c10b0 : (Op.bytesLess (((rd_T53 l0 (ji7)).f0).toList) (((rd_T53 l0 x3_1).f0).toList)) = true := c10
   clear c10
   have H' := mkA H
   clear H
   try go_wp2
   replace HB := mkA (below_drew1 HB.out)
   obtain ⟨ad233, A233_1, c233_1, e233, hw233_0, hw233_1, hw233_2, hw233_3, hl233_1, hi233_1⟩ := at_T53 HR0.out x3_1 dt_ dt_
   cases e233
   have HR233_1 := mkA hi233_1
   have HC233_1 := mkA hl233_1
   clear hi233_1 hl233_1
   obtain ⟨hx233_0, hx233_1, hx233_2, hx233_3⟩ := b4_ HB.out hw233_0 hw233_1 hw233_2 hw233_3
   have p233 : (0 ≤ (x3_1 : Int)) = True := eq_true dt_
   have q233 : (x3_1 < (l0.length : Int)) = True := eq_true dt_
   obtain ⟨ad235, A235_1, c235_1, e235, hw235_0, hw235_1, hw235_2, hw235_3, hl235_1, hi235_1⟩ := at_T53 HR0.out (ji7) dt_ dt_
   obtain rfl : ad233 = ad235 := (by injection e235)
   have HR235_1 := mkA hi235_1
   have HC235_1 := mkA hl235_1
   clear hi235_1 hl235_1
   obtain ⟨hx235_0, hx235_1, hx235_2, hx235_3⟩ := b4_ HB.out hw235_0 hw235_1 hw235_2 hw235_3
   have p235 : (0 ≤ ((ji7) : Int)) = True := eq_true dt_
   have q235 : ((ji7) < (l0.length : Int)) = True := eq_true dt_
   obtain ⟨ad236, A236_1, c236_1, e236, hw236_0, hw236_1, hw236_2, hw236_3, hl236_1, hi236_1⟩ := at_T53 HR0.out x3_1 dt_ dt_
   obtain rfl : ad233 = ad236 := (by injection e236)
   have HR236_1 := mkA hi236_1
   have HC236_1 := mkA hl236_1
   clear hi236_1 hl236_1
   obtain ⟨hx236_0, hx236_1, hx236_2, hx236_3⟩ := b4_ HB.out hw236_0 hw236_1 hw236_2 hw236_3
   have p236 : (0 ≤ (x3_1 : Int)) = True := eq_true dt_
   have q236 : (x3_1 < (l0.length : Int)) = True := eq_true dt_
   refine st_ 23 (fun w' => C_ hw233_0 w' ∧ C_ hw233_1 w' ∧ C_ hw233_2 w' ∧ C_ hw233_3 w' ∧ C_ hw235_0 w' ∧ C_ hw235_1 w' ∧ C_ hw235_2 w' ∧ C_ hw235_3 w' ∧ C_ hw236_0 w' ∧ C_ hw236_1 w' ∧ C_ hw236_2 w' ∧ C_ hw236_3 w') [] spec_l19Pieces.tab4 spec_l19Pieces.bits4 sp_ fun hHeld HT_ HW_ => ?_
   generalize wr.drew = w11 at HB HR233_1 HR235_1 HR236_1 hx233_0 hx233_1 hx233_2 hx233_3 hx235_0 hx235_1 hx235_2 hx235_3 hx236_0 hx236_1 hx236_2 hx236_3 hHeld ⊢
   refine a1_ 0 10 (h := a1_ 1 11 (h := a1_ 2 12 (h := ?_)))
   refine on_ 3 13 fun K hK => ?_
   refine go_ Try.func72 #[.pointer (some (ad233.add (x3_1.toNat * 4)))] ?_
   with_reducible refine (spec_l19Piece.calls k1 _ [rd_T53 l0 x3_1] true _ ?side1 A4.out).mono ?_
   (case side1 => refine Go.Proofs.YtakagkflgkoiiaaX.rp_elem (xs := l0) z53 x3_1 (of_eq_true p233) (of_eq_true q233) ?_; repeat (first | exact (Kd.C_below HR0.out HB.out) | (with_reducible refine Kd.C_alloc ?_ _) | (with_reducible refine Kd.C_drewN ?_ _) | (with_reducible refine Kd.C_drew ?_)))
   rintro e w12 ⟨rfl, hb⟩
   refine ⟨_, rfl, ?_⟩
   replace HB := mkA (below_step (bs0_ HB.out) hb)
   (try clear hb)
   (try clear hb2)
   (try clear hk)
   (try clear hi)
   refine hK.out _ _ sp_ fun hHeld => ?_
   clear hK K
   refine nm_ 13 ?_
   refine a1_ 4 14 (h := a1_ 5 15 (h := a1_ 6 16 (h := a1_ 7 17 (h := a1_ 8 18 (h := a1_ 9 19 (h := a1_ 10 20 (h := a1_ 11 21 (h := a1_ 12 22 (h := a1_ 13 23 (h := a1_ 15 25 (h := a1_ 16 26 (h := a1_ 17 27 (h := a1_ 18 28 (h := tk_ 14 24 (h := tk_ 19 29 (h := a1_ 20 30 (h := a1_ 21 31 (h := a1_ 22 32 (h := ?_)))))))))))))))))))
   refine dn_ ?_
   try go_wp2
   go_roundg k1
   case measure => have := HK1.out; omega
   case rel => exact ⟨(wrap64 (x3_1 + 1)), rf_, H', ⟨om_ HK1.out⟩, ⟨bs0_ HB.out⟩⟩
/-! ### spec_l03Equal: function 94 -/
def spec_l03Equal.l0 : Nat → List (S105) → List (S105) → Int → Option (Bool)
  | 0, _, _, _ => none
  | k + 1, x0, x1, x5 => if x5 < (x0.length : Int) then (if 0 ≤ x5 then (if x5 < (x1.length : Int) then (if (!(((rd_T105 x0 x5).f0) == ((rd_T105 x1 x5).f0)) || (!(((rd_T105 x0 x5).f1) == ((rd_T105 x1 x5).f1)))) = true then (some false) else (spec_l03Equal.l0 k x0 x1 (wrap64 (x5 + 1)))) else (none)) else (none)) else (some true)
def spec_l03Equal.f (k : Nat) (l0 : List (S105)) (l1 : List (S105)) : Option (Bool) := if (l0.length : Int) = (l1.length : Int) then (spec_l03Equal.l0 k l0 l1 0) else (some false)
set_option maxHeartbeats 8000000 in
set_option maxRecDepth 100000 in
theorem spec_l03Equal.calls (k : Nat) (A0 : Option Addr) (c0 : Nat) (l0 : List (S105)) (A1 : Option Addr) (c1 : Nat) (l1 : List (S105)) (r : Bool) (w : World) (hr0 : Kd.C k105 w A0 l0.length l0) (hc0 : l0.length ≤ c0) (hr1 : Kd.C k105 w A1 l1.length l1) (hc1 : l1.length ≤ c1) (h : spec_l03Equal.f k l0 l1 = some r) :
 Calls Try.prog 94 #[.slice A0 l0.length c0, .slice A1 l1.length c1] w fun e w' => e = .returned (.bool r) ∧ Drawn0 w w' := by
 have hu105 := Try.underlying105
 have HR0 := mkA hr0
 have HC0 := mkA hc0
 clear hr0 hc0
 have HR1 := mkA hr1
 have HC1 := mkA hc1
 clear hr1 hc1
 unfold spec_l03Equal.f at h
 have H := h
 clear h
 by_cases c3 : (l0.length : Int) = (l1.length : Int)
 rotate_left
 · rw [if_neg c3] at H
   have c3b0 : ((l0.length : Int) == (l1.length : Int)) = false := beq_eq_false_iff_ne.mpr c3
   have c3b1 : ((l0.length : Int) != (l1.length : Int)) = true := bne_iff_ne.mpr c3
   have c3b2 : (l0.length == l1.length) = false := by first | simpa using c3 | (simp at c3 ⊢; omega)
   obtain rfl := Option.some.inj H
   go_enter Try.func94, Try.ntmps94
   go_wp2
   repeat (go_quiet (fail); try go_wp2)
   go_ret
   exact ⟨by first | rfl | (simp; done) | (simp [*]; done) | (simp [i64_w, i32_w]; done), by repeat (first | exact Drawn0.refl _ | apply Drawn0.step)⟩
 rw [if_pos c3] at H
 have c3b0 : ((l0.length : Int) == (l1.length : Int)) = true := beq_iff_eq.mpr c3
 have c3b1 : ((l0.length : Int) != (l1.length : Int)) = false := bne_eq_false_iff_eq.mpr c3
 have c3b2 : (l0.length == l1.length) = true := by first | simpa using c3 | (simp at c3 ⊢; omega)
 clear c3
 have H' := mkA H
 clear H
 go_enter Try.func94, Try.ntmps94
 go_wp2
 repeat (go_quiet (fail); try go_wp2)
 go_loopg [5] k (fun kq v5 w' => ∃ (x5_1 : Int), v5 = .int .i64 x5_1 ∧ Aside0 (spec_l03Equal.l0 kq l0 l1 x5_1 = some r) ∧ Aside0 (kq ≤ k) ∧ Drawn0 w w')
 case atStart => exact ⟨(0), rf_, H', ⟨Nat.le_refl _⟩, by repeat (first | exact Drawn0.refl _ | apply Drawn0.step)⟩
 case round =>
  clear H'
  try clear c3 c3b0 c3b1 c3b2
  obtain ⟨x5_1, rfl, HA, HK1, ⟨m1, rfl⟩⟩ := hrel
  cases gk with
  | zero => exact absurd HA.out (by simp [spec_l03Equal.l0])
  | succ k1 =>
   have H := HA.out
   clear HA
   simp only [spec_l03Equal.l0] at H
   by_cases c4 : x5_1 < (l0.length : Int)
   rotate_left
   · rw [if_neg c4] at H
     have c4b0 := decide_eq_false c4
     clear c4
     obtain rfl := Option.some.inj H
     go_wp2
     repeat (go_quiet (fail); try go_wp2)
     go_ret
     exact ⟨by first | rfl | (simp; done) | (simp [*]; done) | (simp [i64_w, i32_w]; done), by repeat (first | exact Drawn0.refl _ | apply Drawn0.step)⟩
   rw [if_pos c4] at H
   have c4b0 := decide_eq_true c4
   clear c4
   revert H
   refine ng_ fun c5 => ng_ fun c6 => ?_
   intro H
   have c5b0 := decide_eq_true c5
   clear c5
   have c6b0 := decide_eq_true c6
   clear c6
   by_cases c7 : (!(((rd_T105 l0 x5_1).f0) == ((rd_T105 l1 x5_1).f0)) || (!(((rd_T105 l0 x5_1).f1) == ((rd_T105 l1 x5_1).f1)))) = true
   · rw [if_pos c7] at H
     have c7b0 : (!(((rd_T105 l0 x5_1).f0) == ((rd_T105 l1 x5_1).f0)) || (!(((rd_T105 l0 x5_1).f1) == ((rd_T105 l1 x5_1).f1)))) = true := c7
     clear c7
     obtain rfl := Option.some.inj H
     obtain ⟨ad237, e237, hx237_0, hx237_1⟩ := at_T105 HR0.out x5_1 dt_ dt_
     cases e237
     have p237 : (0 ≤ (x5_1 : Int)) = True := eq_true dt_
     have q237 : (x5_1 < (l0.length : Int)) = True := eq_true dt_
     obtain ⟨ad238, e238, hx238_0, hx238_1⟩ := at_T105 HR1.out x5_1 dt_ dt_
     cases e238
     have p238 : (0 ≤ (x5_1 : Int)) = True := eq_true dt_
     have q238 : (x5_1 < (l1.length : Int)) = True := eq_true dt_
     go_wp2
     repeat (go_quiet (fail); try go_wp2)
     go_ret
     exact ⟨by first | rfl | (simp; done) | (simp [*]; done) | (simp [i64_w, i32_w]; done), by repeat (first | exact Drawn0.refl _ | apply Drawn0.step)⟩
   · rw [if_neg c7] at H
     have c7b0 : (!(((rd_T105 l0 x5_1).f0) == ((rd_T105 l1 x5_1).f0)) || (!(((rd_T105 l0 x5_1).f1) == ((rd_T105 l1 x5_1).f1)))) = false := by simpa using c7
     clear c7
     have H' := mkA H
     clear H
     obtain ⟨ad237, e237, hx237_0, hx237_1⟩ := at_T105 HR0.out x5_1 dt_ dt_
     cases e237
     have p237 : (0 ≤ (x5_1 : Int)) = True := eq_true dt_
     have q237 : (x5_1 < (l0.length : Int)) = True := eq_true dt_
     obtain ⟨ad238, e238, hx238_0, hx238_1⟩ := at_T105 HR1.out x5_1 dt_ dt_
     cases e238
     have p238 : (0 ≤ (x5_1 : Int)) = True := eq_true dt_
     have q238 : (x5_1 < (l1.length : Int)) = True := eq_true dt_
     go_wp2
     repeat (go_quiet (fail); try go_wp2)
     go_roundg k1
     case measure => have := HK1.out; omega
     case rel => exact ⟨(wrap64 (x5_1 + 1)), rf_, H', ⟨om_ HK1.out⟩, by repeat (first | exact Drawn0.refl _ | apply Drawn0.step)⟩
end Go.Proofs.Ytakagkflgkoiiaa.GFnExactIsCover

-- Written by the session's own program (gen.py) out of the translation's print. Lean checks it.
import Derived.Test.YtakagkflgkoiiaaQ
import Derived.Test.YtakagkflgkoiiaaGFnExactIsCoverx0
import Derived.Test.YtakagkflgkoiiaaGFnExactIsCoverx18
namespace Go.Proofs.Ytakagkflgkoiiaa.GFnExactIsCover
open Go.RowKit Go.Proofs.YtakagkflgkoiiaaW.PrintWords Go.Proofs.YtakagkflgkoiiaaW.PrintLast Go.Proofs.YtakagkflgkoiiaaW.PrintMore
open List renaming setIfInBounds_toArray → sA, set_cons_zero → sB, set_cons_succ → sC
open Go.Proofs.YtakagkflgkoiiaaW.PrintWords.Aside0 renaming mk → mkA
open Go.Proofs.YtakagkflgkoiiaaX (dt_ bc_ p0_ p1_ bl_ cb_ bs0_ bs1_ bs2_ bs3_ bs4_ bs5_ bs6_ bs7_ bs8_ bs9_ bs10_ bs11_ bs12_)
open Go.Proofs.YtakagkflgkoiiaaQ
attribute [local go_sem] max2_int min2_int max_two min_two max_three min_three max_four min_four 
set_option linter.unusedVariables false
set_option linter.unusedSimpArgs false

/-! ### impl_ValidPieces: function 31 -/
def impl_ValidPieces.l0 : Nat → List (S53) → List (S53) → Int → Int → Option (Bool)
  | 0, _, _, _, _ => none
  | k + 1, x0, x5, x6, x7 => if x7 < x6 then (if 0 ≤ x7 then (if x7 < (x5.length : Int) then ((impl_validPiece.f k ((rd_T53 x5 x7).f0) ((rd_T53 x5 x7).f1) ((rd_T53 x5 x7).f2) ((rd_T53 x5 x7).f3)).bind fun t429 => (if t429 = true then (if x7 > 0 then (if 0 ≤ (wrap64 (x7 - 1)) then (if (wrap64 (x7 - 1)) < (x0.length : Int) then (if ((Op.bytesLess (((rd_T53 x0 (wrap64 (x7 - 1))).f0).toList) (((rd_T53 x5 x7).f0).toList)) = true) then (impl_ValidPieces.l0 k x0 x5 x6 (wrap64 (x7 + 1))) else (some false)) else (none)) else (none)) else (impl_ValidPieces.l0 k x0 x5 x6 (wrap64 (x7 + 1)))) else (some false))) else (none)) else (none)) else (some (decide ((x0.length : Int) ≤ 8)))
def impl_ValidPieces.f (k : Nat) (l0 : List (S53)) : Option (Bool) := impl_ValidPieces.l0 k l0 l0 (l0.length : Int) 0
def impl_ValidPieces.T4 : Bool × List (List Nat × List Nat) := (true, [([], []), ([0], [0]), ([1], [1]), ([2, 1], [2]), ([3], [3]), ([4, 3], [3, 4]), ([5, 3, 3], [3, 5]), ([6], [6]), ([6], [6]), ([8, 6], [6, 8]), ([7, 9, 6], [6, 7, 9]), ([10, 6], [6, 10]), ([11, 6], [6, 11]), ([6], [6]), ([13, 6], [6, 13]), ([12, 14, 6], [6, 12, 14]), ([6, 15, 3], [3, 6, 15]), ([3, 16], [3, 16])])
def impl_ValidPieces.B4 : List Nat := [0, 1, 3, 7, 15, 31, 63, 127, 127, 383, 1023, 2047, 4095, 127, 8319, 32767, 65535, 131071]
theorem impl_ValidPieces.tab4 : rtab .any (opsOf Try.f31 4) = impl_ValidPieces.T4 := by kernel_rfl
theorem impl_ValidPieces.bits4 : waitsOk impl_ValidPieces.T4.2 impl_ValidPieces.B4 = true := by kernel_rfl
set_option maxHeartbeats 8000000 in
set_option maxRecDepth 100000 in
theorem impl_ValidPieces.calls (k : Nat) (A0 : Option Addr) (c0 : Nat) (l0 : List (S53)) (r : Bool) (w : World) (hr0 : Kd.C k53 w A0 l0.length l0) (hc0 : l0.length ≤ c0) (h : impl_ValidPieces.f k l0 = some r) :
 Calls Try.prog 31 #[.slice A0 l0.length c0] w fun e w' => e = .returned (.bool r) ∧ Below w.heap.size w w' := by
 have hu53 := Try.underlying53
 have HR0 := mkA hr0
 have HC0 := mkA hc0
 clear hr0 hc0
 have HB := mkA (Below.refl w.heap.size w)
 unfold impl_ValidPieces.f at h
 have H := h
 clear h
 have H' := mkA H
 clear H
 go_enter Try.func31, Try.ntmps31
 go_wp2
 go_loopg [7] k (fun kq v7 w' => ∃ (x7_1 : Int), v7 = .int .i64 x7_1 ∧ Aside0 (impl_ValidPieces.l0 kq l0 l0 (l0.length : Int) x7_1 = some r) ∧ Aside0 (kq ≤ k) ∧ Aside0 (Below w.heap.size w w'))
 case atStart => exact ⟨(0), rf_, H', ⟨Nat.le_refl _⟩, ⟨bs0_ HB.out⟩⟩
 case round =>
  clear H'
  obtain ⟨x7_1, rfl, HA, HK1, HB⟩ := hrel
  cases gk with
  | zero => exact absurd HA.out (by simp [impl_ValidPieces.l0])
  | succ k1 =>
   have H := HA.out
   clear HA
   simp only [impl_ValidPieces.l0] at H
   by_cases c2 : x7_1 < (l0.length : Int)
   rotate_left
   · rw [if_neg c2] at H
     have c2b0 := decide_eq_false c2
     clear c2
     obtain rfl := Option.some.inj H
     go_wp2
     go_ret
     exact ⟨re_, bs0_ HB.out⟩
   rw [if_pos c2] at H
   have c2b0 := decide_eq_true c2
   clear c2
   revert H
   refine ng_ fun c3 => ng_ fun c4 => ob_ fun t429 A5 => ?_
   intro H
   have c3b0 := decide_eq_true c3
   clear c3
   have c4b0 := decide_eq_true c4
   clear c4
   by_cases c6 : t429 = true
   rotate_left
   · replace c6 := Bool.eq_false_iff.mpr c6
     subst c6
     rw [if_neg Bool.false_ne_true] at H
     obtain rfl := Option.some.inj H
     obtain ⟨ad427, A427_1, c427_1, e427, hx427_0, hx427_1, hx427_2, hx427_3, hl427_1, hi427_1⟩ := at_T53 HR0.out x7_1 dt_ dt_
     cases e427
     have HR427_1 := mkA hi427_1
     have HC427_1 := mkA hl427_1
     clear hi427_1 hl427_1
     obtain ⟨hx427_0, hx427_1, hx427_2, hx427_3⟩ := b4_ HB.out hx427_0 hx427_1 hx427_2 hx427_3
     have p427 : (0 ≤ (x7_1 : Int)) = True := eq_true dt_
     have q427 : (x7_1 < (l0.length : Int)) = True := eq_true dt_
     try go_wp2_with (first | ((with_reducible refine gt_ 4 ?_); refine bx_ 4 #[.string (⟨#[]⟩ : ByteArray), .slice none 0 0, .int .i64 0, .bool false] 53 fun gb428 hg w27 hbox hb => ?_; have BK428 := mkA (hbox); have GW428 := gs_ hg (bs0_ HB.out); have GE428 := GW428; replace HB := mkA (below_step (bs0_ HB.out) hb); clear hb hbox hg; obtain ⟨hcz28_0, hcz28_1, hcz28_2, hcz28_3, hfz28_0, hfz28_1, hfz28_2, hfz28_3⟩ := z4_ BK428.out))
     have n0_ : Aside0 (((((w27.setCell ⟨gb428, 0, none⟩ (.string ((rd_T53 l0 x7_1).f0))).setCell ⟨gb428, 1, none⟩ (.slice A427_1 ((rd_T53 l0 x7_1).f1).length c427_1)).setCell ⟨gb428, 2, none⟩ (.int .i64 ((rd_T53 l0 x7_1).f2))).setCell ⟨gb428, 3, none⟩ (.bool ((rd_T53 l0 x7_1).f3))).heap[gb428]? = some (.cells #[.string ((rd_T53 l0 x7_1).f0), .slice A427_1 ((rd_T53 l0 x7_1).f1).length c427_1, .int .i64 ((rd_T53 l0 x7_1).f2), .bool ((rd_T53 l0 x7_1).f3)] 53 (0, 0))) := ⟨by refine bl_ ?_; refine blk_put (cs := #[.string ((rd_T53 l0 x7_1).f0), .slice A427_1 ((rd_T53 l0 x7_1).f1).length c427_1, .int .i64 ((rd_T53 l0 x7_1).f2), .bool false]) ?_ 3 _ rfl; refine bl_ ?_; refine blk_put (cs := #[.string ((rd_T53 l0 x7_1).f0), .slice A427_1 ((rd_T53 l0 x7_1).f1).length c427_1, .int .i64 0, .bool false]) ?_ 2 _ rfl; refine bl_ ?_; refine blk_put (cs := #[.string ((rd_T53 l0 x7_1).f0), .slice none 0 0, .int .i64 0, .bool false]) ?_ 1 _ rfl; refine bl_ ?_; refine blk_put (cs := #[.string (⟨#[]⟩ : ByteArray), .slice none 0 0, .int .i64 0, .bool false]) ?_ 0 _ rfl; refine bl_ ?_; exact BK428.out⟩
     have n1_ : Aside0 (Below w.heap.size w ((((w27.setCell ⟨gb428, 0, none⟩ (.string ((rd_T53 l0 x7_1).f0))).setCell ⟨gb428, 1, none⟩ (.slice A427_1 ((rd_T53 l0 x7_1).f1).length c427_1)).setCell ⟨gb428, 2, none⟩ (.int .i64 ((rd_T53 l0 x7_1).f2))).setCell ⟨gb428, 3, none⟩ (.bool ((rd_T53 l0 x7_1).f3)))) := ⟨bs1_ HB.out GE428.out⟩
     (try clear BK428)
     (try clear HB)
     generalize ((((w27.setCell ⟨gb428, 0, none⟩ (.string ((rd_T53 l0 x7_1).f0))).setCell ⟨gb428, 1, none⟩ (.slice A427_1 ((rd_T53 l0 x7_1).f1).length c427_1)).setCell ⟨gb428, 2, none⟩ (.int .i64 ((rd_T53 l0 x7_1).f2))).setCell ⟨gb428, 3, none⟩ (.bool ((rd_T53 l0 x7_1).f3))) = w29 at n0_ n1_ ⊢
     have BK428 := n0_
     have HB := n1_
     clear n0_ n1_
     replace BK428 := mkA (blk_drew BK428.out)
     replace HB := mkA (below_drew1 HB.out)
     refine st_ 18 (fun w' => w'.cell? ⟨gb428, 0, none⟩ = some (.string ((rd_T53 l0 x7_1).f0)) ∧ w'.cell? ⟨gb428, 1, none⟩ = some (.slice A427_1 ((rd_T53 l0 x7_1).f1).length c427_1) ∧ w'.cell? ⟨gb428, 2, none⟩ = some (.int .i64 ((rd_T53 l0 x7_1).f2)) ∧ w'.cell? ⟨gb428, 3, none⟩ = some (.bool ((rd_T53 l0 x7_1).f3))) [] impl_ValidPieces.tab4 impl_ValidPieces.bits4 sp_ fun hHeld HT_ HW_ => ?_
     generalize w29.drew = w30 at BK428 HB hHeld ⊢
     refine tk_ 0 12 (h := ?_)
     refine on_ 1 13 fun K hK => ?_
     refine go_ Try.func70 #[.agg #[.string ((rd_T53 l0 x7_1).f0), .slice A427_1 ((rd_T53 l0 x7_1).f1).length c427_1, .int .i64 ((rd_T53 l0 x7_1).f2), .bool ((rd_T53 l0 x7_1).f3)]] ?_
     with_reducible refine (impl_validPiece.calls k1 ((rd_T53 l0 x7_1).f0) _ _ ((rd_T53 l0 x7_1).f1) ((rd_T53 l0 x7_1).f2) ((rd_T53 l0 x7_1).f3) false _ ?side1 ?side2 A5.out).mono ?_
     (case side1 => exact cb_ HR427_1.out HB.out)
     (case side2 => exact HC427_1.out)
     rintro e w31 ⟨rfl, hb⟩
     refine ⟨_, rfl, ?_⟩
     replace BK428 := mkA (blk_below (bl_ BK428.out) hb)
     replace HB := mkA (below_step (bs1_ HB.out GE428.out) hb)
     (try clear hb)
     (try clear hb2)
     (try clear hk)
     (try clear hi)
     refine hK.out _ _ sp_ fun hHeld => ?_
     clear hK K
     refine nm_ 13 ?_
     refine a1_ 2 14 (h := a1_ 3 15 (h := a0_ 4 16 (h := a0_ 5 17 (h := a0_ 6 18 (h := a0_ 7 19 (h := a0_ 8 20 (h := a0_ 9 21 (h := a0_ 10 22 (h := a0_ 11 23 (h := a0_ 12 24 (h := a0_ 13 25 (h := a0_ 14 26 (h := a0_ 15 27 (h := a0_ 16 28 (h := a1_ 17 29 (h := ?_))))))))))))))))
     refine dn_ ?_
     try go_wp2
     go_ret
     exact ⟨re_, bs1_ HB.out GE428.out⟩
   subst c6
   rw [if_pos rfl] at H
   by_cases c7 : x7_1 > 0
   rotate_left
   · rw [if_neg c7] at H
     have c7b0 := decide_eq_false c7
     clear c7
     have H' := mkA H
     clear H
     obtain ⟨ad427, A427_1, c427_1, e427, hx427_0, hx427_1, hx427_2, hx427_3, hl427_1, hi427_1⟩ := at_T53 HR0.out x7_1 dt_ dt_
     cases e427
     have HR427_1 := mkA hi427_1
     have HC427_1 := mkA hl427_1
     clear hi427_1 hl427_1
     obtain ⟨hx427_0, hx427_1, hx427_2, hx427_3⟩ := b4_ HB.out hx427_0 hx427_1 hx427_2 hx427_3
     have p427 : (0 ≤ (x7_1 : Int)) = True := eq_true dt_
     have q427 : (x7_1 < (l0.length : Int)) = True := eq_true dt_
     try go_wp2_with (first | ((with_reducible refine gt_ 4 ?_); refine bx_ 4 #[.string (⟨#[]⟩ : ByteArray), .slice none 0 0, .int .i64 0, .bool false] 53 fun gb428 hg w22 hbox hb => ?_; have BK428 := mkA (hbox); have GW428 := gs_ hg (bs0_ HB.out); have GE428 := GW428; replace HB := mkA (below_step (bs0_ HB.out) hb); clear hb hbox hg; obtain ⟨hcz23_0, hcz23_1, hcz23_2, hcz23_3, hfz23_0, hfz23_1, hfz23_2, hfz23_3⟩ := z4_ BK428.out))
     have n0_ : Aside0 (((((w22.setCell ⟨gb428, 0, none⟩ (.string ((rd_T53 l0 x7_1).f0))).setCell ⟨gb428, 1, none⟩ (.slice A427_1 ((rd_T53 l0 x7_1).f1).length c427_1)).setCell ⟨gb428, 2, none⟩ (.int .i64 ((rd_T53 l0 x7_1).f2))).setCell ⟨gb428, 3, none⟩ (.bool ((rd_T53 l0 x7_1).f3))).heap[gb428]? = some (.cells #[.string ((rd_T53 l0 x7_1).f0), .slice A427_1 ((rd_T53 l0 x7_1).f1).length c427_1, .int .i64 ((rd_T53 l0 x7_1).f2), .bool ((rd_T53 l0 x7_1).f3)] 53 (0, 0))) := ⟨by refine bl_ ?_; refine blk_put (cs := #[.string ((rd_T53 l0 x7_1).f0), .slice A427_1 ((rd_T53 l0 x7_1).f1).length c427_1, .int .i64 ((rd_T53 l0 x7_1).f2), .bool false]) ?_ 3 _ rfl; refine bl_ ?_; refine blk_put (cs := #[.string ((rd_T53 l0 x7_1).f0), .slice A427_1 ((rd_T53 l0 x7_1).f1).length c427_1, .int .i64 0, .bool false]) ?_ 2 _ rfl; refine bl_ ?_; refine blk_put (cs := #[.string ((rd_T53 l0 x7_1).f0), .slice none 0 0, .int .i64 0, .bool false]) ?_ 1 _ rfl; refine bl_ ?_; refine blk_put (cs := #[.string (⟨#[]⟩ : ByteArray), .slice none 0 0, .int .i64 0, .bool false]) ?_ 0 _ rfl; refine bl_ ?_; exact BK428.out⟩
     have n1_ : Aside0 (Below w.heap.size w ((((w22.setCell ⟨gb428, 0, none⟩ (.string ((rd_T53 l0 x7_1).f0))).setCell ⟨gb428, 1, none⟩ (.slice A427_1 ((rd_T53 l0 x7_1).f1).length c427_1)).setCell ⟨gb428, 2, none⟩ (.int .i64 ((rd_T53 l0 x7_1).f2))).setCell ⟨gb428, 3, none⟩ (.bool ((rd_T53 l0 x7_1).f3)))) := ⟨bs1_ HB.out GE428.out⟩
     (try clear BK428)
     (try clear HB)
     generalize ((((w22.setCell ⟨gb428, 0, none⟩ (.string ((rd_T53 l0 x7_1).f0))).setCell ⟨gb428, 1, none⟩ (.slice A427_1 ((rd_T53 l0 x7_1).f1).length c427_1)).setCell ⟨gb428, 2, none⟩ (.int .i64 ((rd_T53 l0 x7_1).f2))).setCell ⟨gb428, 3, none⟩ (.bool ((rd_T53 l0 x7_1).f3))) = w24 at n0_ n1_ ⊢
     have BK428 := n0_
     have HB := n1_
     clear n0_ n1_
     replace BK428 := mkA (blk_drew BK428.out)
     replace HB := mkA (below_drew1 HB.out)
     refine st_ 18 (fun w' => w'.cell? ⟨gb428, 0, none⟩ = some (.string ((rd_T53 l0 x7_1).f0)) ∧ w'.cell? ⟨gb428, 1, none⟩ = some (.slice A427_1 ((rd_T53 l0 x7_1).f1).length c427_1) ∧ w'.cell? ⟨gb428, 2, none⟩ = some (.int .i64 ((rd_T53 l0 x7_1).f2)) ∧ w'.cell? ⟨gb428, 3, none⟩ = some (.bool ((rd_T53 l0 x7_1).f3))) [] impl_ValidPieces.tab4 impl_ValidPieces.bits4 sp_ fun hHeld HT_ HW_ => ?_
     generalize w24.drew = w25 at BK428 HB hHeld ⊢
     refine tk_ 0 12 (h := ?_)
     refine on_ 1 13 fun K hK => ?_
     refine go_ Try.func70 #[.agg #[.string ((rd_T53 l0 x7_1).f0), .slice A427_1 ((rd_T53 l0 x7_1).f1).length c427_1, .int .i64 ((rd_T53 l0 x7_1).f2), .bool ((rd_T53 l0 x7_1).f3)]] ?_
     with_reducible refine (impl_validPiece.calls k1 ((rd_T53 l0 x7_1).f0) _ _ ((rd_T53 l0 x7_1).f1) ((rd_T53 l0 x7_1).f2) ((rd_T53 l0 x7_1).f3) true _ ?side1 ?side2 A5.out).mono ?_
     (case side1 => exact cb_ HR427_1.out HB.out)
     (case side2 => exact HC427_1.out)
     rintro e w26 ⟨rfl, hb⟩
     refine ⟨_, rfl, ?_⟩
     replace BK428 := mkA (blk_below (bl_ BK428.out) hb)
     replace HB := mkA (below_step (bs1_ HB.out GE428.out) hb)
     (try clear hb)
     (try clear hb2)
     (try clear hk)
     (try clear hi)
     refine hK.out _ _ sp_ fun hHeld => ?_
     clear hK K
     refine nm_ 13 ?_
     refine a1_ 2 14 (h := a1_ 3 15 (h := a1_ 4 16 (h := a1_ 5 17 (h := a1_ 6 18 (h := a0_ 7 19 (h := a0_ 8 20 (h := a0_ 9 21 (h := a0_ 10 22 (h := a0_ 11 23 (h := a0_ 12 24 (h := a0_ 13 25 (h := a0_ 14 26 (h := a0_ 15 27 (h := a1_ 16 28 (h := a1_ 17 29 (h := ?_))))))))))))))))
     refine dn_ ?_
     try go_wp2
     go_roundg k1
     case measure => have := HK1.out; omega
     case rel => exact ⟨(wrap64 (x7_1 + 1)), rf_, H', ⟨om_ HK1.out⟩, ⟨bs1_ HB.out GE428.out⟩⟩
   rw [if_pos c7] at H
   have c7b0 := decide_eq_true c7
   clear c7
   obtain ⟨ji8, hji8⟩ : ∃ j_ : Int, (wrap64 (x7_1 - 1)) = j_ := ⟨_, rfl⟩
   replace H : (if 0 ≤ (ji8) then (if (ji8) < (l0.length : Int) then (if ((Op.bytesLess (((rd_T53 l0 (ji8)).f0).toList) (((rd_T53 l0 x7_1).f0).toList)) = true) then (impl_ValidPieces.l0 k1 l0 l0 (l0.length : Int) (wrap64 (x7_1 + 1))) else (some false)) else (none)) else (none)) = some r := by first | (rw [hji8] at H; exact H) | (simp only [hji8] at H ⊢; exact H)
   (try rw [hji8] at A5)
   have hji8w : (IntKind.i64.wrap (x7_1 - 1)) = ji8 := (i64_w _).trans hji8
   revert H
   refine ng_ fun c9 => ng_ fun c10 => ?_
   intro H
   have c9b0 := decide_eq_true c9
   clear c9
   have c10b0 := decide_eq_true c10
   clear c10
   by_cases c11 : ((Op.bytesLess (((rd_T53 l0 (ji8)).f0).toList) (((rd_T53 l0 x7_1).f0).toList)) = true)
   rotate_left
   · rw [if_neg c11] at H
     have c11b0 : (Op.bytesLess (((rd_T53 l0 (ji8)).f0).toList) (((rd_T53 l0 x7_1).f0).toList)) = false := by simpa using c11
     clear c11
     obtain rfl := Option.some.inj H
     obtain ⟨ad427, A427_1, c427_1, e427, hx427_0, hx427_1, hx427_2, hx427_3, hl427_1, hi427_1⟩ := at_T53 HR0.out x7_1 dt_ dt_
     cases e427
     have HR427_1 := mkA hi427_1
     have HC427_1 := mkA hl427_1
     clear hi427_1 hl427_1
     obtain ⟨hx427_0, hx427_1, hx427_2, hx427_3⟩ := b4_ HB.out hx427_0 hx427_1 hx427_2 hx427_3
     have p427 : (0 ≤ (x7_1 : Int)) = True := eq_true dt_
     have q427 : (x7_1 < (l0.length : Int)) = True := eq_true dt_
     try go_wp2_with (first | ((with_reducible refine gt_ 4 ?_); refine bx_ 4 #[.string (⟨#[]⟩ : ByteArray), .slice none 0 0, .int .i64 0, .bool false] 53 fun gb428 hg w17 hbox hb => ?_; have BK428 := mkA (hbox); have GW428 := gs_ hg (bs0_ HB.out); have GE428 := GW428; replace HB := mkA (below_step (bs0_ HB.out) hb); clear hb hbox hg; obtain ⟨hcz18_0, hcz18_1, hcz18_2, hcz18_3, hfz18_0, hfz18_1, hfz18_2, hfz18_3⟩ := z4_ BK428.out))
     have n0_ : Aside0 (((((w17.setCell ⟨gb428, 0, none⟩ (.string ((rd_T53 l0 x7_1).f0))).setCell ⟨gb428, 1, none⟩ (.slice A427_1 ((rd_T53 l0 x7_1).f1).length c427_1)).setCell ⟨gb428, 2, none⟩ (.int .i64 ((rd_T53 l0 x7_1).f2))).setCell ⟨gb428, 3, none⟩ (.bool ((rd_T53 l0 x7_1).f3))).heap[gb428]? = some (.cells #[.string ((rd_T53 l0 x7_1).f0), .slice A427_1 ((rd_T53 l0 x7_1).f1).length c427_1, .int .i64 ((rd_T53 l0 x7_1).f2), .bool ((rd_T53 l0 x7_1).f3)] 53 (0, 0))) := ⟨by refine bl_ ?_; refine blk_put (cs := #[.string ((rd_T53 l0 x7_1).f0), .slice A427_1 ((rd_T53 l0 x7_1).f1).length c427_1, .int .i64 ((rd_T53 l0 x7_1).f2), .bool false]) ?_ 3 _ rfl; refine bl_ ?_; refine blk_put (cs := #[.string ((rd_T53 l0 x7_1).f0), .slice A427_1 ((rd_T53 l0 x7_1).f1).length c427_1, .int .i64 0, .bool false]) ?_ 2 _ rfl; refine bl_ ?_; refine blk_put (cs := #[.string ((rd_T53 l0 x7_1).f0), .slice none 0 0, .int .i64 0, .bool false]) ?_ 1 _ rfl; refine bl_ ?_; refine blk_put (cs := #[.string (⟨#[]⟩ : ByteArray), .slice none 0 0, .int .i64 0, .bool false]) ?_ 0 _ rfl; refine bl_ ?_; exact BK428.out⟩
     have n1_ : Aside0 (Below w.heap.size w ((((w17.setCell ⟨gb428, 0, none⟩ (.string ((rd_T53 l0 x7_1).f0))).setCell ⟨gb428, 1, none⟩ (.slice A427_1 ((rd_T53 l0 x7_1).f1).length c427_1)).setCell ⟨gb428, 2, none⟩ (.int .i64 ((rd_T53 l0 x7_1).f2))).setCell ⟨gb428, 3, none⟩ (.bool ((rd_T53 l0 x7_1).f3)))) := ⟨bs1_ HB.out GE428.out⟩
     (try clear BK428)
     (try clear HB)
     generalize ((((w17.setCell ⟨gb428, 0, none⟩ (.string ((rd_T53 l0 x7_1).f0))).setCell ⟨gb428, 1, none⟩ (.slice A427_1 ((rd_T53 l0 x7_1).f1).length c427_1)).setCell ⟨gb428, 2, none⟩ (.int .i64 ((rd_T53 l0 x7_1).f2))).setCell ⟨gb428, 3, none⟩ (.bool ((rd_T53 l0 x7_1).f3))) = w19 at n0_ n1_ ⊢
     have BK428 := n0_
     have HB := n1_
     clear n0_ n1_
     replace BK428 := mkA (blk_drew BK428.out)
     replace HB := mkA (below_drew1 HB.out)
     obtain ⟨ad430, A430_1, c430_1, e430, hw430_0, hw430_1, hw430_2, hw430_3, hl430_1, hi430_1⟩ := at_T53 HR0.out (ji8) dt_ dt_
     obtain rfl : ad427 = ad430 := (by injection e430)
     have HR430_1 := mkA hi430_1
     have HC430_1 := mkA hl430_1
     clear hi430_1 hl430_1
     obtain ⟨hx430_0, hx430_1, hx430_2, hx430_3⟩ := b4_ HB.out hw430_0 hw430_1 hw430_2 hw430_3
     have p430 : (0 ≤ ((ji8) : Int)) = True := eq_true dt_
     have q430 : ((ji8) < (l0.length : Int)) = True := eq_true dt_
     refine st_ 18 (fun w' => w'.cell? ⟨gb428, 0, none⟩ = some (.string ((rd_T53 l0 x7_1).f0)) ∧ w'.cell? ⟨gb428, 1, none⟩ = some (.slice A427_1 ((rd_T53 l0 x7_1).f1).length c427_1) ∧ w'.cell? ⟨gb428, 2, none⟩ = some (.int .i64 ((rd_T53 l0 x7_1).f2)) ∧ w'.cell? ⟨gb428, 3, none⟩ = some (.bool ((rd_T53 l0 x7_1).f3)) ∧ C_ hw430_0 w' ∧ C_ hw430_1 w' ∧ C_ hw430_2 w' ∧ C_ hw430_3 w') [] impl_ValidPieces.tab4 impl_ValidPieces.bits4 sp_ fun hHeld HT_ HW_ => ?_
     generalize w19.drew = w20 at BK428 HB HR430_1 hx430_0 hx430_1 hx430_2 hx430_3 hHeld ⊢
     refine tk_ 0 12 (h := ?_)
     refine on_ 1 13 fun K hK => ?_
     refine go_ Try.func70 #[.agg #[.string ((rd_T53 l0 x7_1).f0), .slice A427_1 ((rd_T53 l0 x7_1).f1).length c427_1, .int .i64 ((rd_T53 l0 x7_1).f2), .bool ((rd_T53 l0 x7_1).f3)]] ?_
     with_reducible refine (impl_validPiece.calls k1 ((rd_T53 l0 x7_1).f0) _ _ ((rd_T53 l0 x7_1).f1) ((rd_T53 l0 x7_1).f2) ((rd_T53 l0 x7_1).f3) true _ ?side1 ?side2 A5.out).mono ?_
     (case side1 => exact cb_ HR427_1.out HB.out)
     (case side2 => exact HC427_1.out)
     rintro e w21 ⟨rfl, hb⟩
     refine ⟨_, rfl, ?_⟩
     replace BK428 := mkA (blk_below (bl_ BK428.out) hb)
     replace HB := mkA (below_step (bs1_ HB.out GE428.out) hb)
     (try clear hb)
     (try clear hb2)
     (try clear hk)
     (try clear hi)
     refine hK.out _ _ sp_ fun hHeld => ?_
     clear hK K
     refine nm_ 13 ?_
     refine a1_ 2 14 (h := a1_ 3 15 (h := a1_ 4 16 (h := a1_ 5 17 (h := a1_ 6 18 (h := a1_ 7 19 (h := a1_ 8 20 (h := a1_ 9 21 (h := a1_ 10 22 (h := a1_ 11 23 (h := a1_ 13 25 (h := tk_ 12 24 (h := tk_ 14 26 (h := a1_ 15 27 (h := a1_ 16 28 (h := a1_ 17 29 (h := ?_))))))))))))))))
     refine dn_ ?_
     try go_wp2
     go_ret
     exact ⟨by first | rfl | (simp [errW_none, errW_some] <;> rfl) | (simp only [← hji8]; first | rfl | (simp [errW_none, errW_some] <;> rfl)) | (simp [*, errW_none, errW_some] <;> rfl), bs1_ HB.out GE428.out⟩
   rw [if_pos c11] at H
   have c11b0 : (Op.bytesLess (((rd_T53 l0 (ji8)).f0).toList) (((rd_T53 l0 x7_1).f0).toList)) = true := c11
   clear c11
   have H' := mkA H
   clear H
   obtain ⟨ad427, A427_1, c427_1, e427, hx427_0, hx427_1, hx427_2, hx427_3, hl427_1, hi427_1⟩ := at_T53 HR0.out x7_1 dt_ dt_
   cases e427
   have HR427_1 := mkA hi427_1
   have HC427_1 := mkA hl427_1
   clear hi427_1 hl427_1
   obtain ⟨hx427_0, hx427_1, hx427_2, hx427_3⟩ := b4_ HB.out hx427_0 hx427_1 hx427_2 hx427_3
   have p427 : (0 ≤ (x7_1 : Int)) = True := eq_true dt_
   have q427 : (x7_1 < (l0.length : Int)) = True := eq_true dt_
   try go_wp2_with (first | ((with_reducible refine gt_ 4 ?_); refine bx_ 4 #[.string (⟨#[]⟩ : ByteArray), .slice none 0 0, .int .i64 0, .bool false] 53 fun gb428 hg w12 hbox hb => ?_; have BK428 := mkA (hbox); have GW428 := gs_ hg (bs0_ HB.out); have GE428 := GW428; replace HB := mkA (below_step (bs0_ HB.out) hb); clear hb hbox hg; obtain ⟨hcz13_0, hcz13_1, hcz13_2, hcz13_3, hfz13_0, hfz13_1, hfz13_2, hfz13_3⟩ := z4_ BK428.out))
   have n0_ : Aside0 (((((w12.setCell ⟨gb428, 0, none⟩ (.string ((rd_T53 l0 x7_1).f0))).setCell ⟨gb428, 1, none⟩ (.slice A427_1 ((rd_T53 l0 x7_1).f1).length c427_1)).setCell ⟨gb428, 2, none⟩ (.int .i64 ((rd_T53 l0 x7_1).f2))).setCell ⟨gb428, 3, none⟩ (.bool ((rd_T53 l0 x7_1).f3))).heap[gb428]? = some (.cells #[.string ((rd_T53 l0 x7_1).f0), .slice A427_1 ((rd_T53 l0 x7_1).f1).length c427_1, .int .i64 ((rd_T53 l0 x7_1).f2), .bool ((rd_T53 l0 x7_1).f3)] 53 (0, 0))) := ⟨by refine bl_ ?_; refine blk_put (cs := #[.string ((rd_T53 l0 x7_1).f0), .slice A427_1 ((rd_T53 l0 x7_1).f1).length c427_1, .int .i64 ((rd_T53 l0 x7_1).f2), .bool false]) ?_ 3 _ rfl; refine bl_ ?_; refine blk_put (cs := #[.string ((rd_T53 l0 x7_1).f0), .slice A427_1 ((rd_T53 l0 x7_1).f1).length c427_1, .int .i64 0, .bool false]) ?_ 2 _ rfl; refine bl_ ?_; refine blk_put (cs := #[.string ((rd_T53 l0 x7_1).f0), .slice none 0 0, .int .i64 0, .bool false]) ?_ 1 _ rfl; refine bl_ ?_; refine blk_put (cs := #[.string (⟨#[]⟩ : ByteArray), .slice none 0 0, .int .i64 0, .bool false]) ?_ 0 _ rfl; refine bl_ ?_; exact BK428.out⟩
   have n1_ : Aside0 (Below w.heap.size w ((((w12.setCell ⟨gb428, 0, none⟩ (.string ((rd_T53 l0 x7_1).f0))).setCell ⟨gb428, 1, none⟩ (.slice A427_1 ((rd_T53 l0 x7_1).f1).length c427_1)).setCell ⟨gb428, 2, none⟩ (.int .i64 ((rd_T53 l0 x7_1).f2))).setCell ⟨gb428, 3, none⟩ (.bool ((rd_T53 l0 x7_1).f3)))) := ⟨bs1_ HB.out GE428.out⟩
   (try clear BK428)
   (try clear HB)
   generalize ((((w12.setCell ⟨gb428, 0, none⟩ (.string ((rd_T53 l0 x7_1).f0))).setCell ⟨gb428, 1, none⟩ (.slice A427_1 ((rd_T53 l0 x7_1).f1).length c427_1)).setCell ⟨gb428, 2, none⟩ (.int .i64 ((rd_T53 l0 x7_1).f2))).setCell ⟨gb428, 3, none⟩ (.bool ((rd_T53 l0 x7_1).f3))) = w14 at n0_ n1_ ⊢
   have BK428 := n0_
   have HB := n1_
   clear n0_ n1_
   replace BK428 := mkA (blk_drew BK428.out)
   replace HB := mkA (below_drew1 HB.out)
   obtain ⟨ad430, A430_1, c430_1, e430, hw430_0, hw430_1, hw430_2, hw430_3, hl430_1, hi430_1⟩ := at_T53 HR0.out (ji8) dt_ dt_
   obtain rfl : ad427 = ad430 := (by injection e430)
   have HR430_1 := mkA hi430_1
   have HC430_1 := mkA hl430_1
   clear hi430_1 hl430_1
   obtain ⟨hx430_0, hx430_1, hx430_2, hx430_3⟩ := b4_ HB.out hw430_0 hw430_1 hw430_2 hw430_3
   have p430 : (0 ≤ ((ji8) : Int)) = True := eq_true dt_
   have q430 : ((ji8) < (l0.length : Int)) = True := eq_true dt_
   refine st_ 18 (fun w' => w'.cell? ⟨gb428, 0, none⟩ = some (.string ((rd_T53 l0 x7_1).f0)) ∧ w'.cell? ⟨gb428, 1, none⟩ = some (.slice A427_1 ((rd_T53 l0 x7_1).f1).length c427_1) ∧ w'.cell? ⟨gb428, 2, none⟩ = some (.int .i64 ((rd_T53 l0 x7_1).f2)) ∧ w'.cell? ⟨gb428, 3, none⟩ = some (.bool ((rd_T53 l0 x7_1).f3)) ∧ C_ hw430_0 w' ∧ C_ hw430_1 w' ∧ C_ hw430_2 w' ∧ C_ hw430_3 w') [] impl_ValidPieces.tab4 impl_ValidPieces.bits4 sp_ fun hHeld HT_ HW_ => ?_
   generalize w14.drew = w15 at BK428 HB HR430_1 hx430_0 hx430_1 hx430_2 hx430_3 hHeld ⊢
   refine tk_ 0 12 (h := ?_)
   refine on_ 1 13 fun K hK => ?_
   refine go_ Try.func70 #[.agg #[.string ((rd_T53 l0 x7_1).f0), .slice A427_1 ((rd_T53 l0 x7_1).f1).length c427_1, .int .i64 ((rd_T53 l0 x7_1).f2), .bool ((rd_T53 l0 x7_1).f3)]] ?_
   with_reducible refine (impl_validPiece.calls k1 ((rd_T53 l0 x7_1).f0) _ _ ((rd_T53 l0 x7_1).f1) ((rd_T53 l0 x7_1).f2) ((rd_T53 l0 x7_1).f3) true _ ?side1 ?side2 A5.out).mono ?_
   (case side1 => exact cb_ HR427_1.out HB.out)
   (case side2 => exact HC427_1.out)
   rintro e w16 ⟨rfl, hb⟩
   refine ⟨_, rfl, ?_⟩
   replace BK428 := mkA (blk_below (bl_ BK428.out) hb)
   replace HB := mkA (below_step (bs1_ HB.out GE428.out) hb)
   (try clear hb)
   (try clear hb2)
   (try clear hk)
   (try clear hi)
   refine hK.out _ _ sp_ fun hHeld => ?_
   clear hK K
   refine nm_ 13 ?_
   refine a1_ 2 14 (h := a1_ 3 15 (h := a1_ 4 16 (h := a1_ 5 17 (h := a1_ 6 18 (h := a1_ 7 19 (h := a1_ 8 20 (h := a1_ 9 21 (h := a1_ 10 22 (h := a1_ 11 23 (h := a1_ 13 25 (h := tk_ 12 24 (h := tk_ 14 26 (h := a1_ 15 27 (h := a1_ 16 28 (h := a1_ 17 29 (h := ?_))))))))))))))))
   refine dn_ ?_
   try go_wp2
   go_roundg k1
   case measure => have := HK1.out; omega
   case rel => exact ⟨(wrap64 (x7_1 + 1)), rf_, H', ⟨om_ HK1.out⟩, ⟨bs1_ HB.out GE428.out⟩⟩
/-! ### impl_shifted: function 78 -/
def impl_shifted.l0 : Nat → Int → Int → List (S105) → List (S105) → Int → Int → Option ((List (S105)))
  | 0, _, _, _, _, _, _ => none
  | k + 1, x1, x2, x7, x11, x12, x13 => if x13 < x12 then (if 0 ≤ x13 then (if x13 < (x11.length : Int) then (if x7.length < 8796093022208 then (impl_shifted.l0 k x1 x2 (x7 ++ [(⟨wrap64 (((rd_T105 x11 x13).f0) + x1), wrap64 (((rd_T105 x11 x13).f1) + x2)⟩ : S105)]) x11 x12 (wrap64 (x13 + 1))) else (none)) else (none)) else (none)) else (some x7)
def impl_shifted.f (k : Nat) (l0 : List (S105)) (a1 : Int) (a2 : Int) : Option ((List (S105))) := impl_shifted.l0 k a1 a2 (([] : List (S105))) l0 (l0.length : Int) 0
set_option maxHeartbeats 8000000 in
set_option maxRecDepth 100000 in
theorem impl_shifted.calls (k : Nat) (A0 : Option Addr) (c0 : Nat) (l0 : List (S105)) (a1 : Int) (a2 : Int) (r : List (S105)) (w : World) (hr0 : Kd.C k105 w A0 l0.length l0) (hc0 : l0.length ≤ c0) (h : impl_shifted.f k l0 a1 a2 = some r) :
 Calls Try.prog 78 #[.slice A0 l0.length c0, .int .i64 a1, .int .i64 a2] w fun e w' => ∃ v0_ : Value, e = .returned (v0_) ∧ Kd.R k105 105 w' w.heap.size (fun _ => True) v0_ r ∧ Below w.heap.size w w' := by
 have hu105 := Try.underlying105
 have HR0 := mkA hr0
 have HC0 := mkA hc0
 clear hr0 hc0
 have HB := mkA (Below.refl w.heap.size w)
 unfold impl_shifted.f at h
 have H := h
 clear h
 obtain ⟨y431, hy431⟩ := gy_ (([] : List (S105)) : List (S105))
 replace H : (impl_shifted.l0 k a1 a2 y431 l0 (l0.length : Int) 0) = some r := hs_ H hy431
 have Ny431 := mkA hy431
 clear hy431
 have H' := mkA H
 clear H
 go_enter Try.func78, Try.ntmps78
 go_wp2_with (first | ((with_reducible refine gt_ 10 ?_); refine Kd.R_lit k105 _ 105 ?hg (N := 10) ?hd (xs := ([] : List (S105))) (inner := []) (ok := fun _ => True) (okp := fun _ => True) ?hr ?hp (fun _ hk => hk) trivial (Below.refl _ _) (Nat.le_refl _) (by simp) ?_; (case hd => rfl); (case hg => rfl); (case hr => first | (go_simp; done) | (go_simp; rfl)); (case hp => exact (Reps.none _ _)); intro v432 w4 ho5 hb hg_ hnew_; clear hg_ hnew_; (first | rw [← Ny431.out] at ho5 | (simp only [Int.reduceToNat] at ho5; rw [← Ny431.out] at ho5)); have HO433 := mkA (Kd.R_lower ho5 (below_size (bs0_ HB.out))); replace HB := mkA (below_step (bs0_ HB.out) hb); clear hb ho5))
 go_loopg [7, 13] k (fun kq v7 v13 w' => ∃ (x7_1 : List (S105)) (x13_1 : Int), v13 = .int .i64 x13_1 ∧ Aside0 (impl_shifted.l0 kq a1 a2 x7_1 l0 (l0.length : Int) x13_1 = some r) ∧ Aside0 (kq ≤ k) ∧ Aside0 (Kd.R k105 105 w' w.heap.size (fun _ => True) v7 x7_1) ∧ Aside0 (Below w.heap.size w w'))
 case atStart => exact ⟨(y431), (0), rf_, H', ⟨Nat.le_refl _⟩, ⟨r_ HO433.out⟩, ⟨bs0_ HB.out⟩⟩
 case round =>
  clear H'
  obtain ⟨x7_1, x13_1, rfl, HA, HK1, HO_7, HB⟩ := hrel
  cases gk with
  | zero => exact absurd HA.out (by simp [impl_shifted.l0])
  | succ k1 =>
   have H := HA.out
   clear HA
   simp only [impl_shifted.l0] at H
   by_cases c6 : x13_1 < (l0.length : Int)
   rotate_left
   · rw [if_neg c6] at H
     have c6b0 := decide_eq_false c6
     clear c6
     obtain rfl := Option.some.inj H
     go_wp2
     go_ret
     exact ⟨_, re_, r_ HO_7.out, bs0_ HB.out⟩
   rw [if_pos c6] at H
   have c6b0 := decide_eq_true c6
   clear c6
   revert H
   refine ng_ fun c7 => ng_ fun c8 => ng_ fun c9 => ?_
   intro H
   have c7b0 := decide_eq_true c7
   clear c7
   have c8b0 := decide_eq_true c8
   clear c8
   have LMc9 := mkA c9
   clear c9
   obtain ⟨y436, hy436⟩ := gy_ (x7_1 ++ [(⟨wrap64 (((rd_T105 l0 x13_1).f0) + a1), wrap64 (((rd_T105 l0 x13_1).f1) + a2)⟩ : S105)] : List (S105))
   rw [← hy436] at H
   (try with_reducible replace H := bso_ H)
   have Ny436 := mkA hy436
   clear hy436
   have H' := mkA H
   clear H
   obtain ⟨ad434, e434, hx434_0, hx434_1⟩ := at_T105 HR0.out x13_1 dt_ dt_
   cases e434
   obtain ⟨hx434_0, hx434_1⟩ := b2_ HB.out hx434_0 hx434_1
   have p434 : (0 ≤ (x13_1 : Int)) = True := eq_true dt_
   have q434 : (x13_1 < (l0.length : Int)) = True := eq_true dt_
   go_wp2_with (first | ((with_reducible refine gt_ 9 ?_); refine bx_ 9 #[.int .i64 0, .int .i64 0] 105 fun gb435 hg w10 hbox hb => ?_; replace HO_7 := mkA (Kd.R_below (Kd.R_elderB (r_ HO_7.out) gb435 (Nat.le_of_eq hg.symm)) hb); have BK435 := mkA (hbox); have GW435 := gs_ hg (bs0_ HB.out); have GE435 := GW435; replace HB := mkA (below_step (bs0_ HB.out) hb); clear hb hbox hg; obtain ⟨hcz11_0, hcz11_1, hfz11_0, hfz11_1⟩ := z2_ BK435.out) | ((with_reducible refine gate_builtin (b := .append) (xs := #[.tmp 17, .tmp 27]) rfl ?_); at_builtin; refine Kd.R_append k105 (w0 := w) w.heap.size rfl (.tmp 17) (.tmp 27) 51 105 (.agg #[(.int .i64 0), (.int .i64 0)]) 16 rfl Try.underlying51 info105 rfl (by decide) (by omega) u7 x7_1 (⟨wrap64 (((rd_T105 l0 x13_1).f0) + a1), wrap64 (((rd_T105 l0 x13_1).f1) + a2)⟩ : S105) [.int .i64 (wrap64 (((rd_T105 l0 x13_1).f0) + a1)), .int .i64 (wrap64 (((rd_T105 l0 x13_1).f1) + a2))] (fun k_ => k_ ≠ gb435) (fun _ => False) rfl (by first | (go_simp; done) | (go_simp; rfl)) ?aP (fun _ hk => hk.elim) ?aF ?aO ?aB ?aS ?aL ?_; (case aP => exact k105_mkM _ _ _ (⟨wrap64 (((rd_T105 l0 x13_1).f0) + a1), wrap64 (((rd_T105 l0 x13_1).f1) + a2)⟩ : S105)); (case aB => exact (bs1_ HB.out GE435.out)); (case aF => exact (fun k_ hk => Kd.freshB (g := gb435) (o := .cells #[.int .i64 ((rd_T105 l0 x13_1).f0), .int .i64 ((rd_T105 l0 x13_1).f1)] 105 (0, 0)) (by refine bl_ ?_; refine blk_put (cs := #[.int .i64 ((rd_T105 l0 x13_1).f0), .int .i64 0]) ?_ 1 _ rfl; refine bl_ ?_; refine blk_put (cs := #[.int .i64 0, .int .i64 0]) ?_ 0 _ rfl; refine bl_ ?_; exact BK435.out) k_ hk)); (case aO => exact (by refine r_ ?_; exact Kd.R_mono (Kd.R_far (p := ⟨gb435, 1, none⟩) (Kd.R_far (p := ⟨gb435, 0, none⟩) (Kd.R_mono HO_7.out (fun k_ hk => (⟨hk, hk.2⟩ : _ ∧ k_ ≠ gb435))) (fun _ hk => hk.2) (.int .i64 ((rd_T105 l0 x13_1).f0))) (fun _ hk => hk.2) (.int .i64 ((rd_T105 l0 x13_1).f1))) (fun _ hk => hk.1.2))); (case aS => exact (below_size (bs1_ HB.out GE435.out))); (case aL => have := LMc9.out; omega); intro v437 w12 ho hb hg hat; rw [← Ny436.out] at ho; replace BK435 := mkA (blk_grown (g := gb435) (o := .cells #[.int .i64 ((rd_T105 l0 x13_1).f0), .int .i64 ((rd_T105 l0 x13_1).f1)] 105 (0, 0)) (by refine bl_ ?_; refine blk_put (cs := #[.int .i64 ((rd_T105 l0 x13_1).f0), .int .i64 0]) ?_ 1 _ rfl; refine bl_ ?_; refine blk_put (cs := #[.int .i64 0, .int .i64 0]) ?_ 0 _ rfl; refine bl_ ?_; exact BK435.out) hg (Kd.R_away HO_7.out (fun _ hk => hk.2))); replace HB := mkA (hb); have HO438 := mkA (ho); clear HO_7; clear ho hb hg hat))
   go_roundg k1
   case measure => have := HK1.out; omega
   case rel => exact ⟨(y436), (wrap64 (x13_1 + 1)), rf_, H', ⟨om_ HK1.out⟩, ⟨by refine r_ ?_; exact Kd.R_mono HO438.out (fun _ hk => trivial)⟩, ⟨bs1_ HB.out GE435.out⟩⟩
end Go.Proofs.Ytakagkflgkoiiaa.GFnExactIsCover

-- Written by the session's own program (gen.py) out of the translation's print. Lean checks it.
import Derived.Test.YtakagkflgkoiiaaQ
import Derived.Test.YtakagkflgkoiiaaGFnExactIsCoverx0
import Derived.Test.YtakagkflgkoiiaaGFnExactIsCoverx3
namespace Go.Proofs.Ytakagkflgkoiiaa.GFnExactIsCover
open Go.RowKit Go.Proofs.YtakagkflgkoiiaaW.PrintWords Go.Proofs.YtakagkflgkoiiaaW.PrintLast Go.Proofs.YtakagkflgkoiiaaW.PrintMore
open List renaming setIfInBounds_toArray → sA, set_cons_zero → sB, set_cons_succ → sC
open Go.Proofs.YtakagkflgkoiiaaW.PrintWords.Aside0 renaming mk → mkA
open Go.Proofs.YtakagkflgkoiiaaX (dt_ bc_ p0_ p1_ bl_ cb_ bs0_ bs1_ bs2_ bs3_ bs4_ bs5_ bs6_ bs7_ bs8_ bs9_ bs10_ bs11_ bs12_)
open Go.Proofs.YtakagkflgkoiiaaQ
attribute [local go_sem] max2_int min2_int max_two min_two max_three min_three max_four min_four 
set_option linter.unusedVariables false
set_option linter.unusedSimpArgs false

/-! ### laws_eqPieceS: function 32 -/
def laws_eqPieceS.l0 : Nat → List (S53) → List (S53) → Int → Option (Bool)
  | 0, _, _, _ => none
  | k + 1, x0, x1, x5 => if x5 < (x0.length : Int) then (if 0 ≤ x5 then (if x5 < (x1.length : Int) then ((laws_eqPiece.f k ((rd_T53 x0 x5).f0) ((rd_T53 x0 x5).f1) ((rd_T53 x0 x5).f2) ((rd_T53 x0 x5).f3) ((rd_T53 x1 x5).f0) ((rd_T53 x1 x5).f1) ((rd_T53 x1 x5).f2) ((rd_T53 x1 x5).f3)).bind fun t160 => (if t160 = true then (laws_eqPieceS.l0 k x0 x1 (wrap64 (x5 + 1))) else (some false))) else (none)) else (none)) else (some true)
def laws_eqPieceS.f (k : Nat) (l0 : List (S53)) (l1 : List (S53)) : Option (Bool) := if (l0.length : Int) = (l1.length : Int) then (laws_eqPieceS.l0 k l0 l1 0) else (some false)
def laws_eqPieceS.T6 : Bool × List (List Nat × List Nat) := (true, [([], []), ([], []), ([0, 1], [0, 1]), ([2], [2]), ([], []), ([], []), ([4, 5], [4, 5]), ([6], [6]), ([3, 7], [3, 7]), ([8], [8])])
def laws_eqPieceS.B6 : List Nat := [0, 0, 3, 7, 0, 0, 48, 112, 255, 511]
theorem laws_eqPieceS.tab6 : rtab .any (opsOf Try.f32 6) = laws_eqPieceS.T6 := by kernel_rfl
theorem laws_eqPieceS.bits6 : waitsOk laws_eqPieceS.T6.2 laws_eqPieceS.B6 = true := by kernel_rfl
set_option maxHeartbeats 8000000 in
set_option maxRecDepth 100000 in
theorem laws_eqPieceS.calls (k : Nat) (A0 : Option Addr) (c0 : Nat) (l0 : List (S53)) (A1 : Option Addr) (c1 : Nat) (l1 : List (S53)) (r : Bool) (w : World) (hr0 : Kd.C k53 w A0 l0.length l0) (hc0 : l0.length ≤ c0) (hr1 : Kd.C k53 w A1 l1.length l1) (hc1 : l1.length ≤ c1) (h : laws_eqPieceS.f k l0 l1 = some r) :
 Calls Try.prog 32 #[.slice A0 l0.length c0, .slice A1 l1.length c1] w fun e w' => e = .returned (.bool r) ∧ Below w.heap.size w w' := by
 have hu53 := Try.underlying53
 have HR0 := mkA hr0
 have HC0 := mkA hc0
 clear hr0 hc0
 have HR1 := mkA hr1
 have HC1 := mkA hc1
 clear hr1 hc1
 have HB := mkA (Below.refl w.heap.size w)
 unfold laws_eqPieceS.f at h
 have H := h
 clear h
 by_cases c3 : (l0.length : Int) = (l1.length : Int)
 rotate_left
 · rw [if_neg c3] at H
   have c3b0 : ((l0.length : Int) == (l1.length : Int)) = false := beq_eq_false_iff_ne.mpr c3
   have c3b1 : ((l0.length : Int) != (l1.length : Int)) = true := bne_iff_ne.mpr c3
   have c3b2 : (l0.length == l1.length) = false := by first | simpa using c3 | (simp at c3 ⊢; omega)
   obtain rfl := Option.some.inj H
   go_enter Try.func32, Try.ntmps32
   go_wp2
   go_ret
   exact ⟨re_, bs0_ HB.out⟩
 rw [if_pos c3] at H
 have c3b0 : ((l0.length : Int) == (l1.length : Int)) = true := beq_iff_eq.mpr c3
 have c3b1 : ((l0.length : Int) != (l1.length : Int)) = false := bne_eq_false_iff_eq.mpr c3
 have c3b2 : (l0.length == l1.length) = true := by first | simpa using c3 | (simp at c3 ⊢; omega)
 clear c3
 have H' := mkA H
 clear H
 go_enter Try.func32, Try.ntmps32
 go_wp2
 go_loopg [5] k (fun kq v5 w' => ∃ (x5_1 : Int), v5 = .int .i64 x5_1 ∧ Aside0 (laws_eqPieceS.l0 kq l0 l1 x5_1 = some r) ∧ Aside0 (kq ≤ k) ∧ Aside0 (Below w.heap.size w w'))
 case atStart => exact ⟨(0), rf_, H', ⟨Nat.le_refl _⟩, ⟨bs0_ HB.out⟩⟩
 case round =>
  clear H'
  try clear c3 c3b0 c3b1 c3b2
  obtain ⟨x5_1, rfl, HA, HK1, HB⟩ := hrel
  cases gk with
  | zero => exact absurd HA.out (by simp [laws_eqPieceS.l0])
  | succ k1 =>
   have H := HA.out
   clear HA
   simp only [laws_eqPieceS.l0] at H
   by_cases c4 : x5_1 < (l0.length : Int)
   rotate_left
   · rw [if_neg c4] at H
     have c4b0 := decide_eq_false c4
     clear c4
     obtain rfl := Option.some.inj H
     go_wp2
     go_ret
     exact ⟨re_, bs0_ HB.out⟩
   rw [if_pos c4] at H
   have c4b0 := decide_eq_true c4
   clear c4
   revert H
   refine ng_ fun c5 => ng_ fun c6 => ob_ fun t160 A7 => ?_
   intro H
   have c5b0 := decide_eq_true c5
   clear c5
   have c6b0 := decide_eq_true c6
   clear c6
   by_cases c8 : t160 = true
   rotate_left
   · replace c8 := Bool.eq_false_iff.mpr c8
     subst c8
     rw [if_neg Bool.false_ne_true] at H
     obtain rfl := Option.some.inj H
     try go_wp2
     replace HB := mkA (below_drew1 HB.out)
     obtain ⟨ad158, A158_1, c158_1, e158, hw158_0, hw158_1, hw158_2, hw158_3, hl158_1, hi158_1⟩ := at_T53 HR0.out x5_1 dt_ dt_
     cases e158
     have HR158_1 := mkA hi158_1
     have HC158_1 := mkA hl158_1
     clear hi158_1 hl158_1
     obtain ⟨hx158_0, hx158_1, hx158_2, hx158_3⟩ := b4_ HB.out hw158_0 hw158_1 hw158_2 hw158_3
     have p158 : (0 ≤ (x5_1 : Int)) = True := eq_true dt_
     have q158 : (x5_1 < (l0.length : Int)) = True := eq_true dt_
     obtain ⟨ad159, A159_1, c159_1, e159, hw159_0, hw159_1, hw159_2, hw159_3, hl159_1, hi159_1⟩ := at_T53 HR1.out x5_1 dt_ dt_
     cases e159
     have HR159_1 := mkA hi159_1
     have HC159_1 := mkA hl159_1
     clear hi159_1 hl159_1
     obtain ⟨hx159_0, hx159_1, hx159_2, hx159_3⟩ := b4_ HB.out hw159_0 hw159_1 hw159_2 hw159_3
     have p159 : (0 ≤ (x5_1 : Int)) = True := eq_true dt_
     have q159 : (x5_1 < (l1.length : Int)) = True := eq_true dt_
     refine st_ 10 (fun w' => C_ hw158_0 w' ∧ C_ hw158_1 w' ∧ C_ hw158_2 w' ∧ C_ hw158_3 w' ∧ C_ hw159_0 w' ∧ C_ hw159_1 w' ∧ C_ hw159_2 w' ∧ C_ hw159_3 w') [] laws_eqPieceS.tab6 laws_eqPieceS.bits6 sp_ fun hHeld HT_ HW_ => ?_
     generalize wr.drew = w11 at HB HR158_1 HR159_1 hx158_0 hx158_1 hx158_2 hx158_3 hx159_0 hx159_1 hx159_2 hx159_3 hHeld ⊢
     refine a1_ 0 17 (h := a1_ 1 18 (h := a1_ 2 19 (h := a1_ 4 21 (h := a1_ 5 22 (h := a1_ 6 23 (h := tk_ 3 20 (h := tk_ 7 24 (h := ?_))))))))
     refine on_ 8 25 fun K hK => ?_
     refine go_ Try.func38 #[.agg #[.string ((rd_T53 l0 x5_1).f0), .slice A158_1 ((rd_T53 l0 x5_1).f1).length c158_1, .int .i64 ((rd_T53 l0 x5_1).f2), .bool ((rd_T53 l0 x5_1).f3)], .agg #[.string ((rd_T53 l1 x5_1).f0), .slice A159_1 ((rd_T53 l1 x5_1).f1).length c159_1, .int .i64 ((rd_T53 l1 x5_1).f2), .bool ((rd_T53 l1 x5_1).f3)]] ?_
     with_reducible refine (laws_eqPiece.calls k1 ((rd_T53 l0 x5_1).f0) _ _ ((rd_T53 l0 x5_1).f1) ((rd_T53 l0 x5_1).f2) ((rd_T53 l0 x5_1).f3) ((rd_T53 l1 x5_1).f0) _ _ ((rd_T53 l1 x5_1).f1) ((rd_T53 l1 x5_1).f2) ((rd_T53 l1 x5_1).f3) false _ ?side1 ?side2 ?side3 ?side4 A7.out).mono ?_
     (case side1 => exact cb_ HR158_1.out HB.out)
     (case side2 => exact HC158_1.out)
     (case side3 => exact cb_ HR159_1.out HB.out)
     (case side4 => exact HC159_1.out)
     rintro e w12 ⟨rfl, hb⟩
     refine ⟨_, rfl, ?_⟩
     replace HB := mkA (below_step (bs0_ HB.out) hb)
     (try clear hb)
     (try clear hb2)
     (try clear hk)
     (try clear hi)
     refine hK.out _ _ sp_ fun hHeld => ?_
     clear hK K
     refine nm_ 25 ?_
     refine a1_ 9 26 (h := ?_)
     refine dn_ ?_
     try go_wp2
     go_ret
     exact ⟨re_, bs0_ HB.out⟩
   subst c8
   rw [if_pos rfl] at H
   have H' := mkA H
   clear H
   try go_wp2
   replace HB := mkA (below_drew1 HB.out)
   obtain ⟨ad158, A158_1, c158_1, e158, hw158_0, hw158_1, hw158_2, hw158_3, hl158_1, hi158_1⟩ := at_T53 HR0.out x5_1 dt_ dt_
   cases e158
   have HR158_1 := mkA hi158_1
   have HC158_1 := mkA hl158_1
   clear hi158_1 hl158_1
   obtain ⟨hx158_0, hx158_1, hx158_2, hx158_3⟩ := b4_ HB.out hw158_0 hw158_1 hw158_2 hw158_3
   have p158 : (0 ≤ (x5_1 : Int)) = True := eq_true dt_
   have q158 : (x5_1 < (l0.length : Int)) = True := eq_true dt_
   obtain ⟨ad159, A159_1, c159_1, e159, hw159_0, hw159_1, hw159_2, hw159_3, hl159_1, hi159_1⟩ := at_T53 HR1.out x5_1 dt_ dt_
   cases e159
   have HR159_1 := mkA hi159_1
   have HC159_1 := mkA hl159_1
   clear hi159_1 hl159_1
   obtain ⟨hx159_0, hx159_1, hx159_2, hx159_3⟩ := b4_ HB.out hw159_0 hw159_1 hw159_2 hw159_3
   have p159 : (0 ≤ (x5_1 : Int)) = True := eq_true dt_
   have q159 : (x5_1 < (l1.length : Int)) = True := eq_true dt_
   refine st_ 10 (fun w' => C_ hw158_0 w' ∧ C_ hw158_1 w' ∧ C_ hw158_2 w' ∧ C_ hw158_3 w' ∧ C_ hw159_0 w' ∧ C_ hw159_1 w' ∧ C_ hw159_2 w' ∧ C_ hw159_3 w') [] laws_eqPieceS.tab6 laws_eqPieceS.bits6 sp_ fun hHeld HT_ HW_ => ?_
   generalize wr.drew = w9 at HB HR158_1 HR159_1 hx158_0 hx158_1 hx158_2 hx158_3 hx159_0 hx159_1 hx159_2 hx159_3 hHeld ⊢
   refine a1_ 0 17 (h := a1_ 1 18 (h := a1_ 2 19 (h := a1_ 4 21 (h := a1_ 5 22 (h := a1_ 6 23 (h := tk_ 3 20 (h := tk_ 7 24 (h := ?_))))))))
   refine on_ 8 25 fun K hK => ?_
   refine go_ Try.func38 #[.agg #[.string ((rd_T53 l0 x5_1).f0), .slice A158_1 ((rd_T53 l0 x5_1).f1).length c158_1, .int .i64 ((rd_T53 l0 x5_1).f2), .bool ((rd_T53 l0 x5_1).f3)], .agg #[.string ((rd_T53 l1 x5_1).f0), .slice A159_1 ((rd_T53 l1 x5_1).f1).length c159_1, .int .i64 ((rd_T53 l1 x5_1).f2), .bool ((rd_T53 l1 x5_1).f3)]] ?_
   with_reducible refine (laws_eqPiece.calls k1 ((rd_T53 l0 x5_1).f0) _ _ ((rd_T53 l0 x5_1).f1) ((rd_T53 l0 x5_1).f2) ((rd_T53 l0 x5_1).f3) ((rd_T53 l1 x5_1).f0) _ _ ((rd_T53 l1 x5_1).f1) ((rd_T53 l1 x5_1).f2) ((rd_T53 l1 x5_1).f3) true _ ?side1 ?side2 ?side3 ?side4 A7.out).mono ?_
   (case side1 => exact cb_ HR158_1.out HB.out)
   (case side2 => exact HC158_1.out)
   (case side3 => exact cb_ HR159_1.out HB.out)
   (case side4 => exact HC159_1.out)
   rintro e w10 ⟨rfl, hb⟩
   refine ⟨_, rfl, ?_⟩
   replace HB := mkA (below_step (bs0_ HB.out) hb)
   (try clear hb)
   (try clear hb2)
   (try clear hk)
   (try clear hi)
   refine hK.out _ _ sp_ fun hHeld => ?_
   clear hK K
   refine nm_ 25 ?_
   refine a1_ 9 26 (h := ?_)
   refine dn_ ?_
   try go_wp2
   go_roundg k1
   case measure => have := HK1.out; omega
   case rel => exact ⟨(wrap64 (x5_1 + 1)), rf_, H', ⟨om_ HK1.out⟩, ⟨bs0_ HB.out⟩⟩
/-! ### laws_szLaidS: function 47 -/
def laws_szLaidS.f (l0 : List (S111)) (a1 : Int) : Option (Int) := if (wrap64 (a1 - (l0.length : Int))) < 0 then (some (-1)) else (some (wrap64 (a1 - (l0.length : Int))))
set_option maxHeartbeats 8000000 in
set_option maxRecDepth 100000 in
theorem laws_szLaidS.calls (A0 : Option Addr) (c0 : Nat) (l0 : List (S111)) (a1 : Int) (r : Int) (w : World) (hr0 : Kd.C k111 w A0 l0.length l0) (hc0 : l0.length ≤ c0) (h : laws_szLaidS.f l0 a1 = some r) :
 Calls Try.prog 47 #[.slice A0 l0.length c0, .int .i64 a1] w fun e w' => e = .returned (.int .i64 r) ∧ Drawn0 w w' := by
 have HR0 := mkA hr0
 have HC0 := mkA hc0
 clear hr0 hc0
 unfold laws_szLaidS.f at h
 have H := h
 clear h
 by_cases c3 : (wrap64 (a1 - (l0.length : Int))) < 0
 · rw [if_pos c3] at H
   have c3b0 := decide_eq_true c3
   clear c3
   obtain rfl := Option.some.inj H
   go_enter Try.func47, Try.ntmps47
   go_wp2
   go_ret
   exact ⟨by first | rfl | (simp; done) | (simp [*]; done) | (simp [i64_w, i32_w]; done), by repeat (first | exact Drawn0.refl _ | apply Drawn0.step)⟩
 · rw [if_neg c3] at H
   have c3b0 := decide_eq_false c3
   clear c3
   obtain rfl := Option.some.inj H
   go_enter Try.func47, Try.ntmps47
   go_wp2
   go_ret
   exact ⟨by first | rfl | (simp; done) | (simp [*]; done) | (simp [i64_w, i32_w]; done), by repeat (first | exact Drawn0.refl _ | apply Drawn0.step)⟩
/-! ### laws_toLaid: function 83 -/
def laws_toLaid.f (a0_0 : Int) (a0_1 : Int) (a0_2 : Int) (a0_3 : Int) : Option (Int × Int × Int × Int) := some (a0_0, a0_1, a0_2, a0_3)
set_option maxHeartbeats 8000000 in
set_option maxRecDepth 100000 in
theorem laws_toLaid.calls (a0_0 : Int) (a0_1 : Int) (a0_2 : Int) (a0_3 : Int) (r1 : Int) (r2 : Int) (r3 : Int) (r4 : Int) (w : World) (h : laws_toLaid.f a0_0 a0_1 a0_2 a0_3 = some (r1, r2, r3, r4)) :
 Calls Try.prog 83 #[.agg #[.int .i64 a0_0, .int .i64 a0_1, .int .i64 a0_2, .int .i64 a0_3]] w fun e w' => e = .returned (.agg #[.int .i64 r1, .int .i64 r2, .int .i64 r3, .int .i64 r4]) ∧ Below w.heap.size w w' := by
 have hu111 := Try.underlying111
 have hu109 := Try.underlying109
 have HB := mkA (Below.refl w.heap.size w)
 unfold laws_toLaid.f at h
 have H := h
 clear h
 simp only [Option.some.injEq, Prod.mk.injEq] at H
 obtain ⟨rfl, rfl, rfl, rfl⟩ := H
 go_enter Try.func83, Try.ntmps83
 go_wp2_with (first | ((with_reducible refine gt_ 1 ?_); refine bx_ 1 #[.int .i64 a0_0, .int .i64 a0_1, .int .i64 a0_2, .int .i64 a0_3] 111 fun gb161 hg w2 hbox hb => ?_; have BK161 := mkA (hbox); have GW161 := gs_ hg (bs0_ HB.out); have GE161 := GW161; replace HB := mkA (below_step (bs0_ HB.out) hb); clear hb hbox hg) | ((with_reducible refine gt_ 2 ?_); refine bx_ 2 #[.int .i64 0, .int .i64 0, .int .i64 0, .int .i64 0] 109 fun gb162 hg w3 hbox hb => ?_; have BK162 := mkA (hbox); have GW162 := gs_ hg (bs1_ HB.out GE161.out); have GE162 := GW162; replace HB := mkA (below_step (bs1_ HB.out GE161.out) hb); have NB161_162 := nl_ hg (bl_ BK161.out); have NB162_161 := nr_ hg (bl_ BK161.out); replace BK161 := mkA (blk_below (bl_ BK161.out) hb); clear hb hbox hg) | ((with_reducible refine gt_ 3 ?_); refine bx_ 3 #[.int .i64 0, .int .i64 0, .int .i64 0, .int .i64 0] 109 fun gb163 hg w4 hbox hb => ?_; have BK163 := mkA (hbox); have GW163 := gs_ hg (bs2_ HB.out GE161.out GE162.out); have GE163 := GW163; replace HB := mkA (below_step (bs2_ HB.out GE161.out GE162.out) hb); have NB161_163 := nl_ hg (bl_ BK161.out); have NB163_161 := nr_ hg (bl_ BK161.out); replace BK161 := mkA (blk_below (bl_ BK161.out) hb); have NB162_163 := nl_ hg (bl_ BK162.out); have NB163_162 := nr_ hg (bl_ BK162.out); replace BK162 := mkA (blk_below (bl_ BK162.out) hb); clear hb hbox hg; have hnb5 := NB161_162.out; have hnc5 := NB162_161.out; have hnb6 := NB161_163.out; have hnc6 := NB163_161.out; obtain ⟨hcz7_0, hcz7_1, hcz7_2, hcz7_3, hfz7_0, hfz7_1, hfz7_2, hfz7_3⟩ := z4_ BK161.out; have hnb8 := NB163_162.out; have hnc8 := NB162_163.out; obtain ⟨hcz9_0, hcz9_1, hcz9_2, hcz9_3, hfz9_0, hfz9_1, hfz9_2, hfz9_3⟩ := z4_ BK163.out; obtain ⟨hcz10_0, hcz10_1, hcz10_2, hcz10_3, hfz10_0, hfz10_1, hfz10_2, hfz10_3⟩ := z4_ BK162.out))
 refine bodyPost_ret (results_cell_row rfl _ _ gb162 109 #[.int .i64 a0_0, .int .i64 a0_1, .int .i64 a0_2, .int .i64 a0_3] (0, 0) _ rfl (by refine bl_ ?_; refine blk_put (cs := #[.int .i64 a0_0, .int .i64 a0_1, .int .i64 a0_2, .int .i64 0]) ?_ 3 _ rfl; refine bl_ ?_; refine blk_put (cs := #[.int .i64 a0_0, .int .i64 a0_1, .int .i64 0, .int .i64 0]) ?_ 2 _ rfl; refine bl_ ?_; refine blk_put (cs := #[.int .i64 a0_0, .int .i64 0, .int .i64 0, .int .i64 0]) ?_ 1 _ rfl; refine bl_ ?_; refine blk_put (cs := #[.int .i64 0, .int .i64 0, .int .i64 0, .int .i64 0]) ?_ 0 _ rfl; refine bl_ ?_; refine blk_far ?_ NB162_163.out _; refine bl_ ?_; refine blk_far ?_ NB162_163.out _; refine bl_ ?_; refine blk_far ?_ NB162_163.out _; refine bl_ ?_; refine blk_far ?_ NB162_163.out _; refine bl_ ?_; exact BK162.out) Try.underlying109 rfl (by kernel_rfl)) rfl ?_
 exact ⟨re_, bs3_ HB.out GE161.out GE162.out GE163.out⟩
/-! ### laws_toLaidS: function 49 -/
def laws_toLaidS.l0 : Nat → List (S111) → List (S109) → Int → Option ((List (S109)))
  | 0, _, _, _ => none
  | k + 1, x0, x3, x4 => if x4 < (x0.length : Int) then (if 0 ≤ x4 then ((laws_toLaid.f ((rd_T111 x0 x4).f0) ((rd_T111 x0 x4).f1) ((rd_T111 x0 x4).f2) ((rd_T111 x0 x4).f3)).bind fun bt168 => (if x4 < (x3.length : Int) then (laws_toLaidS.l0 k x0 (x3.set (x4 : Int).toNat (⟨bt168.1, bt168.2.1, bt168.2.2.1, bt168.2.2.2⟩ : S109)) (wrap64 (x4 + 1))) else (none))) else (none)) else (some x3)
def laws_toLaidS.f (k : Nat) (l0 : List (S111)) : Option ((List (S109))) := if 0 ≤ (l0.length : Int) then (if ((l0.length : Int) : Int).toNat ≤ 8796093022208 then (laws_toLaidS.l0 k l0 (List.replicate ((l0.length : Int) : Int).toNat z109) 0) else (none)) else (none)
set_option maxHeartbeats 8000000 in
set_option maxRecDepth 100000 in
theorem laws_toLaidS.calls (k : Nat) (A0 : Option Addr) (c0 : Nat) (l0 : List (S111)) (r : List (S109)) (w : World) (hr0 : Kd.C k111 w A0 l0.length l0) (hc0 : l0.length ≤ c0) (h : laws_toLaidS.f k l0 = some r) :
 Calls Try.prog 49 #[.slice A0 l0.length c0] w fun e w' => ∃ v0_ : Value, e = .returned (v0_) ∧ Kd.R k109 109 w' w.heap.size (fun _ => True) v0_ r ∧ Below w.heap.size w w' := by
 have hu111 := Try.underlying111
 have hu109 := Try.underlying109
 have HR0 := mkA hr0
 have HC0 := mkA hc0
 clear hr0 hc0
 have HB := mkA (Below.refl w.heap.size w)
 unfold laws_toLaidS.f at h
 have H := h
 clear h
 revert H
 refine ng_ fun c2 => ng_ fun c3 => ?_
 intro H
 have c2b0 := eq_true c2
 have c2b1 := decide_eq_true c2
 clear c2
 have c3b0 := eq_true c3
 have c3b1 := decide_eq_true c3
 clear c3
 obtain ⟨y164, hy164⟩ := gy_ (List.replicate ((l0.length : Int) : Int).toNat z109 : List (S109))
 rw [← hy164] at H
 (try with_reducible replace H := bso_ H)
 have Ny164 := mkA hy164
 clear hy164
 have H' := mkA H
 clear H
 go_enter Try.func49, Try.ntmps49
 go_wp2_with (first | ((with_reducible refine gt_ 7 ?_); refine Kd.R_make k109 _ 109 rfl (N := 7) rfl 68 _ _ rfl (l0.length : Int) rfl rfl Try.underlying68 (.agg #[(.int .i64 0), (.int .i64 0), (.int .i64 0), (.int .i64 0)]) 32 info109 rfl (by decide) (by omega) z109 (ok := fun _ => True) (okp := fun _ => True) (k109_mkM _ _ _ z109 ) (fun _ hk => hk) trivial (dt_) (Nat.le_trans (Nat.mul_le_mul_right _ (dt_ : (l0.length : Int).toNat ≤ 8796093022208)) (by omega)) (Below.refl _ _) (Nat.le_refl _) ?_; intro v165 w4 ho5 hb hg_ hnew_; clear hg_ hnew_; (first | rw [← Ny164.out] at ho5 | (simp only [Int.reduceToNat] at ho5; rw [← Ny164.out] at ho5)); have HO166 := mkA (Kd.R_lower ho5 (below_size (bs0_ HB.out))); replace HB := mkA (below_step (bs0_ HB.out) hb); clear hb ho5))
 go_loopg [4] k (fun kq v4 w' => ∃ (x3_1 : List (S109)) (x4_1 : Int), v4 = .int .i64 x4_1 ∧ Aside0 (laws_toLaidS.l0 kq l0 x3_1 x4_1 = some r) ∧ Aside0 (kq ≤ k) ∧ Aside0 (Kd.R k109 109 w' w.heap.size (fun _ => True) v165 x3_1) ∧ Aside0 (Below w.heap.size w w'))
 case atStart => exact ⟨(y164), (0), rf_, H', ⟨Nat.le_refl _⟩, ⟨r_ HO166.out⟩, ⟨bs0_ HB.out⟩⟩
 case round =>
  clear H'
  try clear c2 c2b0 c2b1 c3 c3b0 c3b1
  obtain ⟨x3_1, x4_1, rfl, HA, HK1, HO_3, HB⟩ := hrel
  cases gk with
  | zero => exact absurd HA.out (by simp [laws_toLaidS.l0])
  | succ k1 =>
   have H := HA.out
   clear HA
   simp only [laws_toLaidS.l0] at H
   by_cases c6 : x4_1 < (l0.length : Int)
   rotate_left
   · rw [if_neg c6] at H
     have c6b0 := decide_eq_false c6
     clear c6
     obtain rfl := Option.some.inj H
     go_wp2
     go_ret
     exact ⟨_, re_, r_ HO_3.out, bs0_ HB.out⟩
   rw [if_pos c6] at H
   have c6b0 := decide_eq_true c6
   clear c6
   revert H
   refine ng_ fun c7 => ob_ fun t_ A8 => ?_
   intro H
   have c7b0 := decide_eq_true c7
   clear c7
   obtain ⟨t168, t169, t170, t171⟩ := t_
   try dsimp only at H
   revert H
   refine ng_ fun c9 => ?_
   intro H
   have c9b0 := decide_eq_true c9
   clear c9
   obtain ⟨y172, hy172⟩ := gy_ (x3_1.set (x4_1 : Int).toNat (⟨t168, t169, t170, t171⟩ : S109) : List (S109))
   rw [← hy172] at H
   (try with_reducible replace H := bso_ H)
   have Ny172 := mkA hy172
   clear hy172
   have H' := mkA H
   clear H
   obtain ⟨ad167, e167, hx167_0, hx167_1, hx167_2, hx167_3⟩ := at_T111 HR0.out x4_1 dt_ dt_
   cases e167
   obtain ⟨hx167_0, hx167_1, hx167_2, hx167_3⟩ := b4_ HB.out hx167_0 hx167_1 hx167_2 hx167_3
   have p167 : (0 ≤ (x4_1 : Int)) = True := eq_true dt_
   have q167 : (x4_1 < (l0.length : Int)) = True := eq_true dt_
   go_wp2_with (first | ((with_reducible refine gk_ 83 ?_); refine gl_ (some 20) Try.func83 #[.agg #[.int .i64 ((rd_T111 l0 x4_1).f0), .int .i64 ((rd_T111 l0 x4_1).f1), .int .i64 ((rd_T111 l0 x4_1).f2), .int .i64 ((rd_T111 l0 x4_1).f3)]] ?_; (with_reducible refine (laws_toLaid.calls ((rd_T111 l0 x4_1).f0) ((rd_T111 l0 x4_1).f1) ((rd_T111 l0 x4_1).f2) ((rd_T111 l0 x4_1).f3) t168 t169 t170 t171 _ A8.out).mono ?_); rintro e w11 ⟨rfl, hb⟩; refine ⟨_, rfl, ?_⟩; replace HO_3 := mkA (Kd.R_below (r_ HO_3.out) hb); replace HB := mkA (below_step (bs0_ HB.out) hb); (try clear hb); (try clear hb2); (try clear hk); (try clear hi); have p10 : 0 ≤ (x4_1 : Int) := dt_; have q10 : (x4_1 : Int) < ((x3_1.length : Int) : Int) := dt_; obtain ⟨go10, co10, eo10, gb10, gl10, cl10, HG10⟩ := Kd.R_form HO_3.out (by omega); (first | cases eo10 | (injection eo10 with ea_ en_ ec_; (first | subst ea_ | (injection ea_ with ea_; subst ea_)); subst ec_; clear en_)); have GB10 := mkA gb10; have GG10 := mkA HG10; clear gb10 gl10 HG10; obtain ⟨ce10, hcl10, hM10, hcc10, hfr10⟩ := Kd.R_elem HO_3.out z109 (x4_1 : Int) p10 q10; obtain rfl := k109_openM hM10; have hx10_0 : w11.cell? ⟨go10, (x4_1 : Int).toNat * 4, none⟩ = some (.int .i64 ((rd_T109 x3_1 x4_1).f0)) := hcc10 0 _ rfl; have hx10_1 : w11.cell? ⟨go10, (x4_1 : Int).toNat * 4 + 1, none⟩ = some (.int .i64 ((rd_T109 x3_1 x4_1).f1)) := hcc10 1 _ rfl; have hx10_2 : w11.cell? ⟨go10, (x4_1 : Int).toNat * 4 + 2, none⟩ = some (.int .i64 ((rd_T109 x3_1 x4_1).f2)) := hcc10 2 _ rfl; have hx10_3 : w11.cell? ⟨go10, (x4_1 : Int).toNat * 4 + 3, none⟩ = some (.int .i64 ((rd_T109 x3_1 x4_1).f3)) := hcc10 3 _ rfl; have hf10_0 : w11.frozen? ⟨go10, (x4_1 : Int).toNat * 4, none⟩ = false := hfr10 0; have hf10_1 : w11.frozen? ⟨go10, (x4_1 : Int).toNat * 4 + 1, none⟩ = false := hfr10 1; have hf10_2 : w11.frozen? ⟨go10, (x4_1 : Int).toNat * 4 + 2, none⟩ = false := hfr10 2; have hf10_3 : w11.frozen? ⟨go10, (x4_1 : Int).toNat * 4 + 3, none⟩ = false := hfr10 3; clear hcl10 hcc10 hfr10 hM10; replace p10 := eq_true p10; replace q10 := eq_true q10; have HX12 := mkA (show Kd.R k109 109 w11 w.heap.size (fun _ => True) (.slice (some ⟨go10, 0, none⟩) x3_1.length co10) x3_1 from (r_ HO_3.out)); obtain ⟨ce12, hcl12, hM12, hcc12, hfr12⟩ := Kd.R_elem HX12.out z109 (x4_1 : Int) (dt_) (by have h_ : (x4_1 : Int) < ((x3_1.length : Int) : Int) := dt_; first | exact h_ | (have e_ := (Kd.R_reads' HO_3.out).1; omega) | simpa using h_); obtain rfl := k109_openM hM12; have HP12 := Kd.R_seg HX12.out (x4_1 : Int) (dt_) (by have h_ : (x4_1 : Int) < ((x3_1.length : Int) : Int) := dt_; first | exact h_ | (have e_ := (Kd.R_reads' HO_3.out).1; omega) | simpa using h_) (seg := [.int .i64 t168, .int .i64 t169, .int .i64 t170, .int .i64 t171]) (j := 0) hcl12 hcc12 (show 4 ≤ 4 from by decide) (x' := (⟨t168, t169, t170, t171⟩ : S109)) (k109_mkM _ _ _ (⟨t168, t169, t170, t171⟩ : S109) ) (fun _ hk => hk); have hx12_0 := hcc12 0 _ rfl; (try simp only [show (k109).sz = 4 from rfl, Nat.mul_one, Nat.add_zero] at hx12_0); have hf12_0 := hfr12 0; (try simp only [show (k109).sz = 4 from rfl, Nat.mul_one, Nat.add_zero] at hf12_0); have hx12_1 := hcc12 1 _ rfl; (try simp only [show (k109).sz = 4 from rfl, Nat.mul_one, Nat.add_zero] at hx12_1); have hf12_1 := hfr12 1; (try simp only [show (k109).sz = 4 from rfl, Nat.mul_one, Nat.add_zero] at hf12_1); have hx12_2 := hcc12 2 _ rfl; (try simp only [show (k109).sz = 4 from rfl, Nat.mul_one, Nat.add_zero] at hx12_2); have hf12_2 := hfr12 2; (try simp only [show (k109).sz = 4 from rfl, Nat.mul_one, Nat.add_zero] at hf12_2); have hx12_3 := hcc12 3 _ rfl; (try simp only [show (k109).sz = 4 from rfl, Nat.mul_one, Nat.add_zero] at hx12_3); have hf12_3 := hfr12 3; (try simp only [show (k109).sz = 4 from rfl, Nat.mul_one, Nat.add_zero] at hf12_3); clear hcl12 hcc12 hfr12 hM12) | ((with_reducible refine gate_store (t := 109) (p := 21) rfl ?_); refine store_event (t := 109) (p := 21) (v := ?vo_w13) (w1 := ((((w11.setCell ⟨go10, (x4_1 : Int).toNat * 4, none⟩ (.int .i64 t168)).setCell ⟨go10, (x4_1 : Int).toNat * 4 + 1, none⟩ (.int .i64 t169)).setCell ⟨go10, (x4_1 : Int).toNat * 4 + 2, none⟩ (.int .i64 t170)).setCell ⟨go10, (x4_1 : Int).toNat * 4 + 3, none⟩ (.int .i64 t171))) ?hg ?ho ?hn ?hr ?_; (case ho => rfl); (case hg => rfl); (case hn => rfl); (case hr => first | (go_simp; done) | (go_simp; rfl)); intro w13 hw; have hg : w11.grownBy w13 (some go10) := (by rw [hw]; exact HP12.2); have hp_ : Kd.R k109 109 w13 w.heap.size (fun _ => True) (.slice (some ⟨go10, 0, none⟩) x3_1.length co10) y172 := (by rw [hw, Ny172.out]; exact HP12.1); clear HP12; replace HO_3 := mkA (hp_); replace HB := mkA ((by rw [hw]; exact below_set (below_set (below_set (below_set (HB.out) GB10.out) GB10.out) GB10.out) GB10.out : Below w.heap.size w w13)); clear hg hw hp_))
   go_roundg k1
   case measure => have := HK1.out; omega
   case rel => exact ⟨(y172), (wrap64 (x4_1 + 1)), rf_, H', ⟨om_ HK1.out⟩, ⟨r_ HO_3.out⟩, ⟨bs0_ HB.out⟩⟩
/-! ### laws_eqLaid: function 85 -/
def laws_eqLaid.f (a0_0 : Int) (a0_1 : Int) (a0_2 : Int) (a0_3 : Int) (a1_0 : Int) (a1_1 : Int) (a1_2 : Int) (a1_3 : Int) : Option (Bool) := if a0_0 = a1_0 then (if a0_1 = a1_1 then (if a0_2 = a1_2 then (if a0_3 = a1_3 then (some true) else (some false)) else (some false)) else (some false)) else (some false)
set_option maxHeartbeats 8000000 in
set_option maxRecDepth 100000 in
theorem laws_eqLaid.calls (a0_0 : Int) (a0_1 : Int) (a0_2 : Int) (a0_3 : Int) (a1_0 : Int) (a1_1 : Int) (a1_2 : Int) (a1_3 : Int) (r : Bool) (w : World) (h : laws_eqLaid.f a0_0 a0_1 a0_2 a0_3 a1_0 a1_1 a1_2 a1_3 = some r) :
 Calls Try.prog 85 #[.agg #[.int .i64 a0_0, .int .i64 a0_1, .int .i64 a0_2, .int .i64 a0_3], .agg #[.int .i64 a1_0, .int .i64 a1_1, .int .i64 a1_2, .int .i64 a1_3]] w fun e w' => e = .returned (.bool r) ∧ Below w.heap.size w w' := by
 have hu109 := Try.underlying109
 have HB := mkA (Below.refl w.heap.size w)
 unfold laws_eqLaid.f at h
 have H := h
 clear h
 by_cases c3 : a0_0 = a1_0
 rotate_left
 · rw [if_neg c3] at H
   have c3b0 : (a0_0 == a1_0) = false := beq_eq_false_iff_ne.mpr c3
   have c3b1 : (a0_0 != a1_0) = true := bne_iff_ne.mpr c3
   obtain rfl := Option.some.inj H
   go_enter Try.func85, Try.ntmps85
   go_wp2_with (first | ((with_reducible refine gt_ 2 ?_); refine bx_ 2 #[.int .i64 a0_0, .int .i64 a0_1, .int .i64 a0_2, .int .i64 a0_3] 109 fun gb173 hg w27 hbox hb => ?_; have BK173 := mkA (hbox); have GW173 := gs_ hg (bs0_ HB.out); have GE173 := GW173; replace HB := mkA (below_step (bs0_ HB.out) hb); clear hb hbox hg) | ((with_reducible refine gt_ 3 ?_); refine bx_ 3 #[.int .i64 a1_0, .int .i64 a1_1, .int .i64 a1_2, .int .i64 a1_3] 109 fun gb174 hg w28 hbox hb => ?_; have BK174 := mkA (hbox); have GW174 := gs_ hg (bs1_ HB.out GE173.out); have GE174 := GW174; replace HB := mkA (below_step (bs1_ HB.out GE173.out) hb); have NB173_174 := nl_ hg (bl_ BK173.out); have NB174_173 := nr_ hg (bl_ BK173.out); replace BK173 := mkA (blk_below (bl_ BK173.out) hb); clear hb hbox hg; have hnb29 := NB173_174.out; have hnc29 := NB174_173.out; obtain ⟨hcz30_0, hcz30_1, hcz30_2, hcz30_3, hfz30_0, hfz30_1, hfz30_2, hfz30_3⟩ := z4_ BK173.out; obtain ⟨hcz31_0, hcz31_1, hcz31_2, hcz31_3, hfz31_0, hfz31_1, hfz31_2, hfz31_3⟩ := z4_ BK174.out))
   go_ret
   exact ⟨re_, bs2_ HB.out GE173.out GE174.out⟩
 rw [if_pos c3] at H
 have c3b0 : (a0_0 == a1_0) = true := beq_iff_eq.mpr c3
 have c3b1 : (a0_0 != a1_0) = false := bne_eq_false_iff_eq.mpr c3
 clear c3
 by_cases c4 : a0_1 = a1_1
 rotate_left
 · rw [if_neg c4] at H
   have c4b0 : (a0_1 == a1_1) = false := beq_eq_false_iff_ne.mpr c4
   have c4b1 : (a0_1 != a1_1) = true := bne_iff_ne.mpr c4
   obtain rfl := Option.some.inj H
   go_enter Try.func85, Try.ntmps85
   go_wp2_with (first | ((with_reducible refine gt_ 2 ?_); refine bx_ 2 #[.int .i64 a0_0, .int .i64 a0_1, .int .i64 a0_2, .int .i64 a0_3] 109 fun gb173 hg w22 hbox hb => ?_; have BK173 := mkA (hbox); have GW173 := gs_ hg (bs0_ HB.out); have GE173 := GW173; replace HB := mkA (below_step (bs0_ HB.out) hb); clear hb hbox hg) | ((with_reducible refine gt_ 3 ?_); refine bx_ 3 #[.int .i64 a1_0, .int .i64 a1_1, .int .i64 a1_2, .int .i64 a1_3] 109 fun gb174 hg w23 hbox hb => ?_; have BK174 := mkA (hbox); have GW174 := gs_ hg (bs1_ HB.out GE173.out); have GE174 := GW174; replace HB := mkA (below_step (bs1_ HB.out GE173.out) hb); have NB173_174 := nl_ hg (bl_ BK173.out); have NB174_173 := nr_ hg (bl_ BK173.out); replace BK173 := mkA (blk_below (bl_ BK173.out) hb); clear hb hbox hg; have hnb24 := NB173_174.out; have hnc24 := NB174_173.out; obtain ⟨hcz25_0, hcz25_1, hcz25_2, hcz25_3, hfz25_0, hfz25_1, hfz25_2, hfz25_3⟩ := z4_ BK173.out; obtain ⟨hcz26_0, hcz26_1, hcz26_2, hcz26_3, hfz26_0, hfz26_1, hfz26_2, hfz26_3⟩ := z4_ BK174.out))
   go_ret
   exact ⟨re_, bs2_ HB.out GE173.out GE174.out⟩
 rw [if_pos c4] at H
 have c4b0 : (a0_1 == a1_1) = true := beq_iff_eq.mpr c4
 have c4b1 : (a0_1 != a1_1) = false := bne_eq_false_iff_eq.mpr c4
 clear c4
 by_cases c5 : a0_2 = a1_2
 rotate_left
 · rw [if_neg c5] at H
   have c5b0 : (a0_2 == a1_2) = false := beq_eq_false_iff_ne.mpr c5
   have c5b1 : (a0_2 != a1_2) = true := bne_iff_ne.mpr c5
   obtain rfl := Option.some.inj H
   go_enter Try.func85, Try.ntmps85
   go_wp2_with (first | ((with_reducible refine gt_ 2 ?_); refine bx_ 2 #[.int .i64 a0_0, .int .i64 a0_1, .int .i64 a0_2, .int .i64 a0_3] 109 fun gb173 hg w17 hbox hb => ?_; have BK173 := mkA (hbox); have GW173 := gs_ hg (bs0_ HB.out); have GE173 := GW173; replace HB := mkA (below_step (bs0_ HB.out) hb); clear hb hbox hg) | ((with_reducible refine gt_ 3 ?_); refine bx_ 3 #[.int .i64 a1_0, .int .i64 a1_1, .int .i64 a1_2, .int .i64 a1_3] 109 fun gb174 hg w18 hbox hb => ?_; have BK174 := mkA (hbox); have GW174 := gs_ hg (bs1_ HB.out GE173.out); have GE174 := GW174; replace HB := mkA (below_step (bs1_ HB.out GE173.out) hb); have NB173_174 := nl_ hg (bl_ BK173.out); have NB174_173 := nr_ hg (bl_ BK173.out); replace BK173 := mkA (blk_below (bl_ BK173.out) hb); clear hb hbox hg; have hnb19 := NB173_174.out; have hnc19 := NB174_173.out; obtain ⟨hcz20_0, hcz20_1, hcz20_2, hcz20_3, hfz20_0, hfz20_1, hfz20_2, hfz20_3⟩ := z4_ BK173.out; obtain ⟨hcz21_0, hcz21_1, hcz21_2, hcz21_3, hfz21_0, hfz21_1, hfz21_2, hfz21_3⟩ := z4_ BK174.out))
   go_ret
   exact ⟨re_, bs2_ HB.out GE173.out GE174.out⟩
 rw [if_pos c5] at H
 have c5b0 : (a0_2 == a1_2) = true := beq_iff_eq.mpr c5
 have c5b1 : (a0_2 != a1_2) = false := bne_eq_false_iff_eq.mpr c5
 clear c5
 by_cases c6 : a0_3 = a1_3
 rotate_left
 · rw [if_neg c6] at H
   have c6b0 : (a0_3 == a1_3) = false := beq_eq_false_iff_ne.mpr c6
   have c6b1 : (a0_3 != a1_3) = true := bne_iff_ne.mpr c6
   obtain rfl := Option.some.inj H
   go_enter Try.func85, Try.ntmps85
   go_wp2_with (first | ((with_reducible refine gt_ 2 ?_); refine bx_ 2 #[.int .i64 a0_0, .int .i64 a0_1, .int .i64 a0_2, .int .i64 a0_3] 109 fun gb173 hg w12 hbox hb => ?_; have BK173 := mkA (hbox); have GW173 := gs_ hg (bs0_ HB.out); have GE173 := GW173; replace HB := mkA (below_step (bs0_ HB.out) hb); clear hb hbox hg) | ((with_reducible refine gt_ 3 ?_); refine bx_ 3 #[.int .i64 a1_0, .int .i64 a1_1, .int .i64 a1_2, .int .i64 a1_3] 109 fun gb174 hg w13 hbox hb => ?_; have BK174 := mkA (hbox); have GW174 := gs_ hg (bs1_ HB.out GE173.out); have GE174 := GW174; replace HB := mkA (below_step (bs1_ HB.out GE173.out) hb); have NB173_174 := nl_ hg (bl_ BK173.out); have NB174_173 := nr_ hg (bl_ BK173.out); replace BK173 := mkA (blk_below (bl_ BK173.out) hb); clear hb hbox hg; have hnb14 := NB173_174.out; have hnc14 := NB174_173.out; obtain ⟨hcz15_0, hcz15_1, hcz15_2, hcz15_3, hfz15_0, hfz15_1, hfz15_2, hfz15_3⟩ := z4_ BK173.out; obtain ⟨hcz16_0, hcz16_1, hcz16_2, hcz16_3, hfz16_0, hfz16_1, hfz16_2, hfz16_3⟩ := z4_ BK174.out))
   go_ret
   exact ⟨re_, bs2_ HB.out GE173.out GE174.out⟩
 rw [if_pos c6] at H
 have c6b0 : (a0_3 == a1_3) = true := beq_iff_eq.mpr c6
 have c6b1 : (a0_3 != a1_3) = false := bne_eq_false_iff_eq.mpr c6
 clear c6
 obtain rfl := Option.some.inj H
 go_enter Try.func85, Try.ntmps85
 go_wp2_with (first | ((with_reducible refine gt_ 2 ?_); refine bx_ 2 #[.int .i64 a0_0, .int .i64 a0_1, .int .i64 a0_2, .int .i64 a0_3] 109 fun gb173 hg w7 hbox hb => ?_; have BK173 := mkA (hbox); have GW173 := gs_ hg (bs0_ HB.out); have GE173 := GW173; replace HB := mkA (below_step (bs0_ HB.out) hb); clear hb hbox hg) | ((with_reducible refine gt_ 3 ?_); refine bx_ 3 #[.int .i64 a1_0, .int .i64 a1_1, .int .i64 a1_2, .int .i64 a1_3] 109 fun gb174 hg w8 hbox hb => ?_; have BK174 := mkA (hbox); have GW174 := gs_ hg (bs1_ HB.out GE173.out); have GE174 := GW174; replace HB := mkA (below_step (bs1_ HB.out GE173.out) hb); have NB173_174 := nl_ hg (bl_ BK173.out); have NB174_173 := nr_ hg (bl_ BK173.out); replace BK173 := mkA (blk_below (bl_ BK173.out) hb); clear hb hbox hg; have hnb9 := NB173_174.out; have hnc9 := NB174_173.out; obtain ⟨hcz10_0, hcz10_1, hcz10_2, hcz10_3, hfz10_0, hfz10_1, hfz10_2, hfz10_3⟩ := z4_ BK173.out; obtain ⟨hcz11_0, hcz11_1, hcz11_2, hcz11_3, hfz11_0, hfz11_1, hfz11_2, hfz11_3⟩ := z4_ BK174.out))
 go_ret
 exact ⟨re_, bs2_ HB.out GE173.out GE174.out⟩
end Go.Proofs.Ytakagkflgkoiiaa.GFnExactIsCover

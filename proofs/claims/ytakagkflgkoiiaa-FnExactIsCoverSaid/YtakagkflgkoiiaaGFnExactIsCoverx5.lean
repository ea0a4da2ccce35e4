-- Written by the session's own program (gen.py) out of the translation's print. Lean checks it.
import Derived.Test.YtakagkflgkoiiaaQ
import Derived.Test.YtakagkflgkoiiaaGFnExactIsCoverx0
import Derived.Test.YtakagkflgkoiiaaGFnExactIsCoverx4
namespace Go.Proofs.Ytakagkflgkoiiaa.GFnExactIsCover
open Go.RowKit Go.Proofs.YtakagkflgkoiiaaW.PrintWords Go.Proofs.YtakagkflgkoiiaaW.PrintLast Go.Proofs.YtakagkflgkoiiaaW.PrintMore
open List renaming setIfInBounds_toArray → sA, set_cons_zero → sB, set_cons_succ → sC
open Go.Proofs.YtakagkflgkoiiaaW.PrintWords.Aside0 renaming mk → mkA
open Go.Proofs.YtakagkflgkoiiaaX (dt_ bc_ p0_ p1_ bl_ cb_ bs0_ bs1_ bs2_ bs3_ bs4_ bs5_ bs6_ bs7_ bs8_ bs9_ bs10_ bs11_ bs12_)
open Go.Proofs.YtakagkflgkoiiaaQ
attribute [local go_sem] max2_int min2_int max_two min_two max_three min_three max_four min_four 
set_option linter.unusedVariables false
set_option linter.unusedSimpArgs false

/-! ### laws_eqLaidS: function 51 -/
def laws_eqLaidS.l0 : Nat → List (S109) → List (S109) → Int → Option (Bool)
  | 0, _, _, _ => none
  | k + 1, x0, x1, x5 => if x5 < (x0.length : Int) then (if 0 ≤ x5 then (if x5 < (x1.length : Int) then ((laws_eqLaid.f ((rd_T109 x0 x5).f0) ((rd_T109 x0 x5).f1) ((rd_T109 x0 x5).f2) ((rd_T109 x0 x5).f3) ((rd_T109 x1 x5).f0) ((rd_T109 x1 x5).f1) ((rd_T109 x1 x5).f2) ((rd_T109 x1 x5).f3)).bind fun t177 => (if t177 = true then (laws_eqLaidS.l0 k x0 x1 (wrap64 (x5 + 1))) else (some false))) else (none)) else (none)) else (some true)
def laws_eqLaidS.f (k : Nat) (l0 : List (S109)) (l1 : List (S109)) : Option (Bool) := if (l0.length : Int) = (l1.length : Int) then (laws_eqLaidS.l0 k l0 l1 0) else (some false)
def laws_eqLaidS.T6 : Bool × List (List Nat × List Nat) := (true, [([], []), ([], []), ([0, 1], [0, 1]), ([2], [2]), ([], []), ([], []), ([4, 5], [4, 5]), ([6], [6]), ([3, 7], [3, 7]), ([8], [8])])
def laws_eqLaidS.B6 : List Nat := [0, 0, 3, 7, 0, 0, 48, 112, 255, 511]
theorem laws_eqLaidS.tab6 : rtab .any (opsOf Try.f51 6) = laws_eqLaidS.T6 := by kernel_rfl
theorem laws_eqLaidS.bits6 : waitsOk laws_eqLaidS.T6.2 laws_eqLaidS.B6 = true := by kernel_rfl
set_option maxHeartbeats 8000000 in
set_option maxRecDepth 100000 in
theorem laws_eqLaidS.calls (k : Nat) (A0 : Option Addr) (c0 : Nat) (l0 : List (S109)) (A1 : Option Addr) (c1 : Nat) (l1 : List (S109)) (r : Bool) (w : World) (hr0 : Kd.C k109 w A0 l0.length l0) (hc0 : l0.length ≤ c0) (hr1 : Kd.C k109 w A1 l1.length l1) (hc1 : l1.length ≤ c1) (h : laws_eqLaidS.f k l0 l1 = some r) :
 Calls Try.prog 51 #[.slice A0 l0.length c0, .slice A1 l1.length c1] w fun e w' => e = .returned (.bool r) ∧ Below w.heap.size w w' := by
 have hu109 := Try.underlying109
 have HR0 := mkA hr0
 have HC0 := mkA hc0
 clear hr0 hc0
 have HR1 := mkA hr1
 have HC1 := mkA hc1
 clear hr1 hc1
 have HB := mkA (Below.refl w.heap.size w)
 unfold laws_eqLaidS.f at h
 have H := h
 clear h
 by_cases c3 : (l0.length : Int) = (l1.length : Int)
 rotate_left
 · rw [if_neg c3] at H
   have c3b0 : ((l0.length : Int) == (l1.length : Int)) = false := beq_eq_false_iff_ne.mpr c3
   have c3b1 : ((l0.length : Int) != (l1.length : Int)) = true := bne_iff_ne.mpr c3
   have c3b2 : (l0.length == l1.length) = false := by first | simpa using c3 | (simp at c3 ⊢; omega)
   obtain rfl := Option.some.inj H
   go_enter Try.func51, Try.ntmps51
   go_wp2
   go_ret
   exact ⟨re_, bs0_ HB.out⟩
 rw [if_pos c3] at H
 have c3b0 : ((l0.length : Int) == (l1.length : Int)) = true := beq_iff_eq.mpr c3
 have c3b1 : ((l0.length : Int) != (l1.length : Int)) = false := bne_eq_false_iff_eq.mpr c3
 have c3b2 : (l0.length == l1.length) = true := by first | simpa using c3 | (simp at c3 ⊢; omega)
 clear c3
 have H' := mkA H
 clear H
 go_enter Try.func51, Try.ntmps51
 go_wp2
 go_loopg [5] k (fun kq v5 w' => ∃ (x5_1 : Int), v5 = .int .i64 x5_1 ∧ Aside0 (laws_eqLaidS.l0 kq l0 l1 x5_1 = some r) ∧ Aside0 (kq ≤ k) ∧ Aside0 (Below w.heap.size w w'))
 case atStart => exact ⟨(0), rf_, H', ⟨Nat.le_refl _⟩, ⟨bs0_ HB.out⟩⟩
 case round =>
  clear H'
  try clear c3 c3b0 c3b1 c3b2
  obtain ⟨x5_1, rfl, HA, HK1, HB⟩ := hrel
  cases gk with
  | zero => exact absurd HA.out (by simp [laws_eqLaidS.l0])
  | succ k1 =>
   have H := HA.out
   clear HA
   simp only [laws_eqLaidS.l0] at H
   by_cases c4 : x5_1 < (l0.length : Int)
   rotate_left
   · rw [if_neg c4] at H
     have c4b0 := decide_eq_false c4
     clear c4
     obtain rfl := Option.some.inj H
     go_wp2
     go_ret
     exact ⟨re_, bs0_ HB.out⟩
   rw [if_pos c4] at H
   have c4b0 := decide_eq_true c4
   clear c4
   revert H
   refine ng_ fun c5 => ng_ fun c6 => ob_ fun t177 A7 => ?_
   intro H
   have c5b0 := decide_eq_true c5
   clear c5
   have c6b0 := decide_eq_true c6
   clear c6
   by_cases c8 : t177 = true
   rotate_left
   · replace c8 := Bool.eq_false_iff.mpr c8
     subst c8
     rw [if_neg Bool.false_ne_true] at H
     obtain rfl := Option.some.inj H
     try go_wp2
     replace HB := mkA (below_drew1 HB.out)
     obtain ⟨ad175, e175, hw175_0, hw175_1, hw175_2, hw175_3⟩ := at_T109 HR0.out x5_1 dt_ dt_
     cases e175
     obtain ⟨hx175_0, hx175_1, hx175_2, hx175_3⟩ := b4_ HB.out hw175_0 hw175_1 hw175_2 hw175_3
     have p175 : (0 ≤ (x5_1 : Int)) = True := eq_true dt_
     have q175 : (x5_1 < (l0.length : Int)) = True := eq_true dt_
     obtain ⟨ad176, e176, hw176_0, hw176_1, hw176_2, hw176_3⟩ := at_T109 HR1.out x5_1 dt_ dt_
     cases e176
     obtain ⟨hx176_0, hx176_1, hx176_2, hx176_3⟩ := b4_ HB.out hw176_0 hw176_1 hw176_2 hw176_3
     have p176 : (0 ≤ (x5_1 : Int)) = True := eq_true dt_
     have q176 : (x5_1 < (l1.length : Int)) = True := eq_true dt_
     refine st_ 10 (fun w' => C_ hw175_0 w' ∧ C_ hw175_1 w' ∧ C_ hw175_2 w' ∧ C_ hw175_3 w' ∧ C_ hw176_0 w' ∧ C_ hw176_1 w' ∧ C_ hw176_2 w' ∧ C_ hw176_3 w') [] laws_eqLaidS.tab6 laws_eqLaidS.bits6 sp_ fun hHeld HT_ HW_ => ?_
     generalize wr.drew = w11 at HB hx175_0 hx175_1 hx175_2 hx175_3 hx176_0 hx176_1 hx176_2 hx176_3 hHeld ⊢
     refine a1_ 0 17 (h := a1_ 1 18 (h := a1_ 2 19 (h := a1_ 4 21 (h := a1_ 5 22 (h := a1_ 6 23 (h := tk_ 3 20 (h := tk_ 7 24 (h := ?_))))))))
     refine on_ 8 25 fun K hK => ?_
     refine go_ Try.func85 #[.agg #[.int .i64 ((rd_T109 l0 x5_1).f0), .int .i64 ((rd_T109 l0 x5_1).f1), .int .i64 ((rd_T109 l0 x5_1).f2), .int .i64 ((rd_T109 l0 x5_1).f3)], .agg #[.int .i64 ((rd_T109 l1 x5_1).f0), .int .i64 ((rd_T109 l1 x5_1).f1), .int .i64 ((rd_T109 l1 x5_1).f2), .int .i64 ((rd_T109 l1 x5_1).f3)]] ?_
     with_reducible refine (laws_eqLaid.calls ((rd_T109 l0 x5_1).f0) ((rd_T109 l0 x5_1).f1) ((rd_T109 l0 x5_1).f2) ((rd_T109 l0 x5_1).f3) ((rd_T109 l1 x5_1).f0) ((rd_T109 l1 x5_1).f1) ((rd_T109 l1 x5_1).f2) ((rd_T109 l1 x5_1).f3) false _ A7.out).mono ?_
     rintro e w12 ⟨rfl, hb⟩
     refine ⟨_, rfl, ?_⟩
     replace HB := mkA (below_step (bs0_ HB.out) hb)
     (try clear hb)
     (try clear hb2)
     (try clear hk)
     (try clear hi)
     refine hK.out _ _ sp_ fun hHeld => ?_
     clear hK K
     refine nm_ 25 ?_
     refine a1_ 9 26 (h := ?_)
     refine dn_ ?_
     try go_wp2
     go_ret
     exact ⟨re_, bs0_ HB.out⟩
   subst c8
   rw [if_pos rfl] at H
   have H' := mkA H
   clear H
   try go_wp2
   replace HB := mkA (below_drew1 HB.out)
   obtain ⟨ad175, e175, hw175_0, hw175_1, hw175_2, hw175_3⟩ := at_T109 HR0.out x5_1 dt_ dt_
   cases e175
   obtain ⟨hx175_0, hx175_1, hx175_2, hx175_3⟩ := b4_ HB.out hw175_0 hw175_1 hw175_2 hw175_3
   have p175 : (0 ≤ (x5_1 : Int)) = True := eq_true dt_
   have q175 : (x5_1 < (l0.length : Int)) = True := eq_true dt_
   obtain ⟨ad176, e176, hw176_0, hw176_1, hw176_2, hw176_3⟩ := at_T109 HR1.out x5_1 dt_ dt_
   cases e176
   obtain ⟨hx176_0, hx176_1, hx176_2, hx176_3⟩ := b4_ HB.out hw176_0 hw176_1 hw176_2 hw176_3
   have p176 : (0 ≤ (x5_1 : Int)) = True := eq_true dt_
   have q176 : (x5_1 < (l1.length : Int)) = True := eq_true dt_
   refine st_ 10 (fun w' => C_ hw175_0 w' ∧ C_ hw175_1 w' ∧ C_ hw175_2 w' ∧ C_ hw175_3 w' ∧ C_ hw176_0 w' ∧ C_ hw176_1 w' ∧ C_ hw176_2 w' ∧ C_ hw176_3 w') [] laws_eqLaidS.tab6 laws_eqLaidS.bits6 sp_ fun hHeld HT_ HW_ => ?_
   generalize wr.drew = w9 at HB hx175_0 hx175_1 hx175_2 hx175_3 hx176_0 hx176_1 hx176_2 hx176_3 hHeld ⊢
   refine a1_ 0 17 (h := a1_ 1 18 (h := a1_ 2 19 (h := a1_ 4 21 (h := a1_ 5 22 (h := a1_ 6 23 (h := tk_ 3 20 (h := tk_ 7 24 (h := ?_))))))))
   refine on_ 8 25 fun K hK => ?_
   refine go_ Try.func85 #[.agg #[.int .i64 ((rd_T109 l0 x5_1).f0), .int .i64 ((rd_T109 l0 x5_1).f1), .int .i64 ((rd_T109 l0 x5_1).f2), .int .i64 ((rd_T109 l0 x5_1).f3)], .agg #[.int .i64 ((rd_T109 l1 x5_1).f0), .int .i64 ((rd_T109 l1 x5_1).f1), .int .i64 ((rd_T109 l1 x5_1).f2), .int .i64 ((rd_T109 l1 x5_1).f3)]] ?_
   with_reducible refine (laws_eqLaid.calls ((rd_T109 l0 x5_1).f0) ((rd_T109 l0 x5_1).f1) ((rd_T109 l0 x5_1).f2) ((rd_T109 l0 x5_1).f3) ((rd_T109 l1 x5_1).f0) ((rd_T109 l1 x5_1).f1) ((rd_T109 l1 x5_1).f2) ((rd_T109 l1 x5_1).f3) true _ A7.out).mono ?_
   rintro e w10 ⟨rfl, hb⟩
   refine ⟨_, rfl, ?_⟩
   replace HB := mkA (below_step (bs0_ HB.out) hb)
   (try clear hb)
   (try clear hb2)
   (try clear hk)
   (try clear hi)
   refine hK.out _ _ sp_ fun hHeld => ?_
   clear hK K
   refine nm_ 25 ?_
   refine a1_ 9 26 (h := ?_)
   refine dn_ ?_
   try go_wp2
   go_roundg k1
   case measure => have := HK1.out; omega
   case rel => exact ⟨(wrap64 (x5_1 + 1)), rf_, H', ⟨om_ HK1.out⟩, ⟨bs0_ HB.out⟩⟩
/-! ### spec_l00In: function 60 -/
def spec_l00In.f (a0 : Int) (a1 : Int) (a2 : Int) : Option (Bool) := if a0 ≥ a1 then (some (decide (a0 ≤ a2))) else (some false)
set_option maxHeartbeats 8000000 in
set_option maxRecDepth 100000 in
theorem spec_l00In.calls (a0 : Int) (a1 : Int) (a2 : Int) (r : Bool) (w : World) (h : spec_l00In.f a0 a1 a2 = some r) :
 Calls Try.prog 60 #[.int .i64 a0, .int .i64 a1, .int .i64 a2] w fun e w' => e = .returned (.bool r) ∧ Drawn0 w w' := by
 unfold spec_l00In.f at h
 have H := h
 clear h
 by_cases c4 : a0 ≥ a1
 · rw [if_pos c4] at H
   have c4b0 := decide_eq_true c4
   clear c4
   obtain rfl := Option.some.inj H
   go_enter Try.func60, Try.ntmps60
   go_wp2
   go_ret
   exact ⟨by first | rfl | (simp; done) | (simp [*]; done) | (simp [i64_w, i32_w]; done), by repeat (first | exact Drawn0.refl _ | apply Drawn0.step)⟩
 · rw [if_neg c4] at H
   have c4b0 := decide_eq_false c4
   clear c4
   obtain rfl := Option.some.inj H
   go_enter Try.func60, Try.ntmps60
   go_wp2
   go_ret
   exact ⟨by first | rfl | (simp; done) | (simp [*]; done) | (simp [i64_w, i32_w]; done), by repeat (first | exact Drawn0.refl _ | apply Drawn0.step)⟩
end Go.Proofs.Ytakagkflgkoiiaa.GFnExactIsCover

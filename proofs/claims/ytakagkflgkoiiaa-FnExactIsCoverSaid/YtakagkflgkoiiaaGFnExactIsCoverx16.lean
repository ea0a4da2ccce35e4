-- Written by the session's own program (gen.py) out of the translation's print. Lean checks it.
import Derived.Test.YtakagkflgkoiiaaQ
import Derived.Test.YtakagkflgkoiiaaGFnExactIsCoverx0
import Derived.Test.YtakagkflgkoiiaaGFnExactIsCoverx6
import Derived.Test.YtakagkflgkoiiaaGFnExactIsCoverx10
import Derived.Test.YtakagkflgkoiiaaGFnExactIsCoverx14
import Derived.Test.YtakagkflgkoiiaaGFnExactIsCoverx15
namespace Go.Proofs.Ytakagkflgkoiiaa.GFnExactIsCover
open Go.RowKit Go.Proofs.YtakagkflgkoiiaaW.PrintWords Go.Proofs.YtakagkflgkoiiaaW.PrintLast Go.Proofs.YtakagkflgkoiiaaW.PrintMore
open List renaming setIfInBounds_toArray → sA, set_cons_zero → sB, set_cons_succ → sC
open Go.Proofs.YtakagkflgkoiiaaW.PrintWords.Aside0 renaming mk → mkA
open Go.Proofs.YtakagkflgkoiiaaX (dt_ bc_ p0_ p1_ bl_ cb_ bs0_ bs1_ bs2_ bs3_ bs4_ bs5_ bs6_ bs7_ bs8_ bs9_ bs10_ bs11_ bs12_)
open Go.Proofs.YtakagkflgkoiiaaQ
attribute [local go_sem] max2_int min2_int max_two min_two max_three min_three max_four min_four 
set_option linter.unusedVariables false
set_option linter.unusedSimpArgs false

/-! ### spec_IsCover: function 52 -/
def spec_IsCover.f (k : Nat) (a0_0 : Int) (a0_1 : Int) (l0_2 : List Int) (l1 : List (S53)) (l2 : List (S109)) : Option (Bool) := (spec_l19Ok.f k [(⟨a0_0, a0_1, l0_2⟩ : S27)]).bind fun t389 => (if t389 = true then ((spec_l19Pieces.f k l1).bind fun t390 => (if t390 = true then ((spec_l19Laid.f k [(⟨a0_0, a0_1, l0_2⟩ : S27)] l1 l2).bind fun t391 => (if t391 = true then ((spec_l19Uncovered.f k [(⟨a0_0, a0_1, l0_2⟩ : S27)] l1 l2).bind fun t392 => (some (decide (t392 < 0)))) else (some false))) else (some false))) else (some false))
set_option maxHeartbeats 8000000 in
set_option maxRecDepth 100000 in
theorem spec_IsCover.calls (k : Nat) (a0_0 : Int) (a0_1 : Int) (A0_2 : Option Addr) (c0_2 : Nat) (l0_2 : List Int) (A1 : Option Addr) (c1 : Nat) (l1 : List (S53)) (A2 : Option Addr) (c2 : Nat) (l2 : List (S109)) (r : Bool) (w : World) (hr0_2 : Kd.C (Kd.int .i64) w A0_2 l0_2.length l0_2) (hc0_2 : l0_2.length ≤ c0_2) (hr1 : Kd.C k53 w A1 l1.length l1) (hc1 : l1.length ≤ c1) (hr2 : Kd.C k109 w A2 l2.length l2) (hc2 : l2.length ≤ c2) (h : spec_IsCover.f k a0_0 a0_1 l0_2 l1 l2 = some r) :
 Calls Try.prog 52 #[.agg #[.int .i64 a0_0, .int .i64 a0_1, .slice A0_2 l0_2.length c0_2], .slice A1 l1.length c1, .slice A2 l2.length c2] w fun e w' => e = .returned (.bool r) ∧ Below w.heap.size w w' := by
 have hu27 := Try.underlying27
 have HR0_2 := mkA hr0_2
 have HC0_2 := mkA hc0_2
 clear hr0_2 hc0_2
 have HR1 := mkA hr1
 have HC1 := mkA hc1
 clear hr1 hc1
 have HR2 := mkA hr2
 have HC2 := mkA hc2
 clear hr2 hc2
 have HB := mkA (Below.refl w.heap.size w)
 unfold spec_IsCover.f at h
 have H := h
 clear h
 revert H
 refine ob_ fun t389 A4 => ?_
 intro H
 by_cases c5 : t389 = true
 rotate_left
 · replace c5 := Bool.eq_false_iff.mpr c5
   subst c5
   rw [if_neg Bool.false_ne_true] at H
   obtain rfl := Option.some.inj H
   go_enter Try.func52, Try.ntmps52
   go_wp2_with (first | ((with_reducible refine gt_ 3 ?_); refine bx_ 3 #[.int .i64 a0_0, .int .i64 a0_1, .slice A0_2 l0_2.length c0_2] 27 fun gb388 hg w23 hbox hb => ?_; have BK388 := mkA (hbox); have GW388 := gs_ hg (bs0_ HB.out); have GE388 := GW388; replace HB := mkA (below_step (bs0_ HB.out) hb); clear hb hbox hg) | ((with_reducible refine gk_ 55 ?_); refine gl_ (some 7) Try.func55 #[.pointer (some ⟨gb388, 0, none⟩)] ?_; (with_reducible refine (spec_l19Ok.calls k _ [(⟨a0_0, a0_1, l0_2⟩ : S27)] false _ ?side1 A4.out).mono ?_); (case side1 => exact Go.Proofs.YtakagkflgkoiiaaX.rp_box (t := 27) (fr := (0, 0)) (bl_ BK388.out) (k27_mk _ (⟨a0_0, a0_1, l0_2⟩ : S27) (by exact HC0_2.out) (by repeat (first | exact (Kd.C_below HR0_2.out HB.out) | (with_reducible refine Kd.C_alloc ?_ _) | (with_reducible refine Kd.C_drewN ?_ _) | (with_reducible refine Kd.C_drew ?_))))); rintro e w24 ⟨rfl, hb⟩; refine ⟨_, rfl, ?_⟩; replace BK388 := mkA (blk_below (bl_ BK388.out) hb); replace HB := mkA (below_step (bs1_ HB.out GE388.out) hb); (try clear hb); (try clear hb2); (try clear hk); (try clear hi)))
   go_ret
   exact ⟨re_, bs1_ HB.out GE388.out⟩
 subst c5
 rw [if_pos rfl] at H
 revert H
 refine ob_ fun t390 A6 => ?_
 intro H
 by_cases c7 : t390 = true
 rotate_left
 · replace c7 := Bool.eq_false_iff.mpr c7
   subst c7
   rw [if_neg Bool.false_ne_true] at H
   obtain rfl := Option.some.inj H
   go_enter Try.func52, Try.ntmps52
   go_wp2_with (first | ((with_reducible refine gt_ 3 ?_); refine bx_ 3 #[.int .i64 a0_0, .int .i64 a0_1, .slice A0_2 l0_2.length c0_2] 27 fun gb388 hg w20 hbox hb => ?_; have BK388 := mkA (hbox); have GW388 := gs_ hg (bs0_ HB.out); have GE388 := GW388; replace HB := mkA (below_step (bs0_ HB.out) hb); clear hb hbox hg) | ((with_reducible refine gk_ 55 ?_); refine gl_ (some 7) Try.func55 #[.pointer (some ⟨gb388, 0, none⟩)] ?_; (with_reducible refine (spec_l19Ok.calls k _ [(⟨a0_0, a0_1, l0_2⟩ : S27)] true _ ?side1 A4.out).mono ?_); (case side1 => exact Go.Proofs.YtakagkflgkoiiaaX.rp_box (t := 27) (fr := (0, 0)) (bl_ BK388.out) (k27_mk _ (⟨a0_0, a0_1, l0_2⟩ : S27) (by exact HC0_2.out) (by repeat (first | exact (Kd.C_below HR0_2.out HB.out) | (with_reducible refine Kd.C_alloc ?_ _) | (with_reducible refine Kd.C_drewN ?_ _) | (with_reducible refine Kd.C_drew ?_))))); rintro e w21 ⟨rfl, hb⟩; refine ⟨_, rfl, ?_⟩; replace BK388 := mkA (blk_below (bl_ BK388.out) hb); replace HB := mkA (below_step (bs1_ HB.out GE388.out) hb); (try clear hb); (try clear hb2); (try clear hk); (try clear hi)) | (go_at_call 69; (with_reducible refine (spec_l19Pieces.calls k _ _ l1 false _ ?side1 ?side2 A6.out).mono ?_); (case side1 => exact cb_ HR1.out HB.out); (case side2 => exact HC1.out); rintro e w22 ⟨rfl, hb⟩; replace BK388 := mkA (blk_below (bl_ BK388.out) hb); replace HB := mkA (below_step (bs1_ HB.out GE388.out) hb); (try clear hb); (try clear hb2); (try clear hk); (try clear hi)))
   go_ret
   exact ⟨re_, bs1_ HB.out GE388.out⟩
 subst c7
 rw [if_pos rfl] at H
 revert H
 refine ob_ fun t391 A8 => ?_
 intro H
 by_cases c9 : t391 = true
 rotate_left
 · replace c9 := Bool.eq_false_iff.mpr c9
   subst c9
   rw [if_neg Bool.false_ne_true] at H
   obtain rfl := Option.some.inj H
   go_enter Try.func52, Try.ntmps52
   go_wp2_with (first | ((with_reducible refine gt_ 3 ?_); refine bx_ 3 #[.int .i64 a0_0, .int .i64 a0_1, .slice A0_2 l0_2.length c0_2] 27 fun gb388 hg w16 hbox hb => ?_; have BK388 := mkA (hbox); have GW388 := gs_ hg (bs0_ HB.out); have GE388 := GW388; replace HB := mkA (below_step (bs0_ HB.out) hb); clear hb hbox hg) | ((with_reducible refine gk_ 55 ?_); refine gl_ (some 7) Try.func55 #[.pointer (some ⟨gb388, 0, none⟩)] ?_; (with_reducible refine (spec_l19Ok.calls k _ [(⟨a0_0, a0_1, l0_2⟩ : S27)] true _ ?side1 A4.out).mono ?_); (case side1 => exact Go.Proofs.YtakagkflgkoiiaaX.rp_box (t := 27) (fr := (0, 0)) (bl_ BK388.out) (k27_mk _ (⟨a0_0, a0_1, l0_2⟩ : S27) (by exact HC0_2.out) (by repeat (first | exact (Kd.C_below HR0_2.out HB.out) | (with_reducible refine Kd.C_alloc ?_ _) | (with_reducible refine Kd.C_drewN ?_ _) | (with_reducible refine Kd.C_drew ?_))))); rintro e w17 ⟨rfl, hb⟩; refine ⟨_, rfl, ?_⟩; replace BK388 := mkA (blk_below (bl_ BK388.out) hb); replace HB := mkA (below_step (bs1_ HB.out GE388.out) hb); (try clear hb); (try clear hb2); (try clear hk); (try clear hi)) | (go_at_call 69; (with_reducible refine (spec_l19Pieces.calls k _ _ l1 true _ ?side1 ?side2 A6.out).mono ?_); (case side1 => exact cb_ HR1.out HB.out); (case side2 => exact HC1.out); rintro e w18 ⟨rfl, hb⟩; replace BK388 := mkA (blk_below (bl_ BK388.out) hb); replace HB := mkA (below_step (bs1_ HB.out GE388.out) hb); (try clear hb); (try clear hb2); (try clear hk); (try clear hi)) | (go_at_call 81; (with_reducible refine (spec_l19Laid.calls k _ [(⟨a0_0, a0_1, l0_2⟩ : S27)] _ _ l1 _ _ l2 false _ ?side1 ?side2 ?side3 ?side4 ?side5 A8.out).mono ?_); (case side1 => exact Go.Proofs.YtakagkflgkoiiaaX.rp_box (t := 27) (fr := (0, 0)) (bl_ BK388.out) (k27_mk _ (⟨a0_0, a0_1, l0_2⟩ : S27) (by exact HC0_2.out) (by repeat (first | exact (Kd.C_below HR0_2.out HB.out) | (with_reducible refine Kd.C_alloc ?_ _) | (with_reducible refine Kd.C_drewN ?_ _) | (with_reducible refine Kd.C_drew ?_))))); (case side2 => exact cb_ HR1.out HB.out); (case side3 => exact HC1.out); (case side4 => exact cb_ HR2.out HB.out); (case side5 => exact HC2.out); rintro e w19 ⟨rfl, hb⟩; replace BK388 := mkA (blk_below (bl_ BK388.out) hb); replace HB := mkA (below_step (bs1_ HB.out GE388.out) hb); (try clear hb); (try clear hb2); (try clear hk); (try clear hi)))
   go_ret
   exact ⟨re_, bs1_ HB.out GE388.out⟩
 subst c9
 rw [if_pos rfl] at H
 revert H
 refine ob_ fun t392 A10 => ?_
 intro H
 obtain rfl := Option.some.inj H
 go_enter Try.func52, Try.ntmps52
 go_wp2_with (first | ((with_reducible refine gt_ 3 ?_); refine bx_ 3 #[.int .i64 a0_0, .int .i64 a0_1, .slice A0_2 l0_2.length c0_2] 27 fun gb388 hg w11 hbox hb => ?_; have BK388 := mkA (hbox); have GW388 := gs_ hg (bs0_ HB.out); have GE388 := GW388; replace HB := mkA (below_step (bs0_ HB.out) hb); clear hb hbox hg) | ((with_reducible refine gk_ 55 ?_); refine gl_ (some 7) Try.func55 #[.pointer (some ⟨gb388, 0, none⟩)] ?_; (with_reducible refine (spec_l19Ok.calls k _ [(⟨a0_0, a0_1, l0_2⟩ : S27)] true _ ?side1 A4.out).mono ?_); (case side1 => exact Go.Proofs.YtakagkflgkoiiaaX.rp_box (t := 27) (fr := (0, 0)) (bl_ BK388.out) (k27_mk _ (⟨a0_0, a0_1, l0_2⟩ : S27) (by exact HC0_2.out) (by repeat (first | exact (Kd.C_below HR0_2.out HB.out) | (with_reducible refine Kd.C_alloc ?_ _) | (with_reducible refine Kd.C_drewN ?_ _) | (with_reducible refine Kd.C_drew ?_))))); rintro e w12 ⟨rfl, hb⟩; refine ⟨_, rfl, ?_⟩; replace BK388 := mkA (blk_below (bl_ BK388.out) hb); replace HB := mkA (below_step (bs1_ HB.out GE388.out) hb); (try clear hb); (try clear hb2); (try clear hk); (try clear hi)) | (go_at_call 69; (with_reducible refine (spec_l19Pieces.calls k _ _ l1 true _ ?side1 ?side2 A6.out).mono ?_); (case side1 => exact cb_ HR1.out HB.out); (case side2 => exact HC1.out); rintro e w13 ⟨rfl, hb⟩; replace BK388 := mkA (blk_below (bl_ BK388.out) hb); replace HB := mkA (below_step (bs1_ HB.out GE388.out) hb); (try clear hb); (try clear hb2); (try clear hk); (try clear hi)) | (go_at_call 81; (with_reducible refine (spec_l19Laid.calls k _ [(⟨a0_0, a0_1, l0_2⟩ : S27)] _ _ l1 _ _ l2 true _ ?side1 ?side2 ?side3 ?side4 ?side5 A8.out).mono ?_); (case side1 => exact Go.Proofs.YtakagkflgkoiiaaX.rp_box (t := 27) (fr := (0, 0)) (bl_ BK388.out) (k27_mk _ (⟨a0_0, a0_1, l0_2⟩ : S27) (by exact HC0_2.out) (by repeat (first | exact (Kd.C_below HR0_2.out HB.out) | (with_reducible refine Kd.C_alloc ?_ _) | (with_reducible refine Kd.C_drewN ?_ _) | (with_reducible refine Kd.C_drew ?_))))); (case side2 => exact cb_ HR1.out HB.out); (case side3 => exact HC1.out); (case side4 => exact cb_ HR2.out HB.out); (case side5 => exact HC2.out); rintro e w14 ⟨rfl, hb⟩; replace BK388 := mkA (blk_below (bl_ BK388.out) hb); replace HB := mkA (below_step (bs1_ HB.out GE388.out) hb); (try clear hb); (try clear hb2); (try clear hk); (try clear hi)) | (go_at_call 82; (with_reducible refine (spec_l19Uncovered.calls k _ [(⟨a0_0, a0_1, l0_2⟩ : S27)] _ _ l1 _ _ l2 t392 _ ?side1 ?side2 ?side3 ?side4 ?side5 A10.out).mono ?_); (case side1 => exact Go.Proofs.YtakagkflgkoiiaaX.rp_box (t := 27) (fr := (0, 0)) (bl_ BK388.out) (k27_mk _ (⟨a0_0, a0_1, l0_2⟩ : S27) (by exact HC0_2.out) (by repeat (first | exact (Kd.C_below HR0_2.out HB.out) | (with_reducible refine Kd.C_alloc ?_ _) | (with_reducible refine Kd.C_drewN ?_ _) | (with_reducible refine Kd.C_drew ?_))))); (case side2 => exact cb_ HR1.out HB.out); (case side3 => exact HC1.out); (case side4 => exact cb_ HR2.out HB.out); (case side5 => exact HC2.out); rintro e w15 ⟨rfl, hb⟩; replace BK388 := mkA (blk_below (bl_ BK388.out) hb); replace HB := mkA (below_step (bs1_ HB.out GE388.out) hb); (try clear hb); (try clear hb2); (try clear hk); (try clear hi)))
 go_ret
 exact ⟨re_, bs1_ HB.out GE388.out⟩
/-! ### impl_within: function 57 -/
def impl_within.f (a0 : Int) (a1 : Int) (a2 : Int) : Option (Bool) := if a0 ≥ a1 then (some (decide (a0 ≤ a2))) else (some false)
set_option maxHeartbeats 8000000 in
set_option maxRecDepth 100000 in
theorem impl_within.calls (a0 : Int) (a1 : Int) (a2 : Int) (r : Bool) (w : World) (h : impl_within.f a0 a1 a2 = some r) :
 Calls Try.prog 57 #[.int .i64 a0, .int .i64 a1, .int .i64 a2] w fun e w' => e = .returned (.bool r) ∧ Drawn0 w w' := by
 unfold impl_within.f at h
 have H := h
 clear h
 by_cases c4 : a0 ≥ a1
 · rw [if_pos c4] at H
   have c4b0 := decide_eq_true c4
   clear c4
   obtain rfl := Option.some.inj H
   go_enter Try.func57, Try.ntmps57
   go_wp2
   go_ret
   exact ⟨by first | rfl | (simp; done) | (simp [*]; done) | (simp [i64_w, i32_w]; done), by repeat (first | exact Drawn0.refl _ | apply Drawn0.step)⟩
 · rw [if_neg c4] at H
   have c4b0 := decide_eq_false c4
   clear c4
   obtain rfl := Option.some.inj H
   go_enter Try.func57, Try.ntmps57
   go_wp2
   go_ret
   exact ⟨by first | rfl | (simp; done) | (simp [*]; done) | (simp [i64_w, i32_w]; done), by repeat (first | exact Drawn0.refl _ | apply Drawn0.step)⟩
-- NOT PRINTED: function 86 (slices_IndexFunc_int64_int64)

-- NOT PRINTED: function 58 (slices_ContainsFunc_int64_int64)

/-! ### impl_ValidShape_1: function 59 -/
def impl_ValidShape_1.f (a0 : Int) : Option (Bool) := (impl_within.f a0 0 1).bind fun t393 => (some (!t393))
set_option maxHeartbeats 8000000 in
set_option maxRecDepth 100000 in
theorem impl_ValidShape_1.calls (a0 : Int) (r : Bool) (w : World) (h : impl_ValidShape_1.f a0 = some r) :
 Calls Try.prog 59 #[.int .i64 a0] w fun e w' => e = .returned (.bool r) ∧ Drawn0 w w' := by
 unfold impl_ValidShape_1.f at h
 have H := h
 clear h
 revert H
 refine ob_ fun t393 A2 => ?_
 intro H
 obtain rfl := Option.some.inj H
 go_enter Try.func59, Try.ntmps59
 go_wp2_with (first | ((with_reducible refine gk_ 57 ?_); refine gl_ (some 4) Try.func57 #[.int .i64 a0, .int .i64 0, .int .i64 1] ?_; (with_reducible refine (impl_within.calls a0 0 1 t393 _ A2.out).mono ?_); rintro e w' ⟨rfl, ⟨nd, rfl⟩⟩; refine ⟨_, rfl, ?_⟩))
 go_ret
 exact ⟨by first | rfl | (simp; done) | (simp [*]; done) | (simp [i64_w, i32_w]; done), by repeat (first | exact Drawn0.refl _ | apply Drawn0.step)⟩
/-! ### fi86_59: function 100001 -/
def fi86_59.l0 : Nat → List Int → Int → Int → Option (Int)
  | 0, _, _, _ => none
  | k + 1, x0, x7, x8 => if x8 < x7 then (if 0 ≤ x8 then (if x8 < (x0.length : Int) then ((impl_ValidShape_1.f (rd x0 x8)).bind fun t395 => (if t395 = true then (some x8) else (fi86_59.l0 k x0 x7 (wrap64 (x8 + 1))))) else (none)) else (none)) else (some (-1))
def fi86_59.f (k : Nat) (l0 : List Int)  : Option (Int) := fi86_59.l0 k l0 (l0.length : Int) 0
set_option maxHeartbeats 8000000 in
set_option maxRecDepth 100000 in
theorem fi86_59.calls (k : Nat) (A0 : Option Addr) (c0 : Nat) (l0 : List Int)  (r : Int) (w : World) (hr0 : Kd.C (Kd.int .i64) w A0 l0.length l0) (hc0 : l0.length ≤ c0) (h : fi86_59.f k l0 = some r) :
 Calls Try.prog 86 #[.slice A0 l0.length c0, .func (.func 59) #[] #[]] w fun e w' => e = .returned (.int .i64 r) ∧ Drawn0 w w' := by
 have HR0 := mkA hr0
 have HC0 := mkA hc0
 clear hr0 hc0
 unfold fi86_59.f at h
 have H := h
 clear h
 have H' := mkA H
 clear H
 go_enter Try.func86, Try.ntmps86
 go_wp2
 go_loopg [8] k (fun kq v8 w' => ∃ (x8_1 : Int), v8 = .int .i64 x8_1 ∧ Aside0 (fi86_59.l0 kq l0 (l0.length : Int) x8_1 = some r) ∧ Aside0 (kq ≤ k) ∧ Drawn0 w w')
 case atStart => exact ⟨(0), rf_, H', ⟨Nat.le_refl _⟩, by repeat (first | exact Drawn0.refl _ | apply Drawn0.step)⟩
 case round =>
  clear H'
  obtain ⟨x8_1, rfl, HA, HK1, ⟨m1, rfl⟩⟩ := hrel
  cases gk with
  | zero => exact absurd HA.out (by simp [fi86_59.l0])
  | succ k1 =>
   have H := HA.out
   clear HA
   simp only [fi86_59.l0] at H
   by_cases c3 : x8_1 < (l0.length : Int)
   rotate_left
   · rw [if_neg c3] at H
     have c3b0 := decide_eq_false c3
     clear c3
     obtain rfl := Option.some.inj H
     go_wp2
     go_ret
     exact ⟨by first | rfl | (simp; done) | (simp [*]; done) | (simp [i64_w, i32_w]; done), by repeat (first | exact Drawn0.refl _ | apply Drawn0.step)⟩
   rw [if_pos c3] at H
   have c3b0 := decide_eq_true c3
   clear c3
   revert H
   refine ng_ fun c4 => ng_ fun c5 => ob_ fun t395 A6 => ?_
   intro H
   have c4b0 := decide_eq_true c4
   clear c4
   have c5b0 := decide_eq_true c5
   clear c5
   by_cases c7 : t395 = true
   · subst c7
     rw [if_pos rfl] at H
     obtain rfl := Option.some.inj H
     obtain ⟨ad394, e394, hx394_0⟩ := Kd.at_int HR0.out x8_1 dt_ dt_
     cases e394
     have p394 : (0 ≤ (x8_1 : Int)) = True := eq_true dt_
     have q394 : (x8_1 < (l0.length : Int)) = True := eq_true dt_
     go_wp2_with (first | (go_at_call 59; (with_reducible refine (impl_ValidShape_1.calls (rd l0 x8_1) true _ A6.out).mono ?_); rintro e w' ⟨rfl, ⟨nd, rfl⟩⟩))
     go_ret
     exact ⟨by first | rfl | (simp; done) | (simp [*]; done) | (simp [i64_w, i32_w]; done), by repeat (first | exact Drawn0.refl _ | apply Drawn0.step)⟩
   · replace c7 := Bool.eq_false_iff.mpr c7
     subst c7
     rw [if_neg Bool.false_ne_true] at H
     have H' := mkA H
     clear H
     obtain ⟨ad394, e394, hx394_0⟩ := Kd.at_int HR0.out x8_1 dt_ dt_
     cases e394
     have p394 : (0 ≤ (x8_1 : Int)) = True := eq_true dt_
     have q394 : (x8_1 < (l0.length : Int)) = True := eq_true dt_
     go_wp2_with (first | (go_at_call 59; (with_reducible refine (impl_ValidShape_1.calls (rd l0 x8_1) false _ A6.out).mono ?_); rintro e w' ⟨rfl, ⟨nd, rfl⟩⟩))
     go_roundg k1
     case measure => have := HK1.out; omega
     case rel => exact ⟨(wrap64 (x8_1 + 1)), rf_, H', ⟨om_ HK1.out⟩, by repeat (first | exact Drawn0.refl _ | apply Drawn0.step)⟩
/-! ### fi58_59: function 100000 -/
def fi58_59.f (k : Nat) (l0 : List Int)  : Option (Bool) := (fi86_59.f k l0).bind fun t396 => (some (decide (t396 ≥ 0)))
set_option maxHeartbeats 8000000 in
set_option maxRecDepth 100000 in
theorem fi58_59.calls (k : Nat) (A0 : Option Addr) (c0 : Nat) (l0 : List Int)  (r : Bool) (w : World) (hr0 : Kd.C (Kd.int .i64) w A0 l0.length l0) (hc0 : l0.length ≤ c0) (h : fi58_59.f k l0 = some r) :
 Calls Try.prog 58 #[.slice A0 l0.length c0, .func (.func 59) #[] #[]] w fun e w' => e = .returned (.bool r) ∧ Drawn0 w w' := by
 have HR0 := mkA hr0
 have HC0 := mkA hc0
 clear hr0 hc0
 unfold fi58_59.f at h
 have H := h
 clear h
 revert H
 refine ob_ fun t396 A3 => ?_
 intro H
 obtain rfl := Option.some.inj H
 go_enter Try.func58, Try.ntmps58
 go_wp2_with (first | ((with_reducible refine gk_ 86 ?_); refine gl_ (some 7) Try.func86 #[.slice A0 l0.length c0, .func (.func 59) #[] #[]] ?_; (with_reducible refine (fi86_59.calls k _ _ l0  t396 _ ?side1 ?side2 A3.out).mono ?_); (case side1 => repeat (first | exact HR0.out | (with_reducible refine Kd.C_alloc ?_ _) | (with_reducible refine Kd.C_drewN ?_ _) | (with_reducible refine Kd.C_drew ?_))); (case side2 => exact HC0.out); rintro e w' ⟨rfl, ⟨nd, rfl⟩⟩; refine ⟨_, rfl, ?_⟩))
 go_ret
 exact ⟨by first | rfl | (simp; done) | (simp [*]; done) | (simp [i64_w, i32_w]; done), by repeat (first | exact Drawn0.refl _ | apply Drawn0.step)⟩
/-! ### impl_ValidShape: function 16 -/
def impl_ValidShape.f (k : Nat) (a0_0 : Int) (a0_1 : Int) (l0_2 : List Int) : Option (Bool) := (impl_within.f a0_0 1 12).bind fun t398 => (if t398 = true then ((impl_within.f a0_1 1 12).bind fun t399 => (if t399 = true then (if (l0_2.length : Int) = (wrap64 (a0_0 * a0_1)) then ((fi58_59.f k l0_2).bind fun t400 => (some (!t400))) else (some false)) else (some false))) else (some false))
set_option maxHeartbeats 8000000 in
set_option maxRecDepth 100000 in
theorem impl_ValidShape.calls (k : Nat) (a0_0 : Int) (a0_1 : Int) (A0_2 : Option Addr) (c0_2 : Nat) (l0_2 : List Int) (r : Bool) (w : World) (hr0_2 : Kd.C (Kd.int .i64) w A0_2 l0_2.length l0_2) (hc0_2 : l0_2.length ≤ c0_2) (h : impl_ValidShape.f k a0_0 a0_1 l0_2 = some r) :
 Calls Try.prog 16 #[.agg #[.int .i64 a0_0, .int .i64 a0_1, .slice A0_2 l0_2.length c0_2]] w fun e w' => e = .returned (.bool r) ∧ Below w.heap.size w w' := by
 have hu27 := Try.underlying27
 have HR0_2 := mkA hr0_2
 have HC0_2 := mkA hc0_2
 clear hr0_2 hc0_2
 have HB := mkA (Below.refl w.heap.size w)
 unfold impl_ValidShape.f at h
 have H := h
 clear h
 revert H
 refine ob_ fun t398 A2 => ?_
 intro H
 by_cases c3 : t398 = true
 rotate_left
 · replace c3 := Bool.eq_false_iff.mpr c3
   subst c3
   rw [if_neg Bool.false_ne_true] at H
   obtain rfl := Option.some.inj H
   go_enter Try.func16, Try.ntmps16
   go_wp2_with (first | ((with_reducible refine gt_ 1 ?_); (try (refine gate_guard (by rfl) ?_; dsimp only)); refine box_event ?hg (N := 1) ?hd (cs := #[.int .i64 a0_0, .int .i64 a0_1, .slice A0_2 l0_2.length c0_2]) (t := 27) ?hr ?_; (case hd => rfl); (case hg => rfl); (case hr => first | (go_simp; done) | (go_simp; rfl)); intro gb397 hg w14 hbox hb; have BK397 := mkA (hbox); have GW397 := gs_ hg (bs0_ HB.out); have GE397 := GW397; replace HB := mkA (below_step (bs0_ HB.out) hb); clear hb hbox hg; obtain ⟨hcz15_0, hcz15_1, hcz15_2, hfz15_0, hfz15_1, hfz15_2⟩ := z3_ BK397.out) | ((with_reducible refine gk_ 57 ?_); refine gl_ (some 5) Try.func57 #[.int .i64 a0_0, .int .i64 1, .int .i64 12] ?_; (with_reducible refine (impl_within.calls a0_0 1 12 false _ A2.out).mono ?_); rintro e w' ⟨rfl, ⟨nd, rfl⟩⟩; refine ⟨_, rfl, ?_⟩))
   go_ret
   exact ⟨re_, bs1_ HB.out GE397.out⟩
 subst c3
 rw [if_pos rfl] at H
 revert H
 refine ob_ fun t399 A4 => ?_
 intro H
 by_cases c5 : t399 = true
 rotate_left
 · replace c5 := Bool.eq_false_iff.mpr c5
   subst c5
   rw [if_neg Bool.false_ne_true] at H
   obtain rfl := Option.some.inj H
   go_enter Try.func16, Try.ntmps16
   go_wp2_with (first | ((with_reducible refine gt_ 1 ?_); (try (refine gate_guard (by rfl) ?_; dsimp only)); refine box_event ?hg (N := 1) ?hd (cs := #[.int .i64 a0_0, .int .i64 a0_1, .slice A0_2 l0_2.length c0_2]) (t := 27) ?hr ?_; (case hd => rfl); (case hg => rfl); (case hr => first | (go_simp; done) | (go_simp; rfl)); intro gb397 hg w12 hbox hb; have BK397 := mkA (hbox); have GW397 := gs_ hg (bs0_ HB.out); have GE397 := GW397; replace HB := mkA (below_step (bs0_ HB.out) hb); clear hb hbox hg; obtain ⟨hcz13_0, hcz13_1, hcz13_2, hfz13_0, hfz13_1, hfz13_2⟩ := z3_ BK397.out) | ((with_reducible refine gk_ 57 ?_); refine gl_ (some 5) Try.func57 #[.int .i64 a0_0, .int .i64 1, .int .i64 12] ?_; (with_reducible refine (impl_within.calls a0_0 1 12 true _ A2.out).mono ?_); rintro e w' ⟨rfl, ⟨nd, rfl⟩⟩; refine ⟨_, rfl, ?_⟩) | (go_at_call 57; (with_reducible refine (impl_within.calls a0_1 1 12 false _ A4.out).mono ?_); rintro e w' ⟨rfl, ⟨nd, rfl⟩⟩))
   go_ret
   exact ⟨re_, bs1_ HB.out GE397.out⟩
 subst c5
 rw [if_pos rfl] at H
 by_cases c6 : (l0_2.length : Int) = (wrap64 (a0_0 * a0_1))
 rotate_left
 · rw [if_neg c6] at H
   have c6b0 : ((l0_2.length : Int) == (wrap64 (a0_0 * a0_1))) = false := beq_eq_false_iff_ne.mpr c6
   have c6b1 : ((l0_2.length : Int) != (wrap64 (a0_0 * a0_1))) = true := bne_iff_ne.mpr c6
   obtain rfl := Option.some.inj H
   go_enter Try.func16, Try.ntmps16
   go_wp2_with (first | ((with_reducible refine gt_ 1 ?_); (try (refine gate_guard (by rfl) ?_; dsimp only)); refine box_event ?hg (N := 1) ?hd (cs := #[.int .i64 a0_0, .int .i64 a0_1, .slice A0_2 l0_2.length c0_2]) (t := 27) ?hr ?_; (case hd => rfl); (case hg => rfl); (case hr => first | (go_simp; done) | (go_simp; rfl)); intro gb397 hg w10 hbox hb; have BK397 := mkA (hbox); have GW397 := gs_ hg (bs0_ HB.out); have GE397 := GW397; replace HB := mkA (below_step (bs0_ HB.out) hb); clear hb hbox hg; obtain ⟨hcz11_0, hcz11_1, hcz11_2, hfz11_0, hfz11_1, hfz11_2⟩ := z3_ BK397.out) | ((with_reducible refine gk_ 57 ?_); refine gl_ (some 5) Try.func57 #[.int .i64 a0_0, .int .i64 1, .int .i64 12] ?_; (with_reducible refine (impl_within.calls a0_0 1 12 true _ A2.out).mono ?_); rintro e w' ⟨rfl, ⟨nd, rfl⟩⟩; refine ⟨_, rfl, ?_⟩) | (go_at_call 57; (with_reducible refine (impl_within.calls a0_1 1 12 true _ A4.out).mono ?_); rintro e w' ⟨rfl, ⟨nd, rfl⟩⟩))
   go_ret
   exact ⟨re_, bs1_ HB.out GE397.out⟩
 rw [if_pos c6] at H
 have c6b0 : ((l0_2.length : Int) == (wrap64 (a0_0 * a0_1))) = true := beq_iff_eq.mpr c6
 have c6b1 : ((l0_2.length : Int) != (wrap64 (a0_0 * a0_1))) = false := bne_eq_false_iff_eq.mpr c6
 clear c6
 revert H
 refine ob_ fun t400 A7 => ?_
 intro H
 obtain rfl := Option.some.inj H
 go_enter Try.func16, Try.ntmps16
 go_wp2_with (first | ((with_reducible refine gt_ 1 ?_); (try (refine gate_guard (by rfl) ?_; dsimp only)); refine box_event ?hg (N := 1) ?hd (cs := #[.int .i64 a0_0, .int .i64 a0_1, .slice A0_2 l0_2.length c0_2]) (t := 27) ?hr ?_; (case hd => rfl); (case hg => rfl); (case hr => first | (go_simp; done) | (go_simp; rfl)); intro gb397 hg w8 hbox hb; have BK397 := mkA (hbox); have GW397 := gs_ hg (bs0_ HB.out); have GE397 := GW397; replace HB := mkA (below_step (bs0_ HB.out) hb); clear hb hbox hg; obtain ⟨hcz9_0, hcz9_1, hcz9_2, hfz9_0, hfz9_1, hfz9_2⟩ := z3_ BK397.out) | ((with_reducible refine gk_ 57 ?_); refine gl_ (some 5) Try.func57 #[.int .i64 a0_0, .int .i64 1, .int .i64 12] ?_; (with_reducible refine (impl_within.calls a0_0 1 12 true _ A2.out).mono ?_); rintro e w' ⟨rfl, ⟨nd, rfl⟩⟩; refine ⟨_, rfl, ?_⟩) | (go_at_call 57; (with_reducible refine (impl_within.calls a0_1 1 12 true _ A4.out).mono ?_); rintro e w' ⟨rfl, ⟨nd, rfl⟩⟩) | (go_at_call 58; (with_reducible refine (fi58_59.calls k _ _ l0_2  t400 _ ?side1 ?side2 A7.out).mono ?_); (case side1 => repeat (first | exact (Kd.C_below HR0_2.out (bs1_ HB.out GE397.out)) | (with_reducible refine Kd.C_alloc ?_ _) | (with_reducible refine Kd.C_drewN ?_ _) | (with_reducible refine Kd.C_drew ?_))); (case side2 => exact HC0_2.out); rintro e w' ⟨rfl, ⟨nd, rfl⟩⟩))
 go_ret
 exact ⟨re_, bs1_ HB.out GE397.out⟩
/-! ### impl_IsName: function 88 -/
mutual
def impl_IsName.j0 : Nat → ByteArray → Bool → Option (Bool)
  | 0, _, _ => none
  | k + 1, x0, x21 => if x21 = true then (some false) else (impl_IsName.l0 k x0 0)
def impl_IsName.l0 : Nat → ByteArray → Int → Option (Bool)
  | 0, _, _ => none
  | k + 1, x0, x3 => if x3 < (x0.size : Int) then (if 0 ≤ x3 then (if (bt x0 x3) < 97 then (if (bt x0 x3) < 48 then (some false) else (if (bt x0 x3) > 57 then (some false) else (impl_IsName.l0 k x0 (wrap64 (x3 + 1))))) else (if (bt x0 x3) > 122 then (if (bt x0 x3) < 48 then (some false) else (if (bt x0 x3) > 57 then (some false) else (impl_IsName.l0 k x0 (wrap64 (x3 + 1))))) else (impl_IsName.l0 k x0 (wrap64 (x3 + 1))))) else (none)) else (some true)
end
def impl_IsName.f (k : Nat) (a0 : ByteArray) : Option (Bool) := if (a0.size : Int) < 1 then (impl_IsName.j0 k a0 true) else (if (a0.size : Int) > 10 then (impl_IsName.j0 k a0 true) else (if 0 < (a0.size : Int) then (if (bt a0 0) < 97 then (impl_IsName.j0 k a0 true) else (impl_IsName.j0 k a0 (decide ((bt a0 0) > 122)))) else (none)))
theorem impl_IsName.mono_l : ∀ k, (∀ y0 y1, LeO (impl_IsName.j0 k y0 y1) (impl_IsName.j0 (k + 1) y0 y1)) ∧ (∀ y0 y1, LeO (impl_IsName.l0 k y0 y1) (impl_IsName.l0 (k + 1) y0 y1))
  | 0 => ⟨fun _ _ r h => by simp [impl_IsName.j0] at h, fun _ _ r h => by simp [impl_IsName.l0] at h⟩
  | k + 1 => by
    obtain ⟨ih0, ih1⟩ := impl_IsName.mono_l k
    refine ⟨?_, ?_⟩
    · intro y0 y1
      unfold impl_IsName.j0
      repeat' first
      | (with_reducible exact ih0 _ _)
      | (with_reducible exact ih1 _ _)
      | (with_reducible exact LeO.refl _)
      | (with_reducible exact LeO.none _)
      | (with_reducible refine LeO.ite ?_ ?_)
      | (with_reducible refine LeO.bind ?_ (fun _ => ?_))
      | exact ih0 _ _
      | exact ih1 _ _
      | exact LeO.none _
      | refine LeO.ite ?_ ?_
      | refine LeO.bind ?_ (fun _ => ?_)
    · intro y0 y1
      unfold impl_IsName.l0
      repeat' first
      | (with_reducible exact ih0 _ _)
      | (with_reducible exact ih1 _ _)
      | (with_reducible exact LeO.refl _)
      | (with_reducible exact LeO.none _)
      | (with_reducible refine LeO.ite ?_ ?_)
      | (with_reducible refine LeO.bind ?_ (fun _ => ?_))
      | exact ih0 _ _
      | exact ih1 _ _
      | exact LeO.none _
      | refine LeO.ite ?_ ?_
      | refine LeO.bind ?_ (fun _ => ?_)
theorem impl_IsName.mono : ∀ a0 k, LeO (impl_IsName.f k a0) (impl_IsName.f (k + 1) a0) := by
  intro a0 k
  obtain ⟨ih0, ih1⟩ := impl_IsName.mono_l k
  unfold impl_IsName.f
  repeat' first
      | (with_reducible exact ih0 _ _)
      | (with_reducible exact ih1 _ _)
      | (with_reducible exact LeO.refl _)
      | (with_reducible exact LeO.none _)
      | (with_reducible refine LeO.ite ?_ ?_)
      | (with_reducible refine LeO.bind ?_ (fun _ => ?_))
      | exact ih0 _ _
      | exact ih1 _ _
      | exact LeO.none _
      | refine LeO.ite ?_ ?_
      | refine LeO.bind ?_ (fun _ => ?_)
set_option maxHeartbeats 8000000 in
set_option maxRecDepth 100000 in
theorem impl_IsName.calls (k : Nat) (a0 : ByteArray) (r : Bool) (w : World) (h : impl_IsName.f k a0 = some r) :
 Calls Try.prog 88 #[.string a0] w fun e w' => e = .returned (.bool r) ∧ Drawn0 w w' := by
 unfold impl_IsName.f at h
 have H := h
 clear h
 have HC2 := mkA H
 clear H
 go_enter Try.func88, Try.ntmps88
 go_upto_region 1 with (fail)
 go_cut [21] (fun v21 wc => ∃ (kq : Nat) (x21_1 : Bool), v21 = .bool x21_1 ∧ Aside0 (impl_IsName.j0 kq a0 x21_1 = some r) ∧ Aside0 (kq ≤ k) ∧ Drawn0 w wc)
 case first =>
  have H := HC2.out
  clear HC2
  by_cases c3 : (a0.size : Int) < 1
  · rw [if_pos c3] at H
    have c3b0 := decide_eq_true c3
    have c3b1 : decide (a0.size < 1) = true := decide_eq_true (by omega)
    clear c3
    (first | rw [c3b0] | (simp only [i64_w, i32_w]; rw [c3b0]) | skip)
    have H' := mkA H
    clear H
    go_wp2
    go_meet
    case rel => exact ⟨_, (true), rf_, H', ⟨by first | omega | exact Nat.le_refl _⟩, by repeat (first | exact Drawn0.refl _ | apply Drawn0.step)⟩
  · rw [if_neg c3] at H
    have c3b0 := decide_eq_false c3
    have c3b1 : decide (a0.size < 1) = false := decide_eq_false (by omega)
    clear c3
    (first | rw [c3b0] | (simp only [i64_w, i32_w]; rw [c3b0]) | skip)
    by_cases c4 : (a0.size : Int) > 10
    · rw [if_pos c4] at H
      have c4b0 := decide_eq_true c4
      have c4b1 : decide (10 < a0.size) = true := decide_eq_true (by omega)
      clear c4
      have H' := mkA H
      clear H
      go_wp2
      go_meet
      case rel => exact ⟨_, (true), rf_, H', ⟨by first | omega | exact Nat.le_refl _⟩, by repeat (first | exact Drawn0.refl _ | apply Drawn0.step)⟩
    · rw [if_neg c4] at H
      have c4b0 := decide_eq_false c4
      have c4b1 : decide (10 < a0.size) = false := decide_eq_false (by omega)
      clear c4
      revert H
      refine ng_ fun c5 => ?_
      intro H
      have c5b0 := decide_eq_true c5
      have c5b1 : decide (0 < a0.size) = true := decide_eq_true (by omega)
      clear c5
      by_cases c7 : (bt a0 0) < 97
      · rw [if_pos c7] at H
        have c7b0 := decide_eq_true c7
        clear c7
        have H' := mkA H
        clear H
        have p6 : 0 ≤ (0 : Int) := (by omega)
        have q6 : 0 < a0.size := (by have : (0 : Int) < (a0.size : Int) := dt_; omega)
        have hx6 : ∀ h : 0 < a0.size, ((a0[0]'h).toNat : Int) = bt a0 0 := bt_at a0 0
        clear p6
        have qi6 : (0 < (a0.size : Int)) = True := eq_true (dt_)
        replace q6 := eq_true q6
        go_wp2
        go_meet
        case rel => exact ⟨_, (true), rf_, H', ⟨by first | omega | exact Nat.le_refl _⟩, by repeat (first | exact Drawn0.refl _ | apply Drawn0.step)⟩
      · rw [if_neg c7] at H
        have c7b0 := decide_eq_false c7
        clear c7
        have H' := mkA H
        clear H
        have p6 : 0 ≤ (0 : Int) := (by omega)
        have q6 : 0 < a0.size := (by have : (0 : Int) < (a0.size : Int) := dt_; omega)
        have hx6 : ∀ h : 0 < a0.size, ((a0[0]'h).toNat : Int) = bt a0 0 := bt_at a0 0
        clear p6
        have qi6 : (0 < (a0.size : Int)) = True := eq_true (dt_)
        replace q6 := eq_true q6
        have p8 : 0 ≤ (0 : Int) := (by omega)
        have q8 : 0 < a0.size := (by have : (0 : Int) < (a0.size : Int) := dt_; omega)
        have hx8 : ∀ h : 0 < a0.size, ((a0[0]'h).toNat : Int) = bt a0 0 := bt_at a0 0
        clear p8
        have qi8 : (0 < (a0.size : Int)) = True := eq_true (dt_)
        replace q8 := eq_true q8
        go_wp2
        go_meet
        case rel => exact ⟨_, (decide ((bt a0 0) > 122)), rf_, H', ⟨by first | omega | exact Nat.le_refl _⟩, by repeat (first | exact Drawn0.refl _ | apply Drawn0.step)⟩
 case rest =>
  clear HC2
  try clear c3 c3b0 c3b1 c4 c4b0 c4b1 c5 c5b0 c5b1 c7 c7b0
  try clear p6 p8
  try clear q6 q8
  try clear hx6 hx8
  try clear qi6 qi8
  obtain ⟨kq, x21_1, rfl, HA, HJ1, ⟨mc1, rfl⟩⟩ := hcut
  cases kq with
  | zero => exact absurd HA.out (by simp [impl_IsName.j0])
  | succ kj1 =>
   have H := HA.out
   clear HA
   simp only [impl_IsName.j0] at H
   by_cases c9 : x21_1 = true
   · subst c9
     rw [if_pos rfl] at H
     obtain rfl := Option.some.inj H
     go_wp2
     go_ret
     exact ⟨by first | rfl | (simp; done) | (simp [*]; done) | (simp [i64_w, i32_w]; done), by repeat (first | exact Drawn0.refl _ | apply Drawn0.step)⟩
   · replace c9 := Bool.eq_false_iff.mpr c9
     subst c9
     rw [if_neg Bool.false_ne_true] at H
     have H' := mkA H
     clear H
     go_wp2
     go_loopg [3] kj1 (fun kq v3 w' => ∃ (x3_2 : Int), v3 = .int .i64 x3_2 ∧ Aside0 (impl_IsName.l0 kq a0 x3_2 = some r) ∧ Aside0 (kq ≤ kj1) ∧ Drawn0 w w')
     case atStart => exact ⟨(0), rf_, H', ⟨Nat.le_refl _⟩, by repeat (first | exact Drawn0.refl _ | apply Drawn0.step)⟩
     case round =>
      clear H'
      try clear c3 c3b0 c3b1 c4 c4b0 c4b1 c5 c5b0 c5b1 c7 c7b0 c9
      try clear p6 p8
      try clear q6 q8
      try clear hx6 hx8
      try clear qi6 qi8
      obtain ⟨x3_2, rfl, HA, HK2, ⟨m2, rfl⟩⟩ := hrel
      cases gk with
      | zero => exact absurd HA.out (by simp [impl_IsName.l0])
      | succ k2 =>
       have H := HA.out
       clear HA
       simp only [impl_IsName.l0] at H
       by_cases c10 : x3_2 < (a0.size : Int)
       rotate_left
       · rw [if_neg c10] at H
         have c10b0 := decide_eq_false c10
         clear c10
         obtain rfl := Option.some.inj H
         go_wp2
         go_ret
         exact ⟨by first | rfl | (simp; done) | (simp [*]; done) | (simp [i64_w, i32_w]; done), by repeat (first | exact Drawn0.refl _ | apply Drawn0.step)⟩
       rw [if_pos c10] at H
       have c10b0 := decide_eq_true c10
       clear c10
       revert H
       refine ng_ fun c11 => ?_
       intro H
       have c11b0 := decide_eq_true c11
       clear c11
       by_cases c13 : (bt a0 x3_2) < 97
       · rw [if_pos c13] at H
         have c13b0 := decide_eq_true c13
         clear c13
         by_cases c15 : (bt a0 x3_2) < 48
         · rw [if_pos c15] at H
           have c15b0 := decide_eq_true c15
           clear c15
           obtain rfl := Option.some.inj H
           have p12 : 0 ≤ (x3_2 : Int) := dt_
           have q12 : x3_2 < (a0.size : Int) := dt_
           have hx12 := bt_at a0 x3_2
           replace p12 := eq_true p12
           replace q12 := eq_true q12
           have p14 : 0 ≤ (x3_2 : Int) := dt_
           have q14 : x3_2 < (a0.size : Int) := dt_
           have hx14 := bt_at a0 x3_2
           replace p14 := eq_true p14
           replace q14 := eq_true q14
           go_wp2
           go_ret
           exact ⟨by first | rfl | (simp; done) | (simp [*]; done) | (simp [i64_w, i32_w]; done), by repeat (first | exact Drawn0.refl _ | apply Drawn0.step)⟩
         · rw [if_neg c15] at H
           have c15b0 := decide_eq_false c15
           clear c15
           by_cases c17 : (bt a0 x3_2) > 57
           · rw [if_pos c17] at H
             have c17b0 := decide_eq_true c17
             clear c17
             obtain rfl := Option.some.inj H
             have p12 : 0 ≤ (x3_2 : Int) := dt_
             have q12 : x3_2 < (a0.size : Int) := dt_
             have hx12 := bt_at a0 x3_2
             replace p12 := eq_true p12
             replace q12 := eq_true q12
             have p14 : 0 ≤ (x3_2 : Int) := dt_
             have q14 : x3_2 < (a0.size : Int) := dt_
             have hx14 := bt_at a0 x3_2
             replace p14 := eq_true p14
             replace q14 := eq_true q14
             have p16 : 0 ≤ (x3_2 : Int) := dt_
             have q16 : x3_2 < (a0.size : Int) := dt_
             have hx16 := bt_at a0 x3_2
             replace p16 := eq_true p16
             replace q16 := eq_true q16
             go_wp2
             go_ret
             exact ⟨by first | rfl | (simp; done) | (simp [*]; done) | (simp [i64_w, i32_w]; done), by repeat (first | exact Drawn0.refl _ | apply Drawn0.step)⟩
           · rw [if_neg c17] at H
             have c17b0 := decide_eq_false c17
             clear c17
             have H' := mkA H
             clear H
             have p12 : 0 ≤ (x3_2 : Int) := dt_
             have q12 : x3_2 < (a0.size : Int) := dt_
             have hx12 := bt_at a0 x3_2
             replace p12 := eq_true p12
             replace q12 := eq_true q12
             have p14 : 0 ≤ (x3_2 : Int) := dt_
             have q14 : x3_2 < (a0.size : Int) := dt_
             have hx14 := bt_at a0 x3_2
             replace p14 := eq_true p14
             replace q14 := eq_true q14
             have p16 : 0 ≤ (x3_2 : Int) := dt_
             have q16 : x3_2 < (a0.size : Int) := dt_
             have hx16 := bt_at a0 x3_2
             replace p16 := eq_true p16
             replace q16 := eq_true q16
             go_wp2
             go_roundg k2
             case measure => have := HJ1.out; have := HK2.out; omega
             case rel => exact ⟨(wrap64 (x3_2 + 1)), rf_, H', ⟨on2_ HJ1.out HK2.out⟩, by repeat (first | exact Drawn0.refl _ | apply Drawn0.step)⟩
       · rw [if_neg c13] at H
         have c13b0 := decide_eq_false c13
         clear c13
         by_cases c19 : (bt a0 x3_2) > 122
         rotate_left
         · rw [if_neg c19] at H
           have c19b0 := decide_eq_false c19
           clear c19
           have H' := mkA H
           clear H
           have p12 : 0 ≤ (x3_2 : Int) := dt_
           have q12 : x3_2 < (a0.size : Int) := dt_
           have hx12 := bt_at a0 x3_2
           replace p12 := eq_true p12
           replace q12 := eq_true q12
           have p18 : 0 ≤ (x3_2 : Int) := dt_
           have q18 : x3_2 < (a0.size : Int) := dt_
           have hx18 := bt_at a0 x3_2
           replace p18 := eq_true p18
           replace q18 := eq_true q18
           go_wp2
           go_roundg k2
           case measure => have := HJ1.out; have := HK2.out; omega
           case rel => exact ⟨(wrap64 (x3_2 + 1)), rf_, H', ⟨on2_ HJ1.out HK2.out⟩, by repeat (first | exact Drawn0.refl _ | apply Drawn0.step)⟩
         rw [if_pos c19] at H
         have c19b0 := decide_eq_true c19
         clear c19
         by_cases c21 : (bt a0 x3_2) < 48
         · rw [if_pos c21] at H
           have c21b0 := decide_eq_true c21
           clear c21
           obtain rfl := Option.some.inj H
           have p12 : 0 ≤ (x3_2 : Int) := dt_
           have q12 : x3_2 < (a0.size : Int) := dt_
           have hx12 := bt_at a0 x3_2
           replace p12 := eq_true p12
           replace q12 := eq_true q12
           have p18 : 0 ≤ (x3_2 : Int) := dt_
           have q18 : x3_2 < (a0.size : Int) := dt_
           have hx18 := bt_at a0 x3_2
           replace p18 := eq_true p18
           replace q18 := eq_true q18
           have p20 : 0 ≤ (x3_2 : Int) := dt_
           have q20 : x3_2 < (a0.size : Int) := dt_
           have hx20 := bt_at a0 x3_2
           replace p20 := eq_true p20
           replace q20 := eq_true q20
           go_wp2
           go_ret
           exact ⟨by first | rfl | (simp; done) | (simp [*]; done) | (simp [i64_w, i32_w]; done), by repeat (first | exact Drawn0.refl _ | apply Drawn0.step)⟩
         · rw [if_neg c21] at H
           have c21b0 := decide_eq_false c21
           clear c21
           by_cases c23 : (bt a0 x3_2) > 57
           · rw [if_pos c23] at H
             have c23b0 := decide_eq_true c23
             clear c23
             obtain rfl := Option.some.inj H
             have p12 : 0 ≤ (x3_2 : Int) := dt_
             have q12 : x3_2 < (a0.size : Int) := dt_
             have hx12 := bt_at a0 x3_2
             replace p12 := eq_true p12
             replace q12 := eq_true q12
             have p18 : 0 ≤ (x3_2 : Int) := dt_
             have q18 : x3_2 < (a0.size : Int) := dt_
             have hx18 := bt_at a0 x3_2
             replace p18 := eq_true p18
             replace q18 := eq_true q18
             have p20 : 0 ≤ (x3_2 : Int) := dt_
             have q20 : x3_2 < (a0.size : Int) := dt_
             have hx20 := bt_at a0 x3_2
             replace p20 := eq_true p20
             replace q20 := eq_true q20
             have p22 : 0 ≤ (x3_2 : Int) := dt_
             have q22 : x3_2 < (a0.size : Int) := dt_
             have hx22 := bt_at a0 x3_2
             replace p22 := eq_true p22
             replace q22 := eq_true q22
             go_wp2
             go_ret
             exact ⟨by first | rfl | (simp; done) | (simp [*]; done) | (simp [i64_w, i32_w]; done), by repeat (first | exact Drawn0.refl _ | apply Drawn0.step)⟩
           · rw [if_neg c23] at H
             have c23b0 := decide_eq_false c23
             clear c23
             have H' := mkA H
             clear H
             have p12 : 0 ≤ (x3_2 : Int) := dt_
             have q12 : x3_2 < (a0.size : Int) := dt_
             have hx12 := bt_at a0 x3_2
             replace p12 := eq_true p12
             replace q12 := eq_true q12
             have p18 : 0 ≤ (x3_2 : Int) := dt_
             have q18 : x3_2 < (a0.size : Int) := dt_
             have hx18 := bt_at a0 x3_2
             replace p18 := eq_true p18
             replace q18 := eq_true q18
             have p20 : 0 ≤ (x3_2 : Int) := dt_
             have q20 : x3_2 < (a0.size : Int) := dt_
             have hx20 := bt_at a0 x3_2
             replace p20 := eq_true p20
             replace q20 := eq_true q20
             have p22 : 0 ≤ (x3_2 : Int) := dt_
             have q22 : x3_2 < (a0.size : Int) := dt_
             have hx22 := bt_at a0 x3_2
             replace p22 := eq_true p22
             replace q22 := eq_true q22
             go_wp2
             go_roundg k2
             case measure => have := HJ1.out; have := HK2.out; omega
             case rel => exact ⟨(wrap64 (x3_2 + 1)), rf_, H', ⟨on2_ HJ1.out HK2.out⟩, by repeat (first | exact Drawn0.refl _ | apply Drawn0.step)⟩
end Go.Proofs.Ytakagkflgkoiiaa.GFnExactIsCover

-- Written by the session's own program (gen.py) out of the translation's print. Lean checks it.
import Derived.Test.YtakagkflgkoiiaaQ
import Derived.Test.YtakagkflgkoiiaaGFnExactIsCoverx0
import Derived.Test.YtakagkflgkoiiaaGFnExactIsCoverx1
import Derived.Test.YtakagkflgkoiiaaGFnExactIsCoverx17
import Derived.Test.YtakagkflgkoiiaaGFnExactIsCoverx19
import Derived.Test.YtakagkflgkoiiaaGFnExactIsCoverx20
import Derived.Test.YtakagkflgkoiiaaGFnExactIsCoverx21
namespace Go.Proofs.Ytakagkflgkoiiaa.GFnExactIsCover
open Go.RowKit Go.Proofs.YtakagkflgkoiiaaW.PrintWords Go.Proofs.YtakagkflgkoiiaaW.PrintLast Go.Proofs.YtakagkflgkoiiaaW.PrintMore
open List renaming setIfInBounds_toArray → sA, set_cons_zero → sB, set_cons_succ → sC
open Go.Proofs.YtakagkflgkoiiaaW.PrintWords.Aside0 renaming mk → mkA
open Go.Proofs.YtakagkflgkoiiaaX (dt_ bc_ p0_ p1_ bl_ cb_ bs0_ bs1_ bs2_ bs3_ bs4_ bs5_ bs6_ bs7_ bs8_ bs9_ bs10_ bs11_ bs12_)
open Go.Proofs.YtakagkflgkoiiaaQ
attribute [local go_sem] max2_int min2_int max_two min_two max_three min_three max_four min_four 
set_option linter.unusedVariables false
set_option linter.unusedSimpArgs false

attribute [local go_sem high] eqA105
/-! ### impl_turnedCells: function 79 -/
def impl_turnedCells.l0 : Nat → Int → List (S105) → List (S105) → Int → Int → Option ((List (S105)))
  | 0, _, _, _, _, _ => none
  | k + 1, x1, x5, x12, x13, x14 => if x14 < x13 then (if 0 ≤ x14 then (if x14 < (x12.length : Int) then ((impl_Turned.f k ((rd_T105 x12 x14).f0) ((rd_T105 x12 x14).f1) x1).bind fun bt460 => (if x5.length < 8796093022208 then (impl_turnedCells.l0 k x1 (x5 ++ [(⟨bt460.1, bt460.2⟩ : S105)]) x12 x13 (wrap64 (x14 + 1))) else (none))) else (none)) else (none)) else ((impl_bounds.f k x5).bind fun bt465 => ((impl_shifted.f k x5 (wrap64 (-bt465.1)) (wrap64 (-bt465.2.1))).bind fun t471 => ((fi102_89.f k t471).bind fun t474 => (some t474))))
def impl_turnedCells.f (k : Nat) (a0_0 : ByteArray) (l0_1 : List (S105)) (a0_2 : Int) (a0_3 : Bool) (a1 : Int) : Option ((List (S105))) := impl_turnedCells.l0 k a1 (([] : List (S105))) l0_1 (l0_1.length : Int) 0
set_option maxHeartbeats 8000000 in
set_option maxRecDepth 100000 in
theorem impl_turnedCells.calls (k : Nat) (a0_0 : ByteArray) (A0_1 : Option Addr) (c0_1 : Nat) (l0_1 : List (S105)) (a0_2 : Int) (a0_3 : Bool) (a1 : Int) (r : List (S105)) (w : World) (hr0_1 : Kd.C k105 w A0_1 l0_1.length l0_1) (hc0_1 : l0_1.length ≤ c0_1) (h : impl_turnedCells.f k a0_0 l0_1 a0_2 a0_3 a1 = some r) :
 Calls Try.prog 79 #[.agg #[.string a0_0, .slice A0_1 l0_1.length c0_1, .int .i64 a0_2, .bool a0_3], .int .i64 a1] w fun e w' => ∃ v0_ : Value, e = .returned (v0_) ∧ Kd.R k105 105 w' w.heap.size (fun _ => True) v0_ r ∧ Below w.heap.size w w' := by
 have hu53 := Try.underlying53
 have hu105 := Try.underlying105
 have HR0_1 := mkA hr0_1
 have HC0_1 := mkA hc0_1
 clear hr0_1 hc0_1
 have HB := mkA (Below.refl w.heap.size w)
 unfold impl_turnedCells.f at h
 have H := h
 clear h
 obtain ⟨y455, hy455⟩ := gy_ (([] : List (S105)) : List (S105))
 replace H : (impl_turnedCells.l0 k a1 y455 l0_1 (l0_1.length : Int) 0) = some r := hs_ H hy455
 have Ny455 := mkA hy455
 clear hy455
 have H' := mkA H
 clear H
 go_enter Try.func79, Try.ntmps79
 go_wp2_with (first | ((with_reducible refine gt_ 2 ?_); refine bx_ 2 #[.string a0_0, .slice A0_1 l0_1.length c0_1, .int .i64 a0_2, .bool a0_3] 53 fun gb454 hg w3 hbox hb => ?_; have BK454 := mkA (hbox); have GW454 := gs_ hg (bs0_ HB.out); have GE454 := GW454; replace HB := mkA (below_step (bs0_ HB.out) hb); clear hb hbox hg) | ((with_reducible refine gt_ 10 ?_); refine Kd.R_lit k105 _ 105 ?hg (N := 10) ?hd (xs := ([] : List (S105))) (inner := []) (ok := fun _ => True) (okp := fun _ => True) ?hr ?hp (fun _ hk => hk) trivial (Below.refl _ _) (Nat.le_refl _) (by simp) ?_; (case hd => rfl); (case hg => rfl); (case hr => first | (go_simp; done) | (go_simp; rfl)); (case hp => exact (Reps.none _ _)); intro v456 w4 ho5 hb hg_ hnew_; clear hg_ hnew_; (first | rw [← Ny455.out] at ho5 | (simp only [Int.reduceToNat] at ho5; rw [← Ny455.out] at ho5)); have HO457 := mkA (Kd.R_lower ho5 (below_size (bs1_ HB.out GE454.out))); replace BK454 := mkA (blk_below (bl_ BK454.out) hb); replace HB := mkA (below_step (bs1_ HB.out GE454.out) hb); clear hb ho5; obtain ⟨hcz6_0, hcz6_1, hcz6_2, hcz6_3, hfz6_0, hfz6_1, hfz6_2, hfz6_3⟩ := z4_ BK454.out))
 go_loopg [5, 14] k (fun kq v5 v14 w' => ∃ (x5_1 : List (S105)) (x14_1 : Int), v14 = .int .i64 x14_1 ∧ Aside0 (impl_turnedCells.l0 kq a1 x5_1 l0_1 (l0_1.length : Int) x14_1 = some r) ∧ Aside0 (kq ≤ k) ∧ Aside0 (Kd.R k105 105 w' w.heap.size (fun _ => True) v5 x5_1) ∧ Aside0 (w'.heap[gb454]? = some (.cells #[.string a0_0, (.slice A0_1 l0_1.length c0_1), .int .i64 a0_2, .bool a0_3] 53 (0, 0))) ∧ Aside0 (Below w.heap.size w w'))
 case atStart => exact ⟨(y455), (0), rf_, H', ⟨Nat.le_refl _⟩, ⟨r_ HO457.out⟩, ⟨bl_ BK454.out⟩, ⟨bs1_ HB.out GE454.out⟩⟩
 case round =>
  clear H'
  try clear hcz6_0 hcz6_1 hcz6_2 hcz6_3
  try clear hfz6_0 hfz6_1 hfz6_2 hfz6_3
  obtain ⟨x5_1, x14_1, rfl, HA, HK1, HO_5, BK454, HB⟩ := hrel
  cases gk with
  | zero => exact absurd HA.out (by simp [impl_turnedCells.l0])
  | succ k1 =>
   have H := HA.out
   clear HA
   simp only [impl_turnedCells.l0] at H
   by_cases c7 : x14_1 < (l0_1.length : Int)
   rotate_left
   · rw [if_neg c7] at H
     have c7b0 := decide_eq_false c7
     clear c7
     revert H
     refine ob_ fun t_ A17 => ?_
     intro H
     obtain ⟨t465, t466, t467, t468⟩ := t_
     try dsimp only at H
     revert H
     refine ob_ fun t471 A18 => ob_ fun t474 A19 => ?_
     intro H
     obtain rfl := Option.some.inj H
     obtain ⟨Ao20, co20, eo20⟩ := Kd.R_slice HO_5.out
     subst eo20
     go_wp2_with (first | ((with_reducible refine gk_ 90 ?_); refine gl_ (some 27) Try.func90 #[.slice Ao20 x5_1.length co20] ?_; (with_reducible refine (impl_bounds.calls k1 _ _ x5_1 t465 t466 t467 t468 _ ?side1 ?side2 A17.out).mono ?_); (case side1 => repeat (first | exact (Kd.R_reads' HO_5.out).2.2 | (with_reducible refine Kd.C_alloc ?_ _) | (with_reducible refine Kd.C_drewN ?_ _) | (with_reducible refine Kd.C_drew ?_))); (case side2 => exact (Kd.R_reads' HO_5.out).2.1); rintro e w21 ⟨rfl, hb⟩; refine ⟨_, rfl, ?_⟩; replace HO_5 := mkA (Kd.R_below (r_ HO_5.out) hb); replace BK454 := mkA (blk_below (bl_ BK454.out) hb); replace HB := mkA (below_step (bs1_ HB.out GE454.out) hb); (try clear hb); (try clear hb2); (try clear hk); (try clear hi)) | ((with_reducible refine gt_ 8 ?_); refine bx_ 8 #[.int .i64 0, .int .i64 0] 105 fun gb469 hg w22 hbox hb => ?_; replace HO_5 := mkA (Kd.R_below (Kd.R_elderB (r_ HO_5.out) gb469 (Nat.le_of_eq hg.symm)) hb); have BK469 := mkA (hbox); have GW469 := gs_ hg (bs1_ HB.out GE454.out); have GE469 := GW469; replace HB := mkA (below_step (bs1_ HB.out GE454.out) hb); have NB454_469 := nl_ hg (bl_ BK454.out); have NB469_454 := nr_ hg (bl_ BK454.out); replace BK454 := mkA (blk_below (bl_ BK454.out) hb); clear hb hbox hg) | ((with_reducible refine gt_ 9 ?_); refine bx_ 9 #[.int .i64 0, .int .i64 0] 105 fun gb470 hg w23 hbox hb => ?_; replace HO_5 := mkA (Kd.R_below (Kd.R_elderB (r_ HO_5.out) gb470 (Nat.le_of_eq hg.symm)) hb); have BK470 := mkA (hbox); have GW470 := gs_ hg (bs2_ HB.out GE454.out GE469.out); have GE470 := GW470; replace HB := mkA (below_step (bs2_ HB.out GE454.out GE469.out) hb); have NB454_470 := nl_ hg (bl_ BK454.out); have NB470_454 := nr_ hg (bl_ BK454.out); replace BK454 := mkA (blk_below (bl_ BK454.out) hb); have NB469_470 := nl_ hg (bl_ BK469.out); have NB470_469 := nr_ hg (bl_ BK469.out); replace BK469 := mkA (blk_below (bl_ BK469.out) hb); clear hb hbox hg; have hnb24 := NB469_454.out; have hnc24 := NB454_469.out; have hnb25 := NB469_470.out; have hnc25 := NB470_469.out; obtain ⟨hcz26_0, hcz26_1, hfz26_0, hfz26_1⟩ := z2_ BK469.out; have hnb27 := NB470_454.out; have hnc27 := NB454_470.out; obtain ⟨hcz28_0, hcz28_1, hfz28_0, hfz28_1⟩ := z2_ BK470.out) | ((with_reducible refine gk_ 78 ?_); refine gl_ (some 37) Try.func78 #[.slice Ao20 x5_1.length co20, .int .i64 (wrap64 (-t465)), .int .i64 (wrap64 (-t466))] ?_; (with_reducible refine (impl_shifted.calls k1 _ _ x5_1 (wrap64 (-t465)) (wrap64 (-t466)) t471 _ ?side1 ?side2 A18.out).mono ?_); (case side1 => refine (Kd.R_reads' (e := 105) (base := w.heap.size) (ok := fun k_ => ((True ∧ k_ ≠ gb469) ∧ k_ ≠ gb470)) (n := x5_1.length) (c := co20) ?_).2.2; exact (by refine r_ ?_; exact (Kd.R_mono (Kd.R_mono (Kd.R_far (p := ⟨gb470, 1, none⟩) (Kd.R_far (p := ⟨gb470, 0, none⟩) (Kd.R_far (p := ⟨gb469, 1, none⟩) (Kd.R_far (p := ⟨gb469, 0, none⟩) (Kd.R_mono (Kd.R_mono HO_5.out (fun k_ hk => (⟨hk, hk.1.2⟩ : _ ∧ k_ ≠ gb469))) (fun k_ hk => (⟨hk, hk.1.2⟩ : _ ∧ k_ ≠ gb470))) (fun _ hk => hk.1.2) (.int .i64 t465)) (fun _ hk => hk.1.2) (.int .i64 t466)) (fun _ hk => hk.2) (.int .i64 t467)) (fun _ hk => hk.2) (.int .i64 t468)) (fun _ h_ => h_.1)) (fun _ h_ => h_.1)))); (case side2 => exact (Kd.R_reads' HO_5.out).2.1); rintro e w29 ⟨v472, rfl, ho0, hb⟩; refine ⟨_, rfl, ?_⟩; have HO473 := mkA (Kd.R_lower (Kd.R_newB (Kd.R_newB (Kd.R_new' ho0 (Kd.R_lt (by refine r_ ?_; exact (Kd.R_mono (Kd.R_mono (Kd.R_far (p := ⟨gb470, 1, none⟩) (Kd.R_far (p := ⟨gb470, 0, none⟩) (Kd.R_far (p := ⟨gb469, 1, none⟩) (Kd.R_far (p := ⟨gb469, 0, none⟩) (Kd.R_mono (Kd.R_mono HO_5.out (fun k_ hk => (⟨hk, hk.1.2⟩ : _ ∧ k_ ≠ gb469))) (fun k_ hk => (⟨hk, hk.1.2⟩ : _ ∧ k_ ≠ gb470))) (fun _ hk => hk.1.2) (.int .i64 t465)) (fun _ hk => hk.1.2) (.int .i64 t466)) (fun _ hk => hk.2) (.int .i64 t467)) (fun _ hk => hk.2) (.int .i64 t468)) (fun _ h_ => h_.1)) (fun _ h_ => h_.1))))) (g := gb469) (o := .cells #[.int .i64 t465, .int .i64 t466] 105 (0, 0)) (by refine bl_ ?_; refine blk_far ?_ NB469_470.out _; refine bl_ ?_; refine blk_far ?_ NB469_470.out _; refine bl_ ?_; refine blk_put (cs := #[.int .i64 t465, .int .i64 0]) ?_ 1 _ rfl; refine bl_ ?_; refine blk_put (cs := #[.int .i64 0, .int .i64 0]) ?_ 0 _ rfl; refine bl_ ?_; exact BK469.out)) (g := gb470) (o := .cells #[.int .i64 t467, .int .i64 t468] 105 (0, 0)) (by refine bl_ ?_; refine blk_put (cs := #[.int .i64 t467, .int .i64 0]) ?_ 1 _ rfl; refine bl_ ?_; refine blk_put (cs := #[.int .i64 0, .int .i64 0]) ?_ 0 _ rfl; refine bl_ ?_; refine blk_far ?_ NB470_469.out _; refine bl_ ?_; refine blk_far ?_ NB470_469.out _; refine bl_ ?_; exact BK470.out)) (below_size (bs3_ HB.out GE454.out GE469.out GE470.out))); replace HO_5 := mkA (Kd.R_elder' (by refine r_ ?_; exact (Kd.R_mono (Kd.R_mono (Kd.R_far (p := ⟨gb470, 1, none⟩) (Kd.R_far (p := ⟨gb470, 0, none⟩) (Kd.R_far (p := ⟨gb469, 1, none⟩) (Kd.R_far (p := ⟨gb469, 0, none⟩) (Kd.R_mono (Kd.R_mono HO_5.out (fun k_ hk => (⟨hk, hk.1.2⟩ : _ ∧ k_ ≠ gb469))) (fun k_ hk => (⟨hk, hk.1.2⟩ : _ ∧ k_ ≠ gb470))) (fun _ hk => hk.1.2) (.int .i64 t465)) (fun _ hk => hk.1.2) (.int .i64 t466)) (fun _ hk => hk.2) (.int .i64 t467)) (fun _ hk => hk.2) (.int .i64 t468)) (fun _ h_ => h_.1)) (fun _ h_ => h_.1))) (Kd.R_base ho0) hb); replace BK454 := mkA (blk_below (g := gb454) (o := .cells #[.string a0_0, .slice A0_1 l0_1.length c0_1, .int .i64 a0_2, .bool a0_3] 53 (0, 0)) (by refine bl_ ?_; refine blk_far ?_ NB454_470.out _; refine bl_ ?_; refine blk_far ?_ NB454_470.out _; refine bl_ ?_; refine blk_far ?_ NB454_469.out _; refine bl_ ?_; refine blk_far ?_ NB454_469.out _; refine bl_ ?_; exact BK454.out) hb); replace BK469 := mkA (blk_below (g := gb469) (o := .cells #[.int .i64 t465, .int .i64 t466] 105 (0, 0)) (by refine bl_ ?_; refine blk_far ?_ NB469_470.out _; refine bl_ ?_; refine blk_far ?_ NB469_470.out _; refine bl_ ?_; refine blk_put (cs := #[.int .i64 t465, .int .i64 0]) ?_ 1 _ rfl; refine bl_ ?_; refine blk_put (cs := #[.int .i64 0, .int .i64 0]) ?_ 0 _ rfl; refine bl_ ?_; exact BK469.out) hb); replace BK470 := mkA (blk_below (g := gb470) (o := .cells #[.int .i64 t467, .int .i64 t468] 105 (0, 0)) (by refine bl_ ?_; refine blk_put (cs := #[.int .i64 t467, .int .i64 0]) ?_ 1 _ rfl; refine bl_ ?_; refine blk_put (cs := #[.int .i64 0, .int .i64 0]) ?_ 0 _ rfl; refine bl_ ?_; refine blk_far ?_ NB470_469.out _; refine bl_ ?_; refine blk_far ?_ NB470_469.out _; refine bl_ ?_; exact BK470.out) hb); replace HB := mkA (below_step (bs3_ HB.out GE454.out GE469.out GE470.out) hb); (try clear hb); (try clear hb2); (try clear hk); (try clear hi); (try clear ho0); obtain ⟨Ao30, co30, eo30⟩ := Kd.R_slice HO473.out; subst eo30) | ((with_reducible refine gk_ 102 ?_); refine gl_ (some 39) Try.func102 #[.slice Ao30 t471.length co30, .func (.func 89) #[] #[]] ?_; (with_reducible refine (fi102_89.calls k1 (fun k_ => some k_ = (.slice Ao30 t471.length co30 : Value).ownBlock) (.slice Ao30 t471.length co30) t471  t474 w _ ?side1 ?side2 A19.out).mono ?_); (case side1 => repeat (first | (with_reducible first | exact HB.out | apply below_alloc | apply pw_below_drewN | apply below_drew1 | refine below_set ?_ GE454.out | refine below_set ?_ GE469.out | refine below_set ?_ GE470.out) | exact HB.out)); (case side2 => exact Kd.R_tight rfl HO473.out); rintro e w31 ⟨rfl, hy0, hb, hkp⟩; refine ⟨_, rfl, ?_⟩; replace HO_5 := mkA (Kd.R_mono (ok' := fun k_ => some k_ ≠ (.slice Ao30 t471.length co30 : Value).ownBlock ∧ k_ ≠ gb469 ∧ k_ ≠ gb470) (Kd.R_keptB (HO_5.out) hkp (fun k_ hk_ hs_ => (hk_.2) hs_)) (fun k_ hk_ => ⟨hk_.1.2, hk_.1.1.1.2, hk_.1.1.2⟩)); replace BK454 := mkA (blk_kept (bl_ BK454.out) hkp (fun hs_ => (fun e_ => (Kd.R_ne HO473.out BK454.out (by decide)) e_) hs_)); replace BK469 := mkA (blk_kept (bl_ BK469.out) hkp (fun hs_ => (fun e_ => (Kd.R_away HO473.out (fun _ hk => hk.1.2)) e_) hs_)); replace BK470 := mkA (blk_kept (bl_ BK470.out) hkp (fun hs_ => (fun e_ => (Kd.R_away HO473.out (fun _ hk => hk.2)) e_) hs_)); replace HO473 := mkA (Kd.R_reok rfl hy0 (fun k_ e_ => HO473.out.1 k_ e_)); replace HB := mkA (hb); (try clear hb); (try clear hkp); (try clear hy0)))
     go_ret
     exact ⟨_, re_, by refine r_ ?_; exact Kd.R_mono HO473.out (fun _ hk => trivial), bs3_ HB.out GE454.out GE469.out GE470.out⟩
   rw [if_pos c7] at H
   have c7b0 := decide_eq_true c7
   clear c7
   revert H
   refine ng_ fun c8 => ng_ fun c9 => ob_ fun t_ A10 => ?_
   intro H
   have c8b0 := decide_eq_true c8
   clear c8
   have c9b0 := decide_eq_true c9
   clear c9
   obtain ⟨t460, t461⟩ := t_
   try dsimp only at H
   revert H
   refine ng_ fun c11 => ?_
   intro H
   have LMc11 := mkA c11
   clear c11
   obtain ⟨y462, hy462⟩ := gy_ (x5_1 ++ [(⟨t460, t461⟩ : S105)] : List (S105))
   rw [← hy462] at H
   (try with_reducible replace H := bso_ H)
   have Ny462 := mkA hy462
   clear hy462
   have H' := mkA H
   clear H
   obtain ⟨ad458, e458, hx458_0, hx458_1⟩ := at_T105 HR0_1.out x14_1 dt_ dt_
   cases e458
   obtain ⟨hx458_0, hx458_1⟩ := b2_ HB.out hx458_0 hx458_1
   have p458 : (0 ≤ (x14_1 : Int)) = True := eq_true dt_
   have q458 : (x14_1 < (l0_1.length : Int)) = True := eq_true dt_
   go_wp2_with (first | ((with_reducible refine gt_ 7 ?_); refine bx_ 7 #[.int .i64 0, .int .i64 0] 105 fun gb459 hg w12 hbox hb => ?_; replace HO_5 := mkA (Kd.R_below (Kd.R_elderB (r_ HO_5.out) gb459 (Nat.le_of_eq hg.symm)) hb); have BK459 := mkA (hbox); have GW459 := gs_ hg (bs1_ HB.out GE454.out); have GE459 := GW459; replace HB := mkA (below_step (bs1_ HB.out GE454.out) hb); have NB454_459 := nl_ hg (bl_ BK454.out); have NB459_454 := nr_ hg (bl_ BK454.out); replace BK454 := mkA (blk_below (bl_ BK454.out) hb); clear hb hbox hg; have hnb13 := NB459_454.out; have hnc13 := NB454_459.out; obtain ⟨hcz14_0, hcz14_1, hfz14_0, hfz14_1⟩ := z2_ BK459.out) | ((with_reducible refine gk_ 101 ?_); refine gl_ (some 21) Try.func101 #[.agg #[.int .i64 ((rd_T105 l0_1 x14_1).f0), .int .i64 ((rd_T105 l0_1 x14_1).f1)], .int .i64 a1] ?_; (with_reducible refine (impl_Turned.calls k1 ((rd_T105 l0_1 x14_1).f0) ((rd_T105 l0_1 x14_1).f1) a1 t460 t461 _ A10.out).mono ?_); rintro e w15 ⟨rfl, hb⟩; refine ⟨_, rfl, ?_⟩; replace HO_5 := mkA (Kd.R_below (by refine r_ ?_; exact (Kd.R_mono (Kd.R_far (p := ⟨gb459, 1, none⟩) (Kd.R_far (p := ⟨gb459, 0, none⟩) (Kd.R_mono HO_5.out (fun k_ hk => (⟨hk, hk.2⟩ : _ ∧ k_ ≠ gb459))) (fun _ hk => hk.2) (.int .i64 ((rd_T105 l0_1 x14_1).f0))) (fun _ hk => hk.2) (.int .i64 ((rd_T105 l0_1 x14_1).f1))) (fun _ h_ => h_.1))) hb); replace BK454 := mkA (blk_below (g := gb454) (o := .cells #[.string a0_0, .slice (some ad458) l0_1.length c0_1, .int .i64 a0_2, .bool a0_3] 53 (0, 0)) (by refine bl_ ?_; refine blk_far ?_ NB454_459.out _; refine bl_ ?_; refine blk_far ?_ NB454_459.out _; refine bl_ ?_; exact BK454.out) hb); replace BK459 := mkA (blk_below (g := gb459) (o := .cells #[.int .i64 ((rd_T105 l0_1 x14_1).f0), .int .i64 ((rd_T105 l0_1 x14_1).f1)] 105 (0, 0)) (by refine bl_ ?_; refine blk_put (cs := #[.int .i64 ((rd_T105 l0_1 x14_1).f0), .int .i64 0]) ?_ 1 _ rfl; refine bl_ ?_; refine blk_put (cs := #[.int .i64 0, .int .i64 0]) ?_ 0 _ rfl; refine bl_ ?_; exact BK459.out) hb); replace HB := mkA (below_step (bs2_ HB.out GE454.out GE459.out) hb); (try clear hb); (try clear hb2); (try clear hk); (try clear hi)) | ((with_reducible refine gate_builtin (b := .append) (xs := #[.tmp 18, .tmp 22]) rfl ?_); at_builtin; refine Kd.R_append k105 (w0 := w) w.heap.size rfl (.tmp 18) (.tmp 22) 51 105 (.agg #[(.int .i64 0), (.int .i64 0)]) 16 rfl Try.underlying51 info105 rfl (by decide) (by omega) u5 x5_1 (⟨t460, t461⟩ : S105) [.int .i64 t460, .int .i64 t461] (fun k_ => k_ ≠ gb459) (fun _ => False) rfl rfl ?aP (fun _ hk => hk.elim) ?aF ?aO ?aB ?aS ?aL ?_; (case aP => exact k105_mkM _ _ _ (⟨t460, t461⟩ : S105)); (case aB => exact (bs2_ HB.out GE454.out GE459.out)); (case aF => exact (fun k_ hk => Kd.freshB (g := gb459) (o := .cells #[.int .i64 ((rd_T105 l0_1 x14_1).f0), .int .i64 ((rd_T105 l0_1 x14_1).f1)] 105 (0, 0)) (bl_ BK459.out) k_ hk)); (case aO => exact (by refine r_ ?_; exact Kd.R_mono HO_5.out (fun _ hk => hk.2))); (case aS => exact (below_size (bs2_ HB.out GE454.out GE459.out))); (case aL => have := LMc11.out; omega); intro v463 w16 ho hb hg hat; rw [← Ny462.out] at ho; replace BK454 := mkA (blk_grown (g := gb454) (o := .cells #[.string a0_0, .slice (some ad458) l0_1.length c0_1, .int .i64 a0_2, .bool a0_3] 53 (0, 0)) (bl_ BK454.out) hg (Kd.R_ne HO_5.out BK454.out (by decide))); replace BK459 := mkA (blk_grown (g := gb459) (o := .cells #[.int .i64 ((rd_T105 l0_1 x14_1).f0), .int .i64 ((rd_T105 l0_1 x14_1).f1)] 105 (0, 0)) (bl_ BK459.out) hg (Kd.R_away HO_5.out (fun _ hk => hk.2))); replace HB := mkA (hb); have HO464 := mkA (ho); clear HO_5; clear ho hb hg hat))
   go_roundg k1
   case measure => have := HK1.out; omega
   case rel => exact ⟨(y462), (wrap64 (x14_1 + 1)), rf_, H', ⟨om_ HK1.out⟩, ⟨by refine r_ ?_; exact Kd.R_mono HO464.out (fun _ hk => trivial)⟩, ⟨bl_ BK454.out⟩, ⟨bs2_ HB.out GE454.out GE459.out⟩⟩
-- NOT PRINTED: function 111 (impl_Point_111)

-- NOT PRINTED: function 97 (impl_Point_97)

/-! ### impl_Point_99: function 99 -/
def impl_Point_99.l0 : Nat → List (S105) → List (S105) → Int → Int → Option (Bool)
  | 0, _, _, _, _ => none
  | k + 1, x0, x1, x12, x13 => if x13 < x12 then (if 0 ≤ x13 then (if x13 < (x0.length : Int) then (if x13 < (x1.length : Int) then (if (!(((rd_T105 x0 x13).f0) == ((rd_T105 x1 x13).f0)) || (!(((rd_T105 x0 x13).f1) == ((rd_T105 x1 x13).f1)))) = true then (some false) else (impl_Point_99.l0 k x0 x1 x12 (wrap64 (x13 + 1)))) else (none)) else (none)) else (none)) else (some true)
def impl_Point_99.f (k : Nat) (l0 : List (S105)) (l1 : List (S105)) : Option (Bool) := if (l0.length : Int) = (l1.length : Int) then (impl_Point_99.l0 k l0 l1 (l0.length : Int) 0) else (some false)
set_option maxHeartbeats 8000000 in
set_option maxRecDepth 100000 in
theorem impl_Point_99.calls (k : Nat) (A0 : Option Addr) (c0 : Nat) (l0 : List (S105)) (A1 : Option Addr) (c1 : Nat) (l1 : List (S105)) (r : Bool) (w : World) (hr0 : Kd.C k105 w A0 l0.length l0) (hc0 : l0.length ≤ c0) (hr1 : Kd.C k105 w A1 l1.length l1) (hc1 : l1.length ≤ c1) (h : impl_Point_99.f k l0 l1 = some r) :
 Calls Try.prog 99 #[.slice A0 l0.length c0, .slice A1 l1.length c1] w fun e w' => e = .returned (.bool r) ∧ Drawn0 w w' := by
 have hu105 := Try.underlying105
 have HR0 := mkA hr0
 have HC0 := mkA hc0
 clear hr0 hc0
 have HR1 := mkA hr1
 have HC1 := mkA hc1
 clear hr1 hc1
 unfold impl_Point_99.f at h
 have H := h
 clear h
 by_cases c3 : (l0.length : Int) = (l1.length : Int)
 rotate_left
 · rw [if_neg c3] at H
   have c3b0 : ((l0.length : Int) == (l1.length : Int)) = false := beq_eq_false_iff_ne.mpr c3
   have c3b1 : ((l0.length : Int) != (l1.length : Int)) = true := bne_iff_ne.mpr c3
   have c3b2 : (l0.length == l1.length) = false := by first | simpa using c3 | (simp at c3 ⊢; omega)
   obtain rfl := Option.some.inj H
   go_enter Try.func99, Try.ntmps99
   go_wp2
   repeat (go_quiet (fail); try go_wp2)
   go_ret
   exact ⟨by first | rfl | (simp; done) | (simp [*]; done) | (simp [i64_w, i32_w]; done), by repeat (first | exact Drawn0.refl _ | apply Drawn0.step)⟩
 rw [if_pos c3] at H
 have c3b0 : ((l0.length : Int) == (l1.length : Int)) = true := beq_iff_eq.mpr c3
 have c3b1 : ((l0.length : Int) != (l1.length : Int)) = false := bne_eq_false_iff_eq.mpr c3
 have c3b2 : (l0.length == l1.length) = true := by first | simpa using c3 | (simp at c3 ⊢; omega)
 clear c3
 have H' := mkA H
 clear H
 go_enter Try.func99, Try.ntmps99
 go_wp2
 repeat (go_quiet (fail); try go_wp2)
 go_loopg [13] k (fun kq v13 w' => ∃ (x13_1 : Int), v13 = .int .i64 x13_1 ∧ Aside0 (impl_Point_99.l0 kq l0 l1 (l0.length : Int) x13_1 = some r) ∧ Aside0 (kq ≤ k) ∧ Drawn0 w w')
 case atStart => exact ⟨(0), rf_, H', ⟨Nat.le_refl _⟩, by repeat (first | exact Drawn0.refl _ | apply Drawn0.step)⟩
 case round =>
  clear H'
  try clear c3 c3b0 c3b1 c3b2
  obtain ⟨x13_1, rfl, HA, HK1, ⟨m1, rfl⟩⟩ := hrel
  cases gk with
  | zero => exact absurd HA.out (by simp [impl_Point_99.l0])
  | succ k1 =>
   have H := HA.out
   clear HA
   simp only [impl_Point_99.l0] at H
   by_cases c4 : x13_1 < (l0.length : Int)
   rotate_left
   · rw [if_neg c4] at H
     have c4b0 := decide_eq_false c4
     clear c4
     obtain rfl := Option.some.inj H
     go_wp2
     repeat (go_quiet (fail); try go_wp2)
     go_ret
     exact ⟨by first | rfl | (simp; done) | (simp [*]; done) | (simp [i64_w, i32_w]; done), by repeat (first | exact Drawn0.refl _ | apply Drawn0.step)⟩
   rw [if_pos c4] at H
   have c4b0 := decide_eq_true c4
   clear c4
   revert H
   refine ng_ fun c5 => ng_ fun c6 => ng_ fun c7 => ?_
   intro H
   have c5b0 := decide_eq_true c5
   clear c5
   have c6b0 := decide_eq_true c6
   clear c6
   have c7b0 := decide_eq_true c7
   clear c7
   by_cases c8 : (!(((rd_T105 l0 x13_1).f0) == ((rd_T105 l1 x13_1).f0)) || (!(((rd_T105 l0 x13_1).f1) == ((rd_T105 l1 x13_1).f1)))) = true
   · rw [if_pos c8] at H
     have c8b0 : (!(((rd_T105 l0 x13_1).f0) == ((rd_T105 l1 x13_1).f0)) || (!(((rd_T105 l0 x13_1).f1) == ((rd_T105 l1 x13_1).f1)))) = true := c8
     clear c8
     obtain rfl := Option.some.inj H
     obtain ⟨ad475, e475, hx475_0, hx475_1⟩ := at_T105 HR0.out x13_1 dt_ dt_
     cases e475
     have p475 : (0 ≤ (x13_1 : Int)) = True := eq_true dt_
     have q475 : (x13_1 < (l0.length : Int)) = True := eq_true dt_
     obtain ⟨ad476, e476, hx476_0, hx476_1⟩ := at_T105 HR1.out x13_1 dt_ dt_
     cases e476
     have p476 : (0 ≤ (x13_1 : Int)) = True := eq_true dt_
     have q476 : (x13_1 < (l1.length : Int)) = True := eq_true dt_
     go_wp2
     repeat (go_quiet (fail); try go_wp2)
     go_ret
     exact ⟨by first | rfl | (simp; done) | (simp [*]; done) | (simp [i64_w, i32_w]; done), by repeat (first | exact Drawn0.refl _ | apply Drawn0.step)⟩
   · rw [if_neg c8] at H
     have c8b0 : (!(((rd_T105 l0 x13_1).f0) == ((rd_T105 l1 x13_1).f0)) || (!(((rd_T105 l0 x13_1).f1) == ((rd_T105 l1 x13_1).f1)))) = false := by simpa using c8
     clear c8
     have H' := mkA H
     clear H
     obtain ⟨ad475, e475, hx475_0, hx475_1⟩ := at_T105 HR0.out x13_1 dt_ dt_
     cases e475
     have p475 : (0 ≤ (x13_1 : Int)) = True := eq_true dt_
     have q475 : (x13_1 < (l0.length : Int)) = True := eq_true dt_
     obtain ⟨ad476, e476, hx476_0, hx476_1⟩ := at_T105 HR1.out x13_1 dt_ dt_
     cases e476
     have p476 : (0 ≤ (x13_1 : Int)) = True := eq_true dt_
     have q476 : (x13_1 < (l1.length : Int)) = True := eq_true dt_
     go_wp2
     repeat (go_quiet (fail); try go_wp2)
     go_roundg k1
     case measure => have := HK1.out; omega
     case rel => exact ⟨(wrap64 (x13_1 + 1)), rf_, H', ⟨om_ HK1.out⟩, by repeat (first | exact Drawn0.refl _ | apply Drawn0.step)⟩
/-! ### impl_pieceTurns_1: function 98 -/
def impl_pieceTurns_1.f (k : Nat) (l0 : List (S105)) (l1 : List (List (S105))) : Option (Bool) := if 0 < (l1.length : Int) then ((impl_Point_99.f k l0 (rd_L7 l1 0)).bind fun t478 => (some t478)) else (none)
set_option maxHeartbeats 8000000 in
set_option maxRecDepth 100000 in
theorem impl_pieceTurns_1.calls (k : Nat) (A0 : Option Addr) (c0 : Nat) (l0 : List (S105)) (A1 : Option Addr) (l1 : List (List (S105))) (r : Bool) (w : World) (hr0 : Kd.C k105 w A0 l0.length l0) (hc0 : l0.length ≤ c0) (hr1 : Kd.C (Kd.slice 105 k105) w A1 l1.length l1) (h : impl_pieceTurns_1.f k l0 l1 = some r) :
 Calls Try.prog 98 #[.slice A0 l0.length c0, .pointer A1] w fun e w' => e = .returned (.bool r) ∧ Drawn0 w w' := by
 have HR0 := mkA hr0
 have HC0 := mkA hc0
 clear hr0 hc0
 have HR1 := mkA hr1
 clear hr1
 unfold impl_pieceTurns_1.f at h
 have H := h
 clear h
 revert H
 refine ng_ fun c3 => ob_ fun t478 A4 => ?_
 intro H
 have c3b0 := decide_eq_true c3
 have c3b1 : decide (0 < l1.length) = true := decide_eq_true (by omega)
 clear c3
 obtain rfl := Option.some.inj H
 have p477 : 0 ≤ (0 : Int) := (by omega)
 have q477 : 0 < (l1.length : Int) := dt_
 obtain ⟨ad477, A477_0, c477_0, e477, hx477_0, hl477_0, hi477_0⟩ := at_L7 HR1.out 0 p477 q477
 cases e477
 (simp only [Go.Proofs.YtakagkflgkoiiaaX.rp_add1] at hx477_0)
 have qi477 : (0 < l1.length) = True := eq_true (by omega)
 (try rw [show ((0 : Int)).toNat = 0 from rfl] at hx477_0)
 (try rw [Addr.add_zero'] at hx477_0)
 have HR477_0 := mkA hi477_0
 have HC477_0 := mkA hl477_0
 clear hi477_0 hl477_0
 replace p477 := eq_true p477
 replace q477 := eq_true q477
 go_enter Try.func98, Try.ntmps98
 go_wp2_with (first | ((with_reducible refine gk_ 99 ?_); refine gl_ (some 6) Try.func99 #[.slice A0 l0.length c0, .slice A477_0 (rd_L7 l1 0).length c477_0] ?_; (with_reducible refine (impl_Point_99.calls k _ _ l0 _ _ (rd_L7 l1 0) t478 _ ?side1 ?side2 ?side3 ?side4 A4.out).mono ?_); (case side1 => repeat (first | exact HR0.out | (with_reducible refine Kd.C_alloc ?_ _) | (with_reducible refine Kd.C_drewN ?_ _) | (with_reducible refine Kd.C_drew ?_))); (case side2 => exact HC0.out); (case side3 => repeat (first | exact HR477_0.out | (with_reducible refine Kd.C_alloc ?_ _) | (with_reducible refine Kd.C_drewN ?_ _) | (with_reducible refine Kd.C_drew ?_))); (case side4 => exact HC477_0.out); rintro e w' ⟨rfl, ⟨nd, rfl⟩⟩; refine ⟨_, rfl, ?_⟩))
 go_ret
 exact ⟨by first | rfl | (simp; done) | (simp [*]; done) | (simp [i64_w, i32_w]; done), by repeat (first | exact Drawn0.refl _ | apply Drawn0.step)⟩
/-! ### fi111_98: function 100017 -/
def fi111_98.l0 : Nat → List (List (S105)) → Int → Int → List (List (S105)) → Option (Int)
  | 0, _, _, _, _ => none
  | k + 1, x0, x7, x8, x906 => if x8 < x7 then (if 0 ≤ x8 then (if x8 < (x0.length : Int) then ((impl_pieceTurns_1.f k (rd_L7 x0 x8) x906).bind fun t480 => (if t480 = true then (some x8) else (fi111_98.l0 k x0 x7 (wrap64 (x8 + 1)) x906))) else (none)) else (none)) else (some (-1))
def fi111_98.f (k : Nat) (l0 : List (List (S105))) (l1_0 : List (List (S105))) : Option (Int) := fi111_98.l0 k l0 (l0.length : Int) 0 l1_0
set_option maxHeartbeats 8000000 in
set_option maxRecDepth 100000 in
theorem fi111_98.calls (k : Nat) (A0 : Option Addr) (c0 : Nat) (l0 : List (List (S105))) (A1_0 : Option Addr) (l1_0 : List (List (S105))) (r : Int) (w : World) (hr0 : Kd.C (Kd.slice 105 k105) w A0 l0.length l0) (hc0 : l0.length ≤ c0) (hr1_0 : Kd.C (Kd.slice 105 k105) w A1_0 l1_0.length l1_0) (h : fi111_98.f k l0 l1_0 = some r) :
 Calls Try.prog 111 #[.slice A0 l0.length c0, .func (.func 98) #[] #[.pointer A1_0]] w fun e w' => e = .returned (.int .i64 r) ∧ Drawn0 w w' := by
 have HR0 := mkA hr0
 have HC0 := mkA hc0
 clear hr0 hc0
 have HR1_0 := mkA hr1_0
 clear hr1_0
 unfold fi111_98.f at h
 have H := h
 clear h
 have H' := mkA H
 clear H
 go_enter Try.func111, Try.ntmps111
 go_wp2
 go_loopg [8] k (fun kq v8 w' => ∃ (x8_1 : Int), v8 = .int .i64 x8_1 ∧ Aside0 (fi111_98.l0 kq l0 (l0.length : Int) x8_1 l1_0 = some r) ∧ Aside0 (kq ≤ k) ∧ Drawn0 w w')
 case atStart => exact ⟨(0), rf_, H', ⟨Nat.le_refl _⟩, by repeat (first | exact Drawn0.refl _ | apply Drawn0.step)⟩
 case round =>
  clear H'
  obtain ⟨x8_1, rfl, HA, HK1, ⟨m1, rfl⟩⟩ := hrel
  cases gk with
  | zero => exact absurd HA.out (by simp [fi111_98.l0])
  | succ k1 =>
   have H := HA.out
   clear HA
   simp only [fi111_98.l0] at H
   by_cases c3 : x8_1 < (l0.length : Int)
   rotate_left
   · rw [if_neg c3] at H
     have c3b0 := decide_eq_false c3
     clear c3
     obtain rfl := Option.some.inj H
     go_wp2
     go_ret
     exact ⟨by first | rfl | (simp; done) | (simp [*]; done) | (simp [i64_w, i32_w]; done), by repeat (first | exact Drawn0.refl _ | apply Drawn0.step)⟩
   rw [if_pos c3] at H
   have c3b0 := decide_eq_true c3
   clear c3
   revert H
   refine ng_ fun c4 => ng_ fun c5 => ob_ fun t480 A6 => ?_
   intro H
   have c4b0 := decide_eq_true c4
   clear c4
   have c5b0 := decide_eq_true c5
   clear c5
   by_cases c7 : t480 = true
   · subst c7
     rw [if_pos rfl] at H
     obtain rfl := Option.some.inj H
     have p479 : 0 ≤ (x8_1 : Int) := dt_
     have q479 : x8_1 < (l0.length : Int) := dt_
     obtain ⟨ad479, A479_0, c479_0, e479, hx479_0, hl479_0, hi479_0⟩ := at_L7 HR0.out x8_1 p479 q479
     cases e479
     have HR479_0 := mkA hi479_0
     have HC479_0 := mkA hl479_0
     clear hi479_0 hl479_0
     replace p479 := eq_true p479
     replace q479 := eq_true q479
     go_wp2_with (first | (go_at_call 98; (with_reducible refine (impl_pieceTurns_1.calls k1 _ _ (rd_L7 l0 x8_1) _ l1_0 true _ ?side1 ?side2 ?side3 A6.out).mono ?_); (case side1 => repeat (first | exact HR479_0.out | (with_reducible refine Kd.C_alloc ?_ _) | (with_reducible refine Kd.C_drewN ?_ _) | (with_reducible refine Kd.C_drew ?_))); (case side2 => exact HC479_0.out); (case side3 => repeat (first | exact HR1_0.out | (with_reducible refine Kd.C_alloc ?_ _) | (with_reducible refine Kd.C_drewN ?_ _) | (with_reducible refine Kd.C_drew ?_))); rintro e w' ⟨rfl, ⟨nd, rfl⟩⟩))
     go_ret
     exact ⟨by first | rfl | (simp; done) | (simp [*]; done) | (simp [i64_w, i32_w]; done), by repeat (first | exact Drawn0.refl _ | apply Drawn0.step)⟩
   · replace c7 := Bool.eq_false_iff.mpr c7
     subst c7
     rw [if_neg Bool.false_ne_true] at H
     have H' := mkA H
     clear H
     have p479 : 0 ≤ (x8_1 : Int) := dt_
     have q479 : x8_1 < (l0.length : Int) := dt_
     obtain ⟨ad479, A479_0, c479_0, e479, hx479_0, hl479_0, hi479_0⟩ := at_L7 HR0.out x8_1 p479 q479
     cases e479
     have HR479_0 := mkA hi479_0
     have HC479_0 := mkA hl479_0
     clear hi479_0 hl479_0
     replace p479 := eq_true p479
     replace q479 := eq_true q479
     go_wp2_with (first | (go_at_call 98; (with_reducible refine (impl_pieceTurns_1.calls k1 _ _ (rd_L7 l0 x8_1) _ l1_0 false _ ?side1 ?side2 ?side3 A6.out).mono ?_); (case side1 => repeat (first | exact HR479_0.out | (with_reducible refine Kd.C_alloc ?_ _) | (with_reducible refine Kd.C_drewN ?_ _) | (with_reducible refine Kd.C_drew ?_))); (case side2 => exact HC479_0.out); (case side3 => repeat (first | exact HR1_0.out | (with_reducible refine Kd.C_alloc ?_ _) | (with_reducible refine Kd.C_drewN ?_ _) | (with_reducible refine Kd.C_drew ?_))); rintro e w' ⟨rfl, ⟨nd, rfl⟩⟩))
     go_roundg k1
     case measure => have := HK1.out; omega
     case rel => exact ⟨(wrap64 (x8_1 + 1)), rf_, H', ⟨om_ HK1.out⟩, by repeat (first | exact Drawn0.refl _ | apply Drawn0.step)⟩
/-! ### fi97_98: function 100016 -/
def fi97_98.f (k : Nat) (l0 : List (List (S105))) (l1_0 : List (List (S105))) : Option (Bool) := (fi111_98.f k l0 l1_0).bind fun t481 => (some (decide (t481 ≥ 0)))
set_option maxHeartbeats 8000000 in
set_option maxRecDepth 100000 in
theorem fi97_98.calls (k : Nat) (A0 : Option Addr) (c0 : Nat) (l0 : List (List (S105))) (A1_0 : Option Addr) (l1_0 : List (List (S105))) (r : Bool) (w : World) (hr0 : Kd.C (Kd.slice 105 k105) w A0 l0.length l0) (hc0 : l0.length ≤ c0) (hr1_0 : Kd.C (Kd.slice 105 k105) w A1_0 l1_0.length l1_0) (h : fi97_98.f k l0 l1_0 = some r) :
 Calls Try.prog 97 #[.slice A0 l0.length c0, .func (.func 98) #[] #[.pointer A1_0]] w fun e w' => e = .returned (.bool r) ∧ Drawn0 w w' := by
 have HR0 := mkA hr0
 have HC0 := mkA hc0
 clear hr0 hc0
 have HR1_0 := mkA hr1_0
 clear hr1_0
 unfold fi97_98.f at h
 have H := h
 clear h
 revert H
 refine ob_ fun t481 A3 => ?_
 intro H
 obtain rfl := Option.some.inj H
 go_enter Try.func97, Try.ntmps97
 go_wp2_with (first | ((with_reducible refine gk_ 111 ?_); refine gl_ (some 7) Try.func111 #[.slice A0 l0.length c0, .func (.func 98) #[] #[.pointer A1_0]] ?_; (with_reducible refine (fi111_98.calls k _ _ l0 _ l1_0 t481 _ ?side1 ?side2 ?side3 A3.out).mono ?_); (case side1 => repeat (first | exact HR0.out | (with_reducible refine Kd.C_alloc ?_ _) | (with_reducible refine Kd.C_drewN ?_ _) | (with_reducible refine Kd.C_drew ?_))); (case side2 => exact HC0.out); (case side3 => repeat (first | exact HR1_0.out | (with_reducible refine Kd.C_alloc ?_ _) | (with_reducible refine Kd.C_drewN ?_ _) | (with_reducible refine Kd.C_drew ?_))); rintro e w' ⟨rfl, ⟨nd, rfl⟩⟩; refine ⟨_, rfl, ?_⟩))
 go_ret
 exact ⟨by first | rfl | (simp; done) | (simp [*]; done) | (simp [i64_w, i32_w]; done), by repeat (first | exact Drawn0.refl _ | apply Drawn0.step)⟩
end Go.Proofs.Ytakagkflgkoiiaa.GFnExactIsCover

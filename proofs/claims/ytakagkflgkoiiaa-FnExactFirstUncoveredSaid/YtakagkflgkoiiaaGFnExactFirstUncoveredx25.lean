-- Written by the session's own program (gen.py) out of the translation's print. Lean checks it.
import Derived.Test.YtakagkflgkoiiaaQ
import Derived.Test.YtakagkflgkoiiaaGFnExactFirstUncoveredx0
import Derived.Test.YtakagkflgkoiiaaGFnExactFirstUncoveredx2
import Derived.Test.YtakagkflgkoiiaaGFnExactFirstUncoveredx3
import Derived.Test.YtakagkflgkoiiaaGFnExactFirstUncoveredx4
import Derived.Test.YtakagkflgkoiiaaGFnExactFirstUncoveredx14
import Derived.Test.YtakagkflgkoiiaaGFnExactFirstUncoveredx24
namespace Go.Proofs.Ytakagkflgkoiiaa.GFnExactFirstUncovered
open Go.RowKit Go.Proofs.YtakagkflgkoiiaaW.PrintWords Go.Proofs.YtakagkflgkoiiaaW.PrintLast Go.Proofs.YtakagkflgkoiiaaW.PrintMore
open List renaming setIfInBounds_toArray → sA, set_cons_zero → sB, set_cons_succ → sC
open Go.Proofs.YtakagkflgkoiiaaW.PrintWords.Aside0 renaming mk → mkA
open Go.Proofs.YtakagkflgkoiiaaX (dt_ bc_ p0_ p1_ bl_ cb_ bs0_ bs1_ bs2_ bs3_ bs4_ bs5_ bs6_ bs7_ bs8_ bs9_ bs10_ bs11_ bs12_)
open Go.Proofs.YtakagkflgkoiiaaQ
attribute [local go_sem] max2_int min2_int max_two min_two max_three min_three max_four min_four 
set_option linter.unusedVariables false
set_option linter.unusedSimpArgs false

/-! ### laws_FnExactFirstUncovered: function 11 -/
def laws_FnExactFirstUncovered.j0 : Nat → List (S47) → List (S111) → List (S53) → List (S109) → Bool → Int → Int → List Int → Int → Int → List Int → Option (Bool)
  | 0, _, _, _, _, _, _, _, _, _, _, _ => none
  | k + 1, x1, x2, x11, x12, x60, x556000, x556001, x556002, x578000, x578001, x578002 => if x60 = true then (some false) else ((laws_toShape.f k x556000 x556001 x556002).bind fun bt586 => ((laws_eqShape.f k x578000 x578001 x578002 bt586.1 bt586.2.1 bt586.2.2).bind fun t591 => (if t591 = true then ((laws_toPieceS.f k x1).bind fun t592 => ((laws_eqPieceS.f k x11 t592).bind fun t595 => (if t595 = true then ((laws_toLaidS.f k x2).bind fun t596 => ((laws_eqLaidS.f k x12 t596).bind fun t599 => (if t599 = true then (some true) else (some false)))) else (some false)))) else (some false))))
def laws_FnExactFirstUncovered.f (k : Nat) (a0_0 : Int) (a0_1 : Int) (l0_2 : List Int) (l1 : List (S47)) (l2 : List (S111)) : Option (Bool) := (laws_szShape.f a0_0 a0_1 l0_2 1048576).bind fun t556 => (if t556 < 0 then (some true) else ((laws_szPieceS.f k l1 t556).bind fun t557 => (if t557 < 0 then (some true) else ((laws_szLaidS.f l2 t557).bind fun t558 => (if t558 < 0 then (some true) else ((laws_toShape.f k a0_0 a0_1 l0_2).bind fun bt559 => ((laws_toPieceS.f k l1).bind fun t564 => ((laws_toLaidS.f k l2).bind fun t567 => ((spec_FirstUncovered.f k bt559.1 bt559.2.1 bt559.2.2 t564 t567).bind fun bt570 => ((laws_toShape.f k a0_0 a0_1 l0_2).bind fun bt572 => ((laws_toPieceS.f k l1).bind fun t578 => ((laws_toLaidS.f k l2).bind fun t581 => ((impl_FirstUncovered.f k bt572.1 bt572.2.1 bt572.2.2 t578 t581).bind fun bt584 => (if bt584.1 = bt570.1 then (laws_FnExactFirstUncovered.j0 k l1 l2 t578 t581 (bt584.2 != bt570.2) a0_0 a0_1 l0_2 bt572.1 bt572.2.1 bt572.2.2) else (laws_FnExactFirstUncovered.j0 k l1 l2 t578 t581 true a0_0 a0_1 l0_2 bt572.1 bt572.2.1 bt572.2.2)))))))))))))))
set_option maxHeartbeats 8000000 in
set_option maxRecDepth 100000 in
theorem laws_FnExactFirstUncovered.calls (k : Nat) (a0_0 : Int) (a0_1 : Int) (A0_2 : Option Addr) (c0_2 : Nat) (l0_2 : List Int) (A1 : Option Addr) (c1 : Nat) (l1 : List (S47)) (A2 : Option Addr) (c2 : Nat) (l2 : List (S111)) (r : Bool) (w : World) (hr0_2 : Kd.C (Kd.int .i64) w A0_2 l0_2.length l0_2) (hc0_2 : l0_2.length ≤ c0_2) (hr1 : Kd.C k47 w A1 l1.length l1) (hc1 : l1.length ≤ c1) (hr2 : Kd.C k111 w A2 l2.length l2) (hc2 : l2.length ≤ c2) (h : laws_FnExactFirstUncovered.f k a0_0 a0_1 l0_2 l1 l2 = some r) :
 Calls Try.prog 11 #[.agg #[.int .i64 a0_0, .int .i64 a0_1, .slice A0_2 l0_2.length c0_2], .slice A1 l1.length c1, .slice A2 l2.length c2] w fun e w' => e = .returned (.bool r) ∧ Below w.heap.size w w' := by
 have hu24 := Try.underlying24
 have hu27 := Try.underlying27
 have HR0_2 := mkA hr0_2
 have HC0_2 := mkA hc0_2
 clear hr0_2 hc0_2
 have HR1 := mkA hr1
 have HC1 := mkA hc1
 clear hr1 hc1
 have HR2 := mkA hr2
 have HC2 := mkA hc2
 clear hr2 hc2
 have HB := mkA (Below.refl w.heap.size w)
 unfold laws_FnExactFirstUncovered.f at h
 have H := h
 clear h
 revert H
 refine ob_ fun t556 A4 => ?_
 intro H
 by_cases c5 : t556 < 0
 · rw [if_pos c5] at H
   have c5b0 := decide_eq_true c5
   clear c5
   obtain rfl := Option.some.inj H
   go_enter Try.func11, Try.ntmps11
   go_wp2_with (first | ((with_reducible refine gt_ 3 ?_); refine bx_ 3 #[.int .i64 a0_0, .int .i64 a0_1, .slice A0_2 l0_2.length c0_2] 24 fun gb555 hg w6 hbox hb => ?_; have BK555 := mkA (hbox); have GW555 := gs_ hg (bs0_ HB.out); have GE555 := GW555; replace HB := mkA (below_step (bs0_ HB.out) hb); clear hb hbox hg; obtain ⟨hcz7_0, hcz7_1, hcz7_2, hfz7_0, hfz7_1, hfz7_2⟩ := z3_ BK555.out) | ((with_reducible refine gk_ 13 ?_); refine gl_ (some 17) Try.func13 #[.agg #[.int .i64 a0_0, .int .i64 a0_1, .slice A0_2 l0_2.length c0_2], .int .i64 1048576] ?_; (with_reducible refine (laws_szShape.calls a0_0 a0_1 _ _ l0_2 1048576 t556 _ ?side1 ?side2 A4.out).mono ?_); (case side1 => exact cb_ HR0_2.out HB.out); (case side2 => exact HC0_2.out); rintro e w8 ⟨rfl, hb⟩; refine ⟨_, rfl, ?_⟩; replace BK555 := mkA (blk_below (bl_ BK555.out) hb); replace HB := mkA (below_step (bs1_ HB.out GE555.out) hb); (try clear hb); (try clear hb2); (try clear hk); (try clear hi)))
   go_ret
   exact ⟨re_, bs1_ HB.out GE555.out⟩
 · rw [if_neg c5] at H
   have c5b0 := decide_eq_false c5
   clear c5
   revert H
   refine ob_ fun t557 A9 => ?_
   intro H
   by_cases c10 : t557 < 0
   · rw [if_pos c10] at H
     have c10b0 := decide_eq_true c10
     clear c10
     obtain rfl := Option.some.inj H
     go_enter Try.func11, Try.ntmps11
     go_wp2_with (first | ((with_reducible refine gt_ 3 ?_); refine bx_ 3 #[.int .i64 a0_0, .int .i64 a0_1, .slice A0_2 l0_2.length c0_2] 24 fun gb555 hg w11 hbox hb => ?_; have BK555 := mkA (hbox); have GW555 := gs_ hg (bs0_ HB.out); have GE555 := GW555; replace HB := mkA (below_step (bs0_ HB.out) hb); clear hb hbox hg; obtain ⟨hcz12_0, hcz12_1, hcz12_2, hfz12_0, hfz12_1, hfz12_2⟩ := z3_ BK555.out) | ((with_reducible refine gk_ 13 ?_); refine gl_ (some 17) Try.func13 #[.agg #[.int .i64 a0_0, .int .i64 a0_1, .slice A0_2 l0_2.length c0_2], .int .i64 1048576] ?_; (with_reducible refine (laws_szShape.calls a0_0 a0_1 _ _ l0_2 1048576 t556 _ ?side1 ?side2 A4.out).mono ?_); (case side1 => exact cb_ HR0_2.out HB.out); (case side2 => exact HC0_2.out); rintro e w13 ⟨rfl, hb⟩; refine ⟨_, rfl, ?_⟩; replace BK555 := mkA (blk_below (bl_ BK555.out) hb); replace HB := mkA (below_step (bs1_ HB.out GE555.out) hb); (try clear hb); (try clear hb2); (try clear hk); (try clear hi)) | ((with_reducible refine gk_ 28 ?_); refine gl_ (some 22) Try.func28 #[.slice A1 l1.length c1, .int .i64 t556] ?_; (with_reducible refine (laws_szPieceS.calls k _ _ l1 t556 t557 _ ?side1 ?side2 A9.out).mono ?_); (case side1 => exact cb_ HR1.out HB.out); (case side2 => exact HC1.out); rintro e w14 ⟨rfl, hb⟩; refine ⟨_, rfl, ?_⟩; replace BK555 := mkA (blk_below (bl_ BK555.out) hb); replace HB := mkA (below_step (bs1_ HB.out GE555.out) hb); (try clear hb); (try clear hb2); (try clear hk); (try clear hi)))
     go_ret
     exact ⟨re_, bs1_ HB.out GE555.out⟩
   · rw [if_neg c10] at H
     have c10b0 := decide_eq_false c10
     clear c10
     revert H
     refine ob_ fun t558 A15 => ?_
     intro H
     by_cases c16 : t558 < 0
     · rw [if_pos c16] at H
       have c16b0 := decide_eq_true c16
       clear c16
       obtain rfl := Option.some.inj H
       go_enter Try.func11, Try.ntmps11
       go_wp2_with (first | ((with_reducible refine gt_ 3 ?_); refine bx_ 3 #[.int .i64 a0_0, .int .i64 a0_1, .slice A0_2 l0_2.length c0_2] 24 fun gb555 hg w17 hbox hb => ?_; have BK555 := mkA (hbox); have GW555 := gs_ hg (bs0_ HB.out); have GE555 := GW555; replace HB := mkA (below_step (bs0_ HB.out) hb); clear hb hbox hg; obtain ⟨hcz18_0, hcz18_1, hcz18_2, hfz18_0, hfz18_1, hfz18_2⟩ := z3_ BK555.out) | ((with_reducible refine gk_ 13 ?_); refine gl_ (some 17) Try.func13 #[.agg #[.int .i64 a0_0, .int .i64 a0_1, .slice A0_2 l0_2.length c0_2], .int .i64 1048576] ?_; (with_reducible refine (laws_szShape.calls a0_0 a0_1 _ _ l0_2 1048576 t556 _ ?side1 ?side2 A4.out).mono ?_); (case side1 => exact cb_ HR0_2.out HB.out); (case side2 => exact HC0_2.out); rintro e w19 ⟨rfl, hb⟩; refine ⟨_, rfl, ?_⟩; replace BK555 := mkA (blk_below (bl_ BK555.out) hb); replace HB := mkA (below_step (bs1_ HB.out GE555.out) hb); (try clear hb); (try clear hb2); (try clear hk); (try clear hi)) | ((with_reducible refine gk_ 28 ?_); refine gl_ (some 22) Try.func28 #[.slice A1 l1.length c1, .int .i64 t556] ?_; (with_reducible refine (laws_szPieceS.calls k _ _ l1 t556 t557 _ ?side1 ?side2 A9.out).mono ?_); (case side1 => exact cb_ HR1.out HB.out); (case side2 => exact HC1.out); rintro e w20 ⟨rfl, hb⟩; refine ⟨_, rfl, ?_⟩; replace BK555 := mkA (blk_below (bl_ BK555.out) hb); replace HB := mkA (below_step (bs1_ HB.out GE555.out) hb); (try clear hb); (try clear hb2); (try clear hk); (try clear hi)) | ((with_reducible refine gk_ 47 ?_); refine gl_ (some 27) Try.func47 #[.slice A2 l2.length c2, .int .i64 t557] ?_; (with_reducible refine (laws_szLaidS.calls _ _ l2 t557 t558 _ ?side1 ?side2 A15.out).mono ?_); (case side1 => exact cb_ HR2.out HB.out); (case side2 => exact HC2.out); rintro e w' ⟨rfl, ⟨nd, rfl⟩⟩; refine ⟨_, rfl, ?_⟩))
       go_ret
       exact ⟨re_, bs1_ HB.out GE555.out⟩
     · rw [if_neg c16] at H
       have c16b0 := decide_eq_false c16
       clear c16
       revert H
       refine ob_ fun t_ A21 => ?_
       intro H
       obtain ⟨t559, t560, t561⟩ := t_
       try dsimp only at H
       revert H
       refine ob_ fun t564 A22 => ob_ fun t567 A23 => ob_ fun t_ A24 => ?_
       intro H
       obtain ⟨t570, t571⟩ := t_
       try dsimp only at H
       revert H
       refine ob_ fun t_ A25 => ?_
       intro H
       obtain ⟨t572, t573, t574⟩ := t_
       try dsimp only at H
       revert H
       refine ob_ fun t578 A26 => ob_ fun t581 A27 => ob_ fun t_ A28 => ?_
       intro H
       obtain ⟨t584, t585⟩ := t_
       try dsimp only at H
       have HC29 := mkA H
       clear H
       go_enter Try.func11, Try.ntmps11
       go_upto_region 16 with (first | ((with_reducible refine gt_ 3 ?_); refine bx_ 3 #[.int .i64 a0_0, .int .i64 a0_1, .slice A0_2 l0_2.length c0_2] 24 fun gb555 hg w30 hbox hb => ?_; have BK555 := mkA (hbox); have GW555 := gs_ hg (bs0_ HB.out); have GE555 := GW555; replace HB := mkA (below_step (bs0_ HB.out) hb); clear hb hbox hg; obtain ⟨hcz31_0, hcz31_1, hcz31_2, hfz31_0, hfz31_1, hfz31_2⟩ := z3_ BK555.out) | ((with_reducible refine gk_ 13 ?_); refine gl_ (some 17) Try.func13 #[.agg #[.int .i64 a0_0, .int .i64 a0_1, .slice A0_2 l0_2.length c0_2], .int .i64 1048576] ?_; (with_reducible refine (laws_szShape.calls a0_0 a0_1 _ _ l0_2 1048576 t556 _ ?side1 ?side2 A4.out).mono ?_); (case side1 => exact cb_ HR0_2.out HB.out); (case side2 => exact HC0_2.out); rintro e w32 ⟨rfl, hb⟩; refine ⟨_, rfl, ?_⟩; replace BK555 := mkA (blk_below (bl_ BK555.out) hb); replace HB := mkA (below_step (bs1_ HB.out GE555.out) hb); (try clear hb); (try clear hb2); (try clear hk); (try clear hi)) | ((with_reducible refine gk_ 28 ?_); refine gl_ (some 22) Try.func28 #[.slice A1 l1.length c1, .int .i64 t556] ?_; (with_reducible refine (laws_szPieceS.calls k _ _ l1 t556 t557 _ ?side1 ?side2 A9.out).mono ?_); (case side1 => exact cb_ HR1.out HB.out); (case side2 => exact HC1.out); rintro e w33 ⟨rfl, hb⟩; refine ⟨_, rfl, ?_⟩; replace BK555 := mkA (blk_below (bl_ BK555.out) hb); replace HB := mkA (below_step (bs1_ HB.out GE555.out) hb); (try clear hb); (try clear hb2); (try clear hk); (try clear hi)) | ((with_reducible refine gk_ 47 ?_); refine gl_ (some 27) Try.func47 #[.slice A2 l2.length c2, .int .i64 t557] ?_; (with_reducible refine (laws_szLaidS.calls _ _ l2 t557 t558 _ ?side1 ?side2 A15.out).mono ?_); (case side1 => exact cb_ HR2.out HB.out); (case side2 => exact HC2.out); rintro e w' ⟨rfl, ⟨nd, rfl⟩⟩; refine ⟨_, rfl, ?_⟩; (try (rw [drewN_self w33]; generalize hq_ : World.drewN w33 _ = w33; have n0_ : Aside0 (w33.heap[gb555]? = some (.cells #[.int .i64 a0_0, .int .i64 a0_1, .slice A0_2 l0_2.length c0_2] 24 (0, 0))) := ⟨by rw [← hq_]; exact (bl_ BK555.out)⟩; have n1_ : Aside0 (Below w.heap.size w w33) := ⟨by rw [← hq_]; exact (bs1_ HB.out GE555.out)⟩; clear BK555 HB hq_; have BK555 := n0_; have HB := n1_; clear n0_ n1_)); obtain ⟨hcz34_0, hcz34_1, hcz34_2, hfz34_0, hfz34_1, hfz34_2⟩ := z3_ BK555.out) | ((with_reducible refine gk_ 15 ?_); refine gl_ (some 32) Try.func15 #[.agg #[.int .i64 a0_0, .int .i64 a0_1, .slice A0_2 l0_2.length c0_2]] ?_; (with_reducible refine (laws_toShape.calls k a0_0 a0_1 _ _ l0_2 t559 t560 t561 _ ?side1 ?side2 A21.out).mono ?_); (case side1 => exact cb_ HR0_2.out HB.out); (case side2 => exact HC0_2.out); rintro e w35 ⟨v562, rfl, ho0, hb⟩; refine ⟨_, rfl, ?_⟩; have HO563 := mkA (Kd.R_lower ho0 (below_size (bs1_ HB.out GE555.out))); replace BK555 := mkA (blk_below (bl_ BK555.out) hb); replace HB := mkA (below_step (bs1_ HB.out GE555.out) hb); (try clear hb); (try clear hb2); (try clear hk); (try clear hi); (try clear ho0)) | ((with_reducible refine gk_ 30 ?_); refine gl_ (some 34) Try.func30 #[.slice A1 l1.length c1] ?_; (with_reducible refine (laws_toPieceS.calls k _ _ l1 t564 _ ?side1 ?side2 A22.out).mono ?_); (case side1 => exact cb_ HR1.out HB.out); (case side2 => exact HC1.out); rintro e w36 ⟨v565, rfl, ho0, hb⟩; refine ⟨_, rfl, ?_⟩; replace HO563 := mkA (Kd.R_below (r_ HO563.out) hb); have HO566 := mkA (Kd.S_lower ho0 (below_size (bs1_ HB.out GE555.out))); replace BK555 := mkA (blk_below (bl_ BK555.out) hb); replace HB := mkA (below_step (bs1_ HB.out GE555.out) hb); (try clear hb); (try clear hb2); (try clear hk); (try clear hi); (try clear ho0)) | ((with_reducible refine gk_ 49 ?_); refine gl_ (some 36) Try.func49 #[.slice A2 l2.length c2] ?_; (with_reducible refine (laws_toLaidS.calls k _ _ l2 t567 _ ?side1 ?side2 A23.out).mono ?_); (case side1 => exact cb_ HR2.out HB.out); (case side2 => exact HC2.out); rintro e w37 ⟨v568, rfl, ho0, hb⟩; refine ⟨_, rfl, ?_⟩; replace HO563 := mkA (Kd.R_below (r_ HO563.out) hb); replace HO566 := mkA (Kd.S_below (s_ HO566.out) hb); have HO569 := mkA (Kd.R_lower ho0 (below_size (bs1_ HB.out GE555.out))); replace BK555 := mkA (blk_below (bl_ BK555.out) hb); replace HB := mkA (below_step (bs1_ HB.out GE555.out) hb); (try clear hb); (try clear hb2); (try clear hk); (try clear hi); (try clear ho0); obtain ⟨Ao38, co38, eo38⟩ := Kd.R_slice HO563.out; subst eo38; obtain ⟨Ao39, co39, eo39⟩ := Kd.S_slice HO566.out; subst eo39; obtain ⟨Ao40, co40, eo40⟩ := Kd.R_slice HO569.out; subst eo40) | ((with_reducible refine gk_ 48 ?_); refine gl_ (some 37) Try.func48 #[.agg #[.int .i64 t559, .int .i64 t560, .slice Ao38 t561.length co38], .slice Ao39 t564.length co39, .slice Ao40 t567.length co40] ?_; (with_reducible refine (spec_FirstUncovered.calls k t559 t560 _ _ t561 _ _ t564 _ _ t567 t570 t571 _ ?side1 ?side2 ?side3 ?side4 ?side5 ?side6 A24.out).mono ?_); (case side1 => repeat (first | exact (Kd.R_reads' HO563.out).2.2 | (with_reducible refine Kd.C_alloc ?_ _) | (with_reducible refine Kd.C_drewN ?_ _) | (with_reducible refine Kd.C_drew ?_))); (case side2 => exact (Kd.R_reads' HO563.out).2.1); (case side3 => repeat (first | exact (Kd.S_reads' HO566.out).2.2 | (with_reducible refine Kd.C_alloc ?_ _) | (with_reducible refine Kd.C_drewN ?_ _) | (with_reducible refine Kd.C_drew ?_))); (case side4 => exact (Kd.S_reads' HO566.out).2.1); (case side5 => repeat (first | exact (Kd.R_reads' HO569.out).2.2 | (with_reducible refine Kd.C_alloc ?_ _) | (with_reducible refine Kd.C_drewN ?_ _) | (with_reducible refine Kd.C_drew ?_))); (case side6 => exact (Kd.R_reads' HO569.out).2.1); rintro e w41 ⟨rfl, hb⟩; refine ⟨_, rfl, ?_⟩; replace HO563 := mkA (Kd.R_below (r_ HO563.out) hb); replace HO566 := mkA (Kd.S_below (s_ HO566.out) hb); replace HO569 := mkA (Kd.R_below (r_ HO569.out) hb); replace BK555 := mkA (blk_below (bl_ BK555.out) hb); replace HB := mkA (below_step (bs1_ HB.out GE555.out) hb); (try clear hb); (try clear hb2); (try clear hk); (try clear hi); obtain ⟨hcz42_0, hcz42_1, hcz42_2, hfz42_0, hfz42_1, hfz42_2⟩ := z3_ BK555.out) | ((with_reducible refine gk_ 15 ?_); refine gl_ (some 41) Try.func15 #[.agg #[.int .i64 a0_0, .int .i64 a0_1, .slice A0_2 l0_2.length c0_2]] ?_; (with_reducible refine (laws_toShape.calls k a0_0 a0_1 _ _ l0_2 t572 t573 t574 _ ?side1 ?side2 A25.out).mono ?_); (case side1 => exact cb_ HR0_2.out HB.out); (case side2 => exact HC0_2.out); rintro e w43 ⟨v575, rfl, ho0, hb⟩; refine ⟨_, rfl, ?_⟩; replace HO566 := mkA (Kd.S_below (s_ HO566.out) hb); replace HO569 := mkA (Kd.R_below (r_ HO569.out) hb); have HO576 := mkA (Kd.R_lower (Kd.R_new' ho0 (Kd.R_lt (r_ HO563.out))) (below_size (bs1_ HB.out GE555.out))); replace HO563 := mkA (Kd.R_elder' (r_ HO563.out) (Kd.R_base ho0) hb); replace BK555 := mkA (blk_below (bl_ BK555.out) hb); replace HB := mkA (below_step (bs1_ HB.out GE555.out) hb); (try clear hb); (try clear hb2); (try clear hk); (try clear hi); (try clear ho0)) | ((with_reducible refine gt_ 10 ?_); refine bx_ 10 #[.int .i64 0, .int .i64 0, .slice none 0 0] 27 fun gb577 hg w44 hbox hb => ?_; replace HO563 := mkA (Kd.R_below (r_ HO563.out) hb); replace HO566 := mkA (Kd.S_below (s_ HO566.out) hb); replace HO569 := mkA (Kd.R_below (r_ HO569.out) hb); replace HO576 := mkA (Kd.R_below (r_ HO576.out) hb); have BK577 := mkA (hbox); have GW577 := gs_ hg (bs1_ HB.out GE555.out); have GE577 := GW577; replace HB := mkA (below_step (bs1_ HB.out GE555.out) hb); have NB555_577 := nl_ hg (bl_ BK555.out); have NB577_555 := nr_ hg (bl_ BK555.out); replace BK555 := mkA (blk_below (bl_ BK555.out) hb); clear hb hbox hg; have hnb45 := NB577_555.out; have hnc45 := NB555_577.out; obtain ⟨hcz46_0, hcz46_1, hcz46_2, hfz46_0, hfz46_1, hfz46_2⟩ := z3_ BK577.out; obtain ⟨Ao47, co47, eo47⟩ := Kd.R_slice HO576.out; subst eo47) | ((with_reducible refine gk_ 30 ?_); refine gl_ (some 43) Try.func30 #[.slice A1 l1.length c1] ?_; (with_reducible refine (laws_toPieceS.calls k _ _ l1 t578 _ ?side1 ?side2 A26.out).mono ?_); (case side1 => exact Kd.C_below HR1.out (bs2_ HB.out GE555.out GE577.out)); (case side2 => exact HC1.out); rintro e w48 ⟨v579, rfl, ho0, hb⟩; refine ⟨_, rfl, ?_⟩; replace HO563 := mkA (Kd.R_below (by refine r_ ?_; exact (Kd.R_mono (Kd.R_far (p := ⟨gb577, 2, none⟩) (Kd.R_far (p := ⟨gb577, 1, none⟩) (Kd.R_far (p := ⟨gb577, 0, none⟩) (Kd.R_types HO563.out BK577.out (by decide)) (fun _ hk => hk.2) (.int .i64 t572)) (fun _ hk => hk.2) (.int .i64 t573)) (fun _ hk => hk.2) (.slice Ao47 t574.length co47)) (fun _ h_ => h_.1))) hb); replace HO569 := mkA (Kd.R_below (by refine r_ ?_; exact (Kd.R_mono (Kd.R_far (p := ⟨gb577, 2, none⟩) (Kd.R_far (p := ⟨gb577, 1, none⟩) (Kd.R_far (p := ⟨gb577, 0, none⟩) (Kd.R_types HO569.out BK577.out (by decide)) (fun _ hk => hk.2) (.int .i64 t572)) (fun _ hk => hk.2) (.int .i64 t573)) (fun _ hk => hk.2) (.slice Ao47 t574.length co47)) (fun _ h_ => h_.1))) hb); replace HO576 := mkA (Kd.R_below (by refine r_ ?_; exact (Kd.R_mono (Kd.R_far (p := ⟨gb577, 2, none⟩) (Kd.R_far (p := ⟨gb577, 1, none⟩) (Kd.R_far (p := ⟨gb577, 0, none⟩) (Kd.R_types HO576.out BK577.out (by decide)) (fun _ hk => hk.2) (.int .i64 t572)) (fun _ hk => hk.2) (.int .i64 t573)) (fun _ hk => hk.2) (.slice Ao47 t574.length co47)) (fun _ h_ => h_.1))) hb); have HO580 := mkA (Kd.S_lower (Kd.S_new' ho0 (Kd.S_lt (by refine s_ ?_; exact (Kd.S_mono (Kd.S_far (p := ⟨gb577, 2, none⟩) (Kd.S_far (p := ⟨gb577, 1, none⟩) (Kd.S_far (p := ⟨gb577, 0, none⟩) (Kd.S_types HO566.out BK577.out (by decide)) (fun _ hk => hk.2) (.int .i64 t572)) (fun _ hk => hk.2) (.int .i64 t573)) (fun _ hk => hk.2) (.slice Ao47 t574.length co47)) (fun _ h_ => h_.1))))) (below_size (bs2_ HB.out GE555.out GE577.out))); replace HO566 := mkA (Kd.S_elder' (by refine s_ ?_; exact (Kd.S_mono (Kd.S_far (p := ⟨gb577, 2, none⟩) (Kd.S_far (p := ⟨gb577, 1, none⟩) (Kd.S_far (p := ⟨gb577, 0, none⟩) (Kd.S_types HO566.out BK577.out (by decide)) (fun _ hk => hk.2) (.int .i64 t572)) (fun _ hk => hk.2) (.int .i64 t573)) (fun _ hk => hk.2) (.slice Ao47 t574.length co47)) (fun _ h_ => h_.1))) (Kd.S_base ho0) hb); replace BK555 := mkA (blk_below (g := gb555) (o := .cells #[.int .i64 a0_0, .int .i64 a0_1, .slice A0_2 l0_2.length c0_2] 24 (0, 0)) (by refine bl_ ?_; refine blk_far ?_ NB555_577.out _; refine bl_ ?_; refine blk_far ?_ NB555_577.out _; refine bl_ ?_; refine blk_far ?_ NB555_577.out _; refine bl_ ?_; exact BK555.out) hb); replace BK577 := mkA (blk_below (g := gb577) (o := .cells #[.int .i64 t572, .int .i64 t573, .slice Ao47 t574.length co47] 27 (0, 0)) (by refine bl_ ?_; refine blk_put (cs := #[.int .i64 t572, .int .i64 t573, .slice none 0 0]) ?_ 2 _ rfl; refine bl_ ?_; refine blk_put (cs := #[.int .i64 t572, .int .i64 0, .slice none 0 0]) ?_ 1 _ rfl; refine bl_ ?_; refine blk_put (cs := #[.int .i64 0, .int .i64 0, .slice none 0 0]) ?_ 0 _ rfl; refine bl_ ?_; exact BK577.out) hb); replace HB := mkA (below_step (bs2_ HB.out GE555.out GE577.out) hb); (try clear hb); (try clear hb2); (try clear hk); (try clear hi); (try clear ho0)) | ((with_reducible refine gk_ 49 ?_); refine gl_ (some 45) Try.func49 #[.slice A2 l2.length c2] ?_; (with_reducible refine (laws_toLaidS.calls k _ _ l2 t581 _ ?side1 ?side2 A27.out).mono ?_); (case side1 => exact cb_ HR2.out HB.out); (case side2 => exact HC2.out); rintro e w49 ⟨v582, rfl, ho0, hb⟩; refine ⟨_, rfl, ?_⟩; replace HO563 := mkA (Kd.R_below (r_ HO563.out) hb); replace HO566 := mkA (Kd.S_below (s_ HO566.out) hb); replace HO576 := mkA (Kd.R_below (r_ HO576.out) hb); replace HO580 := mkA (Kd.S_below (s_ HO580.out) hb); have HO583 := mkA (Kd.R_lower (Kd.R_new' ho0 (Kd.R_lt (r_ HO569.out))) (below_size (bs2_ HB.out GE555.out GE577.out))); replace HO569 := mkA (Kd.R_elder' (r_ HO569.out) (Kd.R_base ho0) hb); replace BK555 := mkA (blk_below (bl_ BK555.out) hb); replace BK577 := mkA (blk_below (bl_ BK577.out) hb); replace HB := mkA (below_step (bs2_ HB.out GE555.out GE577.out) hb); (try clear hb); (try clear hb2); (try clear hk); (try clear hi); (try clear ho0); obtain ⟨hcz50_0, hcz50_1, hcz50_2, hfz50_0, hfz50_1, hfz50_2⟩ := z3_ BK577.out; obtain ⟨Ao51, co51, eo51⟩ := Kd.S_slice HO580.out; subst eo51; obtain ⟨Ao52, co52, eo52⟩ := Kd.R_slice HO583.out; subst eo52) | ((with_reducible refine gk_ 50 ?_); refine gl_ (some 50) Try.func50 #[.agg #[.int .i64 t572, .int .i64 t573, .slice Ao47 t574.length co47], .slice Ao51 t578.length co51, .slice Ao52 t581.length co52] ?_; (with_reducible refine (impl_FirstUncovered.calls k t572 t573 _ _ t574 _ _ t578 _ _ t581 t584 t585 _ ?side1 ?side2 ?side3 ?side4 ?side5 ?side6 A28.out).mono ?_); (case side1 => repeat (first | exact (Kd.R_reads' HO576.out).2.2 | (with_reducible refine Kd.C_alloc ?_ _) | (with_reducible refine Kd.C_drewN ?_ _) | (with_reducible refine Kd.C_drew ?_))); (case side2 => exact (Kd.R_reads' HO576.out).2.1); (case side3 => repeat (first | exact (Kd.S_reads' HO580.out).2.2 | (with_reducible refine Kd.C_alloc ?_ _) | (with_reducible refine Kd.C_drewN ?_ _) | (with_reducible refine Kd.C_drew ?_))); (case side4 => exact (Kd.S_reads' HO580.out).2.1); (case side5 => repeat (first | exact (Kd.R_reads' HO583.out).2.2 | (with_reducible refine Kd.C_alloc ?_ _) | (with_reducible refine Kd.C_drewN ?_ _) | (with_reducible refine Kd.C_drew ?_))); (case side6 => exact (Kd.R_reads' HO583.out).2.1); rintro e w53 ⟨rfl, hb⟩; refine ⟨_, rfl, ?_⟩; replace HO563 := mkA (Kd.R_below (r_ HO563.out) hb); replace HO566 := mkA (Kd.S_below (s_ HO566.out) hb); replace HO569 := mkA (Kd.R_below (r_ HO569.out) hb); replace HO576 := mkA (Kd.R_below (r_ HO576.out) hb); replace HO580 := mkA (Kd.S_below (s_ HO580.out) hb); replace HO583 := mkA (Kd.R_below (r_ HO583.out) hb); replace BK555 := mkA (blk_below (bl_ BK555.out) hb); replace BK577 := mkA (blk_below (bl_ BK577.out) hb); replace HB := mkA (below_step (bs2_ HB.out GE555.out GE577.out) hb); (try clear hb); (try clear hb2); (try clear hk); (try clear hi)))
       (try simp only [Act.put, sA, sB, sC])
       go_cut [60] (fun v60 wc => ∃ (kq : Nat) (x60_28 : Bool), v60 = .bool x60_28 ∧ Aside0 (laws_FnExactFirstUncovered.j0 kq l1 l2 t578 t581 x60_28 a0_0 a0_1 l0_2 t572 t573 t574 = some r) ∧ Aside0 (kq ≤ k) ∧ Aside0 (Kd.S k53 53 wc w.heap.size (fun _ => True) (.slice Ao51 t578.length co51) t578) ∧ Aside0 (Kd.R k109 109 wc w.heap.size (fun _ => True) (.slice Ao52 t581.length co52) t581) ∧ Aside0 (Kd.R (Kd.int .i64) 2 wc w.heap.size (fun _ => True) (.slice Ao47 t574.length co47) t574) ∧ Aside0 (wc.heap[gb555]? = some (.cells #[.int .i64 a0_0, .int .i64 a0_1, (.slice A0_2 l0_2.length c0_2)] 24 (0, 0))) ∧ Aside0 (wc.heap[gb577]? = some (.cells #[.int .i64 t572, .int .i64 t573, (.slice Ao47 t574.length co47)] 27 (0, 0))) ∧ Aside0 (Below w.heap.size w wc))
       case first =>
        have H := HC29.out
        clear HC29
        by_cases c54 : t584 = t570
        rotate_left
        · rw [if_neg c54] at H
          have c54b0 : (t584 == t570) = false := beq_eq_false_iff_ne.mpr c54
          have c54b1 : (t584 != t570) = true := bne_iff_ne.mpr c54
          (first | rw [c54b0] | (simp only [i64_w, i32_w]; rw [c54b0]) | skip)
          have H' := mkA H
          clear H
          go_wp2
          go_meet
          case rel => exact ⟨_, (true), rf_, H', ⟨by first | omega | exact Nat.le_refl _⟩, ⟨by refine s_ ?_; exact Kd.S_mono HO580.out (fun _ hk => trivial)⟩, ⟨by refine r_ ?_; exact Kd.R_mono HO583.out (fun _ hk => trivial)⟩, ⟨by refine r_ ?_; exact Kd.R_mono HO576.out (fun _ hk => trivial)⟩, ⟨bl_ BK555.out⟩, ⟨bl_ BK577.out⟩, ⟨bs2_ HB.out GE555.out GE577.out⟩⟩
        rw [if_pos c54] at H
        have c54b0 : (t584 == t570) = true := beq_iff_eq.mpr c54
        have c54b1 : (t584 != t570) = false := bne_eq_false_iff_eq.mpr c54
        clear c54
        (first | rw [c54b0] | (simp only [i64_w, i32_w]; rw [c54b0]) | skip)
        have H' := mkA H
        clear H
        go_wp2
        go_meet
        case rel => exact ⟨_, ((t585 != t571)), rf_, H', ⟨by first | omega | exact Nat.le_refl _⟩, ⟨by refine s_ ?_; exact Kd.S_mono HO580.out (fun _ hk => trivial)⟩, ⟨by refine r_ ?_; exact Kd.R_mono HO583.out (fun _ hk => trivial)⟩, ⟨by refine r_ ?_; exact Kd.R_mono HO576.out (fun _ hk => trivial)⟩, ⟨bl_ BK555.out⟩, ⟨bl_ BK577.out⟩, ⟨bs2_ HB.out GE555.out GE577.out⟩⟩
       case rest =>
        clear HC29
        try clear c1 c2 c5 c5b0 c10 c10b0 c16 c16b0 c54 c54b0 c54b1
        try clear hcz12_0 hcz12_1 hcz12_2 hcz18_0 hcz18_1 hcz18_2 hcz31_0 hcz31_1 hcz31_2 hcz34_0 hcz34_1 hcz34_2 hcz42_0 hcz42_1 hcz42_2 hcz46_0 hcz46_1 hcz46_2 hcz50_0 hcz50_1 hcz50_2 hcz7_0 hcz7_1 hcz7_2
        try clear hfz12_0 hfz12_1 hfz12_2 hfz18_0 hfz18_1 hfz18_2 hfz31_0 hfz31_1 hfz31_2 hfz34_0 hfz34_1 hfz34_2 hfz42_0 hfz42_1 hfz42_2 hfz46_0 hfz46_1 hfz46_2 hfz50_0 hfz50_1 hfz50_2 hfz7_0 hfz7_1 hfz7_2
        obtain ⟨kq, x60_28, rfl, HA, HJ28, HO_11, HO_12, HO_578002, BK555, BK577, HB⟩ := hcut
        cases kq with
        | zero => exact absurd HA.out (by simp [laws_FnExactFirstUncovered.j0])
        | succ kj28 =>
         have H := HA.out
         clear HA
         simp only [laws_FnExactFirstUncovered.j0] at H
         by_cases c55 : x60_28 = true
         · subst c55
           rw [if_pos rfl] at H
           obtain rfl := Option.some.inj H
           go_wp2
           go_ret
           exact ⟨re_, bs2_ HB.out GE555.out GE577.out⟩
         · replace c55 := Bool.eq_false_iff.mpr c55
           subst c55
           rw [if_neg Bool.false_ne_true] at H
           revert H
           refine ob_ fun t_ A56 => ?_
           intro H
           obtain ⟨t586, t587, t588⟩ := t_
           try dsimp only at H
           revert H
           refine ob_ fun t591 A57 => ?_
           intro H
           by_cases c58 : t591 = true
           rotate_left
           · replace c58 := Bool.eq_false_iff.mpr c58
             subst c58
             rw [if_neg Bool.false_ne_true] at H
             obtain rfl := Option.some.inj H
             try go_wp2
             replace HO_11 := mkA (Kd.S_drew HO_11.out)
             replace HO_12 := mkA (Kd.R_drew HO_12.out)
             replace HO_578002 := mkA (Kd.R_drew HO_578002.out)
             replace BK555 := mkA (blk_drew BK555.out)
             replace BK577 := mkA (blk_drew BK577.out)
             replace HB := mkA (below_drew1 HB.out)
             refine start_ (n := 5) (S := fun w' => w'.cell? ⟨gb577, 0, none⟩ = some (.int .i64 t572) ∧ w'.cell? ⟨gb577, 1, none⟩ = some (.int .i64 t573) ∧ w'.cell? ⟨gb577, 2, none⟩ = some (.slice Ao47 t574.length co47) ∧ w'.cell? ⟨gb555, 0, none⟩ = some (.int .i64 a0_0) ∧ w'.cell? ⟨gb555, 1, none⟩ = some (.int .i64 a0_1) ∧ w'.cell? ⟨gb555, 2, none⟩ = some (.slice A0_2 l0_2.length c0_2)) (ds := []) (fA 5 0) (by kernel_rfl) rfl rfl ⟨(blk_cell BK577.out 0).trans rfl, (blk_cell BK577.out 1).trans rfl, (blk_cell BK577.out 2).trans rfl, (blk_cell BK555.out 0).trans rfl, (blk_cell BK555.out 1).trans rfl, (blk_cell BK555.out 2).trans rfl⟩ (fun hHeld => ?_)
             generalize wc.drew = w92 at HO_11 HO_12 HO_578002 BK555 BK577 HB hHeld ⊢
             refine take_ (i := 0) (N := some 61) (v := ?_) (a' := ?_) (fA 5 1) rfl rfl (by kernel_rfl) (fun _ _ _ h => h) (Or.inl ⟨by rfl, ?_⟩) hHeld ?_ ?_
             rotate_left
             · rintro w' ⟨s0, s1, s2, s3, s4, s5⟩
               (try simp only [C_] at s0 s1 s2 s3 s4 s5)
               go_simp
               with_reducible rfl
             rotate_left
             · simp only [Act.put, sA, sB, sC, i64_w, i32_w]
               rfl
             refine take_ (i := 1) (N := some 62) (v := ?_) (a' := ?_) (fA 5 3) rfl rfl (by kernel_rfl) (fun _ _ _ h => h) (Or.inl ⟨by rfl, ?_⟩) hHeld ?_ ?_
             rotate_left
             · rintro w' ⟨s0, s1, s2, s3, s4, s5⟩
               (try simp only [C_] at s0 s1 s2 s3 s4 s5)
               go_simp
               with_reducible rfl
             rotate_left
             · simp only [Act.put, sA, sB, sC, i64_w, i32_w]
               rfl
             refine one_ (i := 2) (N := some 63) (fA 5 7) rfl rfl (by kernel_rfl) (by decide) (fun K hK => ?_)
             refine go_ Try.func15 #[.agg #[.int .i64 a0_0, .int .i64 a0_1, .slice A0_2 l0_2.length c0_2]] ?_
             with_reducible refine (laws_toShape.calls kj28 a0_0 a0_1 _ _ l0_2 t586 t587 t588 _ ?side1 ?side2 A56.out).mono ?_
             (case side1 => exact cb_ HR0_2.out HB.out)
             (case side2 => exact HC0_2.out)
             rintro e w93 ⟨v589, rfl, ho0, hb⟩
             refine ⟨_, rfl, ?_⟩
             replace HO_11 := mkA (Kd.S_below (s_ HO_11.out) hb)
             replace HO_12 := mkA (Kd.R_below (r_ HO_12.out) hb)
             have HO590 := mkA (Kd.R_lower (Kd.R_new' ho0 (Kd.R_lt (r_ HO_578002.out))) (below_size (bs2_ HB.out GE555.out GE577.out)))
             replace HO_578002 := mkA (Kd.R_elder' (r_ HO_578002.out) (Kd.R_base ho0) hb)
             replace BK555 := mkA (blk_below (bl_ BK555.out) hb)
             replace BK577 := mkA (blk_below (bl_ BK577.out) hb)
             replace HB := mkA (below_step (bs2_ HB.out GE555.out GE577.out) hb)
             (try clear hb)
             (try clear hb2)
             (try clear hk)
             (try clear hi)
             (try clear ho0)
             obtain ⟨Ao94, co94, eo94⟩ := Kd.R_slice HO590.out
             (first | subst eo94 | (injection eo94 with f1_ f2_ f3_; have f4_ := f1_.symm; have f5_ := f3_.symm; clear f1_ f2_ f3_; subst f4_; subst f5_))
             refine hK.out _ _ sp_ fun hHeld => ?_
             clear hK K
             refine nm_ 63 ?_
             refine one_ (i := 3) (N := some 64) (fA 5 15) rfl rfl (by kernel_rfl) (by decide) (fun K hK => ?_)
             refine go_ Try.func17 #[.agg #[.int .i64 t572, .int .i64 t573, .slice Ao47 t574.length co47], .agg #[.int .i64 t586, .int .i64 t587, .slice Ao94 t588.length co94]] ?_
             with_reducible refine (laws_eqShape.calls kj28 t572 t573 _ _ t574 t586 t587 _ _ t588 false _ ?side1 ?side2 ?side3 ?side4 A57.out).mono ?_
             (case side1 => repeat (first | exact (Kd.R_reads' HO_578002.out).2.2 | (with_reducible refine Kd.C_alloc ?_ _) | (with_reducible refine Kd.C_drewN ?_ _) | (with_reducible refine Kd.C_drew ?_)))
             (case side2 => exact (Kd.R_reads' HO_578002.out).2.1)
             (case side3 => repeat (first | exact (Kd.R_reads' HO590.out).2.2 | (with_reducible refine Kd.C_alloc ?_ _) | (with_reducible refine Kd.C_drewN ?_ _) | (with_reducible refine Kd.C_drew ?_)))
             (case side4 => exact (Kd.R_reads' HO590.out).2.1)
             rintro e w95 ⟨rfl, hb⟩
             refine ⟨_, rfl, ?_⟩
             replace HO_11 := mkA (Kd.S_below (s_ HO_11.out) hb)
             replace HO_12 := mkA (Kd.R_below (r_ HO_12.out) hb)
             replace HO_578002 := mkA (Kd.R_below (r_ HO_578002.out) hb)
             replace HO590 := mkA (Kd.R_below (r_ HO590.out) hb)
             replace BK555 := mkA (blk_below (bl_ BK555.out) hb)
             replace BK577 := mkA (blk_below (bl_ BK577.out) hb)
             replace HB := mkA (below_step (bs2_ HB.out GE555.out GE577.out) hb)
             (try clear hb)
             (try clear hb2)
             (try clear hk)
             (try clear hi)
             refine hK.out _ _ sp_ fun hHeld => ?_
             clear hK K
             refine nm_ 64 ?_
             refine pure_ (i := 4) (N := some 65) (v := ?_) (a' := ?_) (fA 5 31) rfl rfl (by kernel_rfl) (fun _ _ _ h => h) (Or.inl ⟨by rfl, ?_⟩) ?_ ?_
             rotate_left
             · intro w'
               go_simp
               with_reducible rfl
             rotate_left
             · simp only [Act.put, sA, sB, sC, i64_w, i32_w]
               rfl
             refine done_ (by kernel_rfl) ?_
             try go_wp2
             go_ret
             exact ⟨re_, bs2_ HB.out GE555.out GE577.out⟩
           subst c58
           rw [if_pos rfl] at H
           revert H
           refine ob_ fun t592 A59 => ob_ fun t595 A60 => ?_
           intro H
           by_cases c61 : t595 = true
           rotate_left
           · replace c61 := Bool.eq_false_iff.mpr c61
             subst c61
             rw [if_neg Bool.false_ne_true] at H
             obtain rfl := Option.some.inj H
             try go_wp2
             replace HO_11 := mkA (Kd.S_drew HO_11.out)
             replace HO_12 := mkA (Kd.R_drew HO_12.out)
             replace HO_578002 := mkA (Kd.R_drew HO_578002.out)
             replace BK555 := mkA (blk_drew BK555.out)
             replace BK577 := mkA (blk_drew BK577.out)
             replace HB := mkA (below_drew1 HB.out)
             refine start_ (n := 5) (S := fun w' => w'.cell? ⟨gb577, 0, none⟩ = some (.int .i64 t572) ∧ w'.cell? ⟨gb577, 1, none⟩ = some (.int .i64 t573) ∧ w'.cell? ⟨gb577, 2, none⟩ = some (.slice Ao47 t574.length co47) ∧ w'.cell? ⟨gb555, 0, none⟩ = some (.int .i64 a0_0) ∧ w'.cell? ⟨gb555, 1, none⟩ = some (.int .i64 a0_1) ∧ w'.cell? ⟨gb555, 2, none⟩ = some (.slice A0_2 l0_2.length c0_2)) (ds := []) (fA 5 0) (by kernel_rfl) rfl rfl ⟨(blk_cell BK577.out 0).trans rfl, (blk_cell BK577.out 1).trans rfl, (blk_cell BK577.out 2).trans rfl, (blk_cell BK555.out 0).trans rfl, (blk_cell BK555.out 1).trans rfl, (blk_cell BK555.out 2).trans rfl⟩ (fun hHeld => ?_)
             generalize wc.drew = w85 at HO_11 HO_12 HO_578002 BK555 BK577 HB hHeld ⊢
             refine take_ (i := 0) (N := some 61) (v := ?_) (a' := ?_) (fA 5 1) rfl rfl (by kernel_rfl) (fun _ _ _ h => h) (Or.inl ⟨by rfl, ?_⟩) hHeld ?_ ?_
             rotate_left
             · rintro w' ⟨s0, s1, s2, s3, s4, s5⟩
               (try simp only [C_] at s0 s1 s2 s3 s4 s5)
               go_simp
               with_reducible rfl
             rotate_left
             · simp only [Act.put, sA, sB, sC, i64_w, i32_w]
               rfl
             refine take_ (i := 1) (N := some 62) (v := ?_) (a' := ?_) (fA 5 3) rfl rfl (by kernel_rfl) (fun _ _ _ h => h) (Or.inl ⟨by rfl, ?_⟩) hHeld ?_ ?_
             rotate_left
             · rintro w' ⟨s0, s1, s2, s3, s4, s5⟩
               (try simp only [C_] at s0 s1 s2 s3 s4 s5)
               go_simp
               with_reducible rfl
             rotate_left
             · simp only [Act.put, sA, sB, sC, i64_w, i32_w]
               rfl
             refine one_ (i := 2) (N := some 63) (fA 5 7) rfl rfl (by kernel_rfl) (by decide) (fun K hK => ?_)
             refine go_ Try.func15 #[.agg #[.int .i64 a0_0, .int .i64 a0_1, .slice A0_2 l0_2.length c0_2]] ?_
             with_reducible refine (laws_toShape.calls kj28 a0_0 a0_1 _ _ l0_2 t586 t587 t588 _ ?side1 ?side2 A56.out).mono ?_
             (case side1 => exact cb_ HR0_2.out HB.out)
             (case side2 => exact HC0_2.out)
             rintro e w86 ⟨v589, rfl, ho0, hb⟩
             refine ⟨_, rfl, ?_⟩
             replace HO_11 := mkA (Kd.S_below (s_ HO_11.out) hb)
             replace HO_12 := mkA (Kd.R_below (r_ HO_12.out) hb)
             have HO590 := mkA (Kd.R_lower (Kd.R_new' ho0 (Kd.R_lt (r_ HO_578002.out))) (below_size (bs2_ HB.out GE555.out GE577.out)))
             replace HO_578002 := mkA (Kd.R_elder' (r_ HO_578002.out) (Kd.R_base ho0) hb)
             replace BK555 := mkA (blk_below (bl_ BK555.out) hb)
             replace BK577 := mkA (blk_below (bl_ BK577.out) hb)
             replace HB := mkA (below_step (bs2_ HB.out GE555.out GE577.out) hb)
             (try clear hb)
             (try clear hb2)
             (try clear hk)
             (try clear hi)
             (try clear ho0)
             obtain ⟨Ao87, co87, eo87⟩ := Kd.R_slice HO590.out
             (first | subst eo87 | (injection eo87 with f1_ f2_ f3_; have f4_ := f1_.symm; have f5_ := f3_.symm; clear f1_ f2_ f3_; subst f4_; subst f5_))
             refine hK.out _ _ sp_ fun hHeld => ?_
             clear hK K
             refine nm_ 63 ?_
             refine one_ (i := 3) (N := some 64) (fA 5 15) rfl rfl (by kernel_rfl) (by decide) (fun K hK => ?_)
             refine go_ Try.func17 #[.agg #[.int .i64 t572, .int .i64 t573, .slice Ao47 t574.length co47], .agg #[.int .i64 t586, .int .i64 t587, .slice Ao87 t588.length co87]] ?_
             with_reducible refine (laws_eqShape.calls kj28 t572 t573 _ _ t574 t586 t587 _ _ t588 true _ ?side1 ?side2 ?side3 ?side4 A57.out).mono ?_
             (case side1 => repeat (first | exact (Kd.R_reads' HO_578002.out).2.2 | (with_reducible refine Kd.C_alloc ?_ _) | (with_reducible refine Kd.C_drewN ?_ _) | (with_reducible refine Kd.C_drew ?_)))
             (case side2 => exact (Kd.R_reads' HO_578002.out).2.1)
             (case side3 => repeat (first | exact (Kd.R_reads' HO590.out).2.2 | (with_reducible refine Kd.C_alloc ?_ _) | (with_reducible refine Kd.C_drewN ?_ _) | (with_reducible refine Kd.C_drew ?_)))
             (case side4 => exact (Kd.R_reads' HO590.out).2.1)
             rintro e w88 ⟨rfl, hb⟩
             refine ⟨_, rfl, ?_⟩
             replace HO_11 := mkA (Kd.S_below (s_ HO_11.out) hb)
             replace HO_12 := mkA (Kd.R_below (r_ HO_12.out) hb)
             replace HO_578002 := mkA (Kd.R_below (r_ HO_578002.out) hb)
             replace HO590 := mkA (Kd.R_below (r_ HO590.out) hb)
             replace BK555 := mkA (blk_below (bl_ BK555.out) hb)
             replace BK577 := mkA (blk_below (bl_ BK577.out) hb)
             replace HB := mkA (below_step (bs2_ HB.out GE555.out GE577.out) hb)
             (try clear hb)
             (try clear hb2)
             (try clear hk)
             (try clear hi)
             refine hK.out _ _ sp_ fun hHeld => ?_
             clear hK K
             refine nm_ 64 ?_
             refine pure_ (i := 4) (N := some 65) (v := ?_) (a' := ?_) (fA 5 31) rfl rfl (by kernel_rfl) (fun _ _ _ h => h) (Or.inl ⟨by rfl, ?_⟩) ?_ ?_
             rotate_left
             · intro w'
               go_simp
               with_reducible rfl
             rotate_left
             · simp only [Act.put, sA, sB, sC, i64_w, i32_w]
               rfl
             refine done_ (by kernel_rfl) ?_
             try go_wp2_with (first | ((with_reducible refine gk_ 30 ?_); refine gl_ (some 68) Try.func30 #[.slice A1 l1.length c1] ?_; (with_reducible refine (laws_toPieceS.calls kj28 _ _ l1 t592 _ ?side1 ?side2 A59.out).mono ?_); (case side1 => exact cb_ HR1.out HB.out); (case side2 => exact HC1.out); rintro e w89 ⟨v593, rfl, ho0, hb⟩; refine ⟨_, rfl, ?_⟩; replace HO_12 := mkA (Kd.R_below (r_ HO_12.out) hb); replace HO_578002 := mkA (Kd.R_below (r_ HO_578002.out) hb); replace HO590 := mkA (Kd.R_below (r_ HO590.out) hb); have HO594 := mkA (Kd.S_lower (Kd.S_new' ho0 (Kd.S_lt (s_ HO_11.out))) (below_size (bs2_ HB.out GE555.out GE577.out))); replace HO_11 := mkA (Kd.S_elder' (s_ HO_11.out) (Kd.S_base ho0) hb); replace BK555 := mkA (blk_below (bl_ BK555.out) hb); replace BK577 := mkA (blk_below (bl_ BK577.out) hb); replace HB := mkA (below_step (bs2_ HB.out GE555.out GE577.out) hb); (try clear hb); (try clear hb2); (try clear hk); (try clear hi); (try clear ho0); obtain ⟨Ao90, co90, eo90⟩ := Kd.S_slice HO594.out; subst eo90) | ((with_reducible refine gk_ 32 ?_); refine gl_ (some 69) Try.func32 #[.slice Ao51 t578.length co51, .slice Ao90 t592.length co90] ?_; (with_reducible refine (laws_eqPieceS.calls kj28 _ _ t578 _ _ t592 false _ ?side1 ?side2 ?side3 ?side4 A60.out).mono ?_); (case side1 => repeat (first | exact (Kd.S_reads' HO_11.out).2.2 | (with_reducible refine Kd.C_alloc ?_ _) | (with_reducible refine Kd.C_drewN ?_ _) | (with_reducible refine Kd.C_drew ?_))); (case side2 => exact (Kd.S_reads' HO_11.out).2.1); (case side3 => repeat (first | exact (Kd.S_reads' HO594.out).2.2 | (with_reducible refine Kd.C_alloc ?_ _) | (with_reducible refine Kd.C_drewN ?_ _) | (with_reducible refine Kd.C_drew ?_))); (case side4 => exact (Kd.S_reads' HO594.out).2.1); rintro e w91 ⟨rfl, hb⟩; refine ⟨_, rfl, ?_⟩; replace HO_11 := mkA (Kd.S_below (s_ HO_11.out) hb); replace HO_12 := mkA (Kd.R_below (r_ HO_12.out) hb); replace HO_578002 := mkA (Kd.R_below (r_ HO_578002.out) hb); replace HO590 := mkA (Kd.R_below (r_ HO590.out) hb); replace HO594 := mkA (Kd.S_below (s_ HO594.out) hb); replace BK555 := mkA (blk_below (bl_ BK555.out) hb); replace BK577 := mkA (blk_below (bl_ BK577.out) hb); replace HB := mkA (below_step (bs2_ HB.out GE555.out GE577.out) hb); (try clear hb); (try clear hb2); (try clear hk); (try clear hi)))
             go_ret
             exact ⟨re_, bs2_ HB.out GE555.out GE577.out⟩
           subst c61
           rw [if_pos rfl] at H
           revert H
           refine ob_ fun t596 A62 => ob_ fun t599 A63 => ?_
           intro H
           by_cases c64 : t599 = true
           · subst c64
             rw [if_pos rfl] at H
             obtain rfl := Option.some.inj H
             try go_wp2
             replace HO_11 := mkA (Kd.S_drew HO_11.out)
             replace HO_12 := mkA (Kd.R_drew HO_12.out)
             replace HO_578002 := mkA (Kd.R_drew HO_578002.out)
             replace BK555 := mkA (blk_drew BK555.out)
             replace BK577 := mkA (blk_drew BK577.out)
             replace HB := mkA (below_drew1 HB.out)
             refine start_ (n := 5) (S := fun w' => w'.cell? ⟨gb577, 0, none⟩ = some (.int .i64 t572) ∧ w'.cell? ⟨gb577, 1, none⟩ = some (.int .i64 t573) ∧ w'.cell? ⟨gb577, 2, none⟩ = some (.slice Ao47 t574.length co47) ∧ w'.cell? ⟨gb555, 0, none⟩ = some (.int .i64 a0_0) ∧ w'.cell? ⟨gb555, 1, none⟩ = some (.int .i64 a0_1) ∧ w'.cell? ⟨gb555, 2, none⟩ = some (.slice A0_2 l0_2.length c0_2)) (ds := []) (fA 5 0) (by kernel_rfl) rfl rfl ⟨(blk_cell BK577.out 0).trans rfl, (blk_cell BK577.out 1).trans rfl, (blk_cell BK577.out 2).trans rfl, (blk_cell BK555.out 0).trans rfl, (blk_cell BK555.out 1).trans rfl, (blk_cell BK555.out 2).trans rfl⟩ (fun hHeld => ?_)
             generalize wc.drew = w65 at HO_11 HO_12 HO_578002 BK555 BK577 HB hHeld ⊢
             refine take_ (i := 0) (N := some 61) (v := ?_) (a' := ?_) (fA 5 1) rfl rfl (by kernel_rfl) (fun _ _ _ h => h) (Or.inl ⟨by rfl, ?_⟩) hHeld ?_ ?_
             rotate_left
             · rintro w' ⟨s0, s1, s2, s3, s4, s5⟩
               (try simp only [C_] at s0 s1 s2 s3 s4 s5)
               go_simp
               with_reducible rfl
             rotate_left
             · simp only [Act.put, sA, sB, sC, i64_w, i32_w]
               rfl
             refine take_ (i := 1) (N := some 62) (v := ?_) (a' := ?_) (fA 5 3) rfl rfl (by kernel_rfl) (fun _ _ _ h => h) (Or.inl ⟨by rfl, ?_⟩) hHeld ?_ ?_
             rotate_left
             · rintro w' ⟨s0, s1, s2, s3, s4, s5⟩
               (try simp only [C_] at s0 s1 s2 s3 s4 s5)
               go_simp
               with_reducible rfl
             rotate_left
             · simp only [Act.put, sA, sB, sC, i64_w, i32_w]
               rfl
             refine one_ (i := 2) (N := some 63) (fA 5 7) rfl rfl (by kernel_rfl) (by decide) (fun K hK => ?_)
             refine go_ Try.func15 #[.agg #[.int .i64 a0_0, .int .i64 a0_1, .slice A0_2 l0_2.length c0_2]] ?_
             with_reducible refine (laws_toShape.calls kj28 a0_0 a0_1 _ _ l0_2 t586 t587 t588 _ ?side1 ?side2 A56.out).mono ?_
             (case side1 => exact cb_ HR0_2.out HB.out)
             (case side2 => exact HC0_2.out)
             rintro e w66 ⟨v589, rfl, ho0, hb⟩
             refine ⟨_, rfl, ?_⟩
             replace HO_11 := mkA (Kd.S_below (s_ HO_11.out) hb)
             replace HO_12 := mkA (Kd.R_below (r_ HO_12.out) hb)
             have HO590 := mkA (Kd.R_lower (Kd.R_new' ho0 (Kd.R_lt (r_ HO_578002.out))) (below_size (bs2_ HB.out GE555.out GE577.out)))
             replace HO_578002 := mkA (Kd.R_elder' (r_ HO_578002.out) (Kd.R_base ho0) hb)
             replace BK555 := mkA (blk_below (bl_ BK555.out) hb)
             replace BK577 := mkA (blk_below (bl_ BK577.out) hb)
             replace HB := mkA (below_step (bs2_ HB.out GE555.out GE577.out) hb)
             (try clear hb)
             (try clear hb2)
             (try clear hk)
             (try clear hi)
             (try clear ho0)
             obtain ⟨Ao67, co67, eo67⟩ := Kd.R_slice HO590.out
             (first | subst eo67 | (injection eo67 with f1_ f2_ f3_; have f4_ := f1_.symm; have f5_ := f3_.symm; clear f1_ f2_ f3_; subst f4_; subst f5_))
             refine hK.out _ _ sp_ fun hHeld => ?_
             clear hK K
             refine nm_ 63 ?_
             refine one_ (i := 3) (N := some 64) (fA 5 15) rfl rfl (by kernel_rfl) (by decide) (fun K hK => ?_)
             refine go_ Try.func17 #[.agg #[.int .i64 t572, .int .i64 t573, .slice Ao47 t574.length co47], .agg #[.int .i64 t586, .int .i64 t587, .slice Ao67 t588.length co67]] ?_
             with_reducible refine (laws_eqShape.calls kj28 t572 t573 _ _ t574 t586 t587 _ _ t588 true _ ?side1 ?side2 ?side3 ?side4 A57.out).mono ?_
             (case side1 => repeat (first | exact (Kd.R_reads' HO_578002.out).2.2 | (with_reducible refine Kd.C_alloc ?_ _) | (with_reducible refine Kd.C_drewN ?_ _) | (with_reducible refine Kd.C_drew ?_)))
             (case side2 => exact (Kd.R_reads' HO_578002.out).2.1)
             (case side3 => repeat (first | exact (Kd.R_reads' HO590.out).2.2 | (with_reducible refine Kd.C_alloc ?_ _) | (with_reducible refine Kd.C_drewN ?_ _) | (with_reducible refine Kd.C_drew ?_)))
             (case side4 => exact (Kd.R_reads' HO590.out).2.1)
             rintro e w68 ⟨rfl, hb⟩
             refine ⟨_, rfl, ?_⟩
             replace HO_11 := mkA (Kd.S_below (s_ HO_11.out) hb)
             replace HO_12 := mkA (Kd.R_below (r_ HO_12.out) hb)
             replace HO_578002 := mkA (Kd.R_below (r_ HO_578002.out) hb)
             replace HO590 := mkA (Kd.R_below (r_ HO590.out) hb)
             replace BK555 := mkA (blk_below (bl_ BK555.out) hb)
             replace BK577 := mkA (blk_below (bl_ BK577.out) hb)
             replace HB := mkA (below_step (bs2_ HB.out GE555.out GE577.out) hb)
             (try clear hb)
             (try clear hb2)
             (try clear hk)
             (try clear hi)
             refine hK.out _ _ sp_ fun hHeld => ?_
             clear hK K
             refine nm_ 64 ?_
             refine pure_ (i := 4) (N := some 65) (v := ?_) (a' := ?_) (fA 5 31) rfl rfl (by kernel_rfl) (fun _ _ _ h => h) (Or.inl ⟨by rfl, ?_⟩) ?_ ?_
             rotate_left
             · intro w'
               go_simp
               with_reducible rfl
             rotate_left
             · simp only [Act.put, sA, sB, sC, i64_w, i32_w]
               rfl
             refine done_ (by kernel_rfl) ?_
             try go_wp2_with (first | ((with_reducible refine gk_ 30 ?_); refine gl_ (some 68) Try.func30 #[.slice A1 l1.length c1] ?_; (with_reducible refine (laws_toPieceS.calls kj28 _ _ l1 t592 _ ?side1 ?side2 A59.out).mono ?_); (case side1 => exact cb_ HR1.out HB.out); (case side2 => exact HC1.out); rintro e w69 ⟨v593, rfl, ho0, hb⟩; refine ⟨_, rfl, ?_⟩; replace HO_12 := mkA (Kd.R_below (r_ HO_12.out) hb); replace HO_578002 := mkA (Kd.R_below (r_ HO_578002.out) hb); replace HO590 := mkA (Kd.R_below (r_ HO590.out) hb); have HO594 := mkA (Kd.S_lower (Kd.S_new' ho0 (Kd.S_lt (s_ HO_11.out))) (below_size (bs2_ HB.out GE555.out GE577.out))); replace HO_11 := mkA (Kd.S_elder' (s_ HO_11.out) (Kd.S_base ho0) hb); replace BK555 := mkA (blk_below (bl_ BK555.out) hb); replace BK577 := mkA (blk_below (bl_ BK577.out) hb); replace HB := mkA (below_step (bs2_ HB.out GE555.out GE577.out) hb); (try clear hb); (try clear hb2); (try clear hk); (try clear hi); (try clear ho0); obtain ⟨Ao70, co70, eo70⟩ := Kd.S_slice HO594.out; subst eo70) | ((with_reducible refine gk_ 32 ?_); refine gl_ (some 69) Try.func32 #[.slice Ao51 t578.length co51, .slice Ao70 t592.length co70] ?_; (with_reducible refine (laws_eqPieceS.calls kj28 _ _ t578 _ _ t592 true _ ?side1 ?side2 ?side3 ?side4 A60.out).mono ?_); (case side1 => repeat (first | exact (Kd.S_reads' HO_11.out).2.2 | (with_reducible refine Kd.C_alloc ?_ _) | (with_reducible refine Kd.C_drewN ?_ _) | (with_reducible refine Kd.C_drew ?_))); (case side2 => exact (Kd.S_reads' HO_11.out).2.1); (case side3 => repeat (first | exact (Kd.S_reads' HO594.out).2.2 | (with_reducible refine Kd.C_alloc ?_ _) | (with_reducible refine Kd.C_drewN ?_ _) | (with_reducible refine Kd.C_drew ?_))); (case side4 => exact (Kd.S_reads' HO594.out).2.1); rintro e w71 ⟨rfl, hb⟩; refine ⟨_, rfl, ?_⟩; replace HO_11 := mkA (Kd.S_below (s_ HO_11.out) hb); replace HO_12 := mkA (Kd.R_below (r_ HO_12.out) hb); replace HO_578002 := mkA (Kd.R_below (r_ HO_578002.out) hb); replace HO590 := mkA (Kd.R_below (r_ HO590.out) hb); replace HO594 := mkA (Kd.S_below (s_ HO594.out) hb); replace BK555 := mkA (blk_below (bl_ BK555.out) hb); replace BK577 := mkA (blk_below (bl_ BK577.out) hb); replace HB := mkA (below_step (bs2_ HB.out GE555.out GE577.out) hb); (try clear hb); (try clear hb2); (try clear hk); (try clear hi)) | ((with_reducible refine gk_ 49 ?_); refine gl_ (some 73) Try.func49 #[.slice A2 l2.length c2] ?_; (with_reducible refine (laws_toLaidS.calls kj28 _ _ l2 t596 _ ?side1 ?side2 A62.out).mono ?_); (case side1 => exact cb_ HR2.out HB.out); (case side2 => exact HC2.out); rintro e w72 ⟨v597, rfl, ho0, hb⟩; refine ⟨_, rfl, ?_⟩; replace HO_11 := mkA (Kd.S_below (s_ HO_11.out) hb); replace HO_578002 := mkA (Kd.R_below (r_ HO_578002.out) hb); replace HO590 := mkA (Kd.R_below (r_ HO590.out) hb); replace HO594 := mkA (Kd.S_below (s_ HO594.out) hb); have HO598 := mkA (Kd.R_lower (Kd.R_new' ho0 (Kd.R_lt (r_ HO_12.out))) (below_size (bs2_ HB.out GE555.out GE577.out))); replace HO_12 := mkA (Kd.R_elder' (r_ HO_12.out) (Kd.R_base ho0) hb); replace BK555 := mkA (blk_below (bl_ BK555.out) hb); replace BK577 := mkA (blk_below (bl_ BK577.out) hb); replace HB := mkA (below_step (bs2_ HB.out GE555.out GE577.out) hb); (try clear hb); (try clear hb2); (try clear hk); (try clear hi); (try clear ho0); obtain ⟨Ao73, co73, eo73⟩ := Kd.R_slice HO598.out; subst eo73) | ((with_reducible refine gk_ 51 ?_); refine gl_ (some 74) Try.func51 #[.slice Ao52 t581.length co52, .slice Ao73 t596.length co73] ?_; (with_reducible refine (laws_eqLaidS.calls kj28 _ _ t581 _ _ t596 true _ ?side1 ?side2 ?side3 ?side4 A63.out).mono ?_); (case side1 => repeat (first | exact (Kd.R_reads' HO_12.out).2.2 | (with_reducible refine Kd.C_alloc ?_ _) | (with_reducible refine Kd.C_drewN ?_ _) | (with_reducible refine Kd.C_drew ?_))); (case side2 => exact (Kd.R_reads' HO_12.out).2.1); (case side3 => repeat (first | exact (Kd.R_reads' HO598.out).2.2 | (with_reducible refine Kd.C_alloc ?_ _) | (with_reducible refine Kd.C_drewN ?_ _) | (with_reducible refine Kd.C_drew ?_))); (case side4 => exact (Kd.R_reads' HO598.out).2.1); rintro e w74 ⟨rfl, hb⟩; refine ⟨_, rfl, ?_⟩; replace HO_11 := mkA (Kd.S_below (s_ HO_11.out) hb); replace HO_12 := mkA (Kd.R_below (r_ HO_12.out) hb); replace HO_578002 := mkA (Kd.R_below (r_ HO_578002.out) hb); replace HO590 := mkA (Kd.R_below (r_ HO590.out) hb); replace HO594 := mkA (Kd.S_below (s_ HO594.out) hb); replace HO598 := mkA (Kd.R_below (r_ HO598.out) hb); replace BK555 := mkA (blk_below (bl_ BK555.out) hb); replace BK577 := mkA (blk_below (bl_ BK577.out) hb); replace HB := mkA (below_step (bs2_ HB.out GE555.out GE577.out) hb); (try clear hb); (try clear hb2); (try clear hk); (try clear hi)))
             go_ret
             exact ⟨re_, bs2_ HB.out GE555.out GE577.out⟩
           · replace c64 := Bool.eq_false_iff.mpr c64
             subst c64
             rw [if_neg Bool.false_ne_true] at H
             obtain rfl := Option.some.inj H
             try go_wp2
             replace HO_11 := mkA (Kd.S_drew HO_11.out)
             replace HO_12 := mkA (Kd.R_drew HO_12.out)
             replace HO_578002 := mkA (Kd.R_drew HO_578002.out)
             replace BK555 := mkA (blk_drew BK555.out)
             replace BK577 := mkA (blk_drew BK577.out)
             replace HB := mkA (below_drew1 HB.out)
             refine start_ (n := 5) (S := fun w' => w'.cell? ⟨gb577, 0, none⟩ = some (.int .i64 t572) ∧ w'.cell? ⟨gb577, 1, none⟩ = some (.int .i64 t573) ∧ w'.cell? ⟨gb577, 2, none⟩ = some (.slice Ao47 t574.length co47) ∧ w'.cell? ⟨gb555, 0, none⟩ = some (.int .i64 a0_0) ∧ w'.cell? ⟨gb555, 1, none⟩ = some (.int .i64 a0_1) ∧ w'.cell? ⟨gb555, 2, none⟩ = some (.slice A0_2 l0_2.length c0_2)) (ds := []) (fA 5 0) (by kernel_rfl) rfl rfl ⟨(blk_cell BK577.out 0).trans rfl, (blk_cell BK577.out 1).trans rfl, (blk_cell BK577.out 2).trans rfl, (blk_cell BK555.out 0).trans rfl, (blk_cell BK555.out 1).trans rfl, (blk_cell BK555.out 2).trans rfl⟩ (fun hHeld => ?_)
             generalize wc.drew = w75 at HO_11 HO_12 HO_578002 BK555 BK577 HB hHeld ⊢
             refine take_ (i := 0) (N := some 61) (v := ?_) (a' := ?_) (fA 5 1) rfl rfl (by kernel_rfl) (fun _ _ _ h => h) (Or.inl ⟨by rfl, ?_⟩) hHeld ?_ ?_
             rotate_left
             · rintro w' ⟨s0, s1, s2, s3, s4, s5⟩
               (try simp only [C_] at s0 s1 s2 s3 s4 s5)
               go_simp
               with_reducible rfl
             rotate_left
             · simp only [Act.put, sA, sB, sC, i64_w, i32_w]
               rfl
             refine take_ (i := 1) (N := some 62) (v := ?_) (a' := ?_) (fA 5 3) rfl rfl (by kernel_rfl) (fun _ _ _ h => h) (Or.inl ⟨by rfl, ?_⟩) hHeld ?_ ?_
             rotate_left
             · rintro w' ⟨s0, s1, s2, s3, s4, s5⟩
               (try simp only [C_] at s0 s1 s2 s3 s4 s5)
               go_simp
               with_reducible rfl
             rotate_left
             · simp only [Act.put, sA, sB, sC, i64_w, i32_w]
               rfl
             refine one_ (i := 2) (N := some 63) (fA 5 7) rfl rfl (by kernel_rfl) (by decide) (fun K hK => ?_)
             refine go_ Try.func15 #[.agg #[.int .i64 a0_0, .int .i64 a0_1, .slice A0_2 l0_2.length c0_2]] ?_
             with_reducible refine (laws_toShape.calls kj28 a0_0 a0_1 _ _ l0_2 t586 t587 t588 _ ?side1 ?side2 A56.out).mono ?_
             (case side1 => exact cb_ HR0_2.out HB.out)
             (case side2 => exact HC0_2.out)
             rintro e w76 ⟨v589, rfl, ho0, hb⟩
             refine ⟨_, rfl, ?_⟩
             replace HO_11 := mkA (Kd.S_below (s_ HO_11.out) hb)
             replace HO_12 := mkA (Kd.R_below (r_ HO_12.out) hb)
             have HO590 := mkA (Kd.R_lower (Kd.R_new' ho0 (Kd.R_lt (r_ HO_578002.out))) (below_size (bs2_ HB.out GE555.out GE577.out)))
             replace HO_578002 := mkA (Kd.R_elder' (r_ HO_578002.out) (Kd.R_base ho0) hb)
             replace BK555 := mkA (blk_below (bl_ BK555.out) hb)
             replace BK577 := mkA (blk_below (bl_ BK577.out) hb)
             replace HB := mkA (below_step (bs2_ HB.out GE555.out GE577.out) hb)
             (try clear hb)
             (try clear hb2)
             (try clear hk)
             (try clear hi)
             (try clear ho0)
             obtain ⟨Ao77, co77, eo77⟩ := Kd.R_slice HO590.out
             (first | subst eo77 | (injection eo77 with f1_ f2_ f3_; have f4_ := f1_.symm; have f5_ := f3_.symm; clear f1_ f2_ f3_; subst f4_; subst f5_))
             refine hK.out _ _ sp_ fun hHeld => ?_
             clear hK K
             refine nm_ 63 ?_
             refine one_ (i := 3) (N := some 64) (fA 5 15) rfl rfl (by kernel_rfl) (by decide) (fun K hK => ?_)
             refine go_ Try.func17 #[.agg #[.int .i64 t572, .int .i64 t573, .slice Ao47 t574.length co47], .agg #[.int .i64 t586, .int .i64 t587, .slice Ao77 t588.length co77]] ?_
             with_reducible refine (laws_eqShape.calls kj28 t572 t573 _ _ t574 t586 t587 _ _ t588 true _ ?side1 ?side2 ?side3 ?side4 A57.out).mono ?_
             (case side1 => repeat (first | exact (Kd.R_reads' HO_578002.out).2.2 | (with_reducible refine Kd.C_alloc ?_ _) | (with_reducible refine Kd.C_drewN ?_ _) | (with_reducible refine Kd.C_drew ?_)))
             (case side2 => exact (Kd.R_reads' HO_578002.out).2.1)
             (case side3 => repeat (first | exact (Kd.R_reads' HO590.out).2.2 | (with_reducible refine Kd.C_alloc ?_ _) | (with_reducible refine Kd.C_drewN ?_ _) | (with_reducible refine Kd.C_drew ?_)))
             (case side4 => exact (Kd.R_reads' HO590.out).2.1)
             rintro e w78 ⟨rfl, hb⟩
             refine ⟨_, rfl, ?_⟩
             replace HO_11 := mkA (Kd.S_below (s_ HO_11.out) hb)
             replace HO_12 := mkA (Kd.R_below (r_ HO_12.out) hb)
             replace HO_578002 := mkA (Kd.R_below (r_ HO_578002.out) hb)
             replace HO590 := mkA (Kd.R_below (r_ HO590.out) hb)
             replace BK555 := mkA (blk_below (bl_ BK555.out) hb)
             replace BK577 := mkA (blk_below (bl_ BK577.out) hb)
             replace HB := mkA (below_step (bs2_ HB.out GE555.out GE577.out) hb)
             (try clear hb)
             (try clear hb2)
             (try clear hk)
             (try clear hi)
             refine hK.out _ _ sp_ fun hHeld => ?_
             clear hK K
             refine nm_ 64 ?_
             refine pure_ (i := 4) (N := some 65) (v := ?_) (a' := ?_) (fA 5 31) rfl rfl (by kernel_rfl) (fun _ _ _ h => h) (Or.inl ⟨by rfl, ?_⟩) ?_ ?_
             rotate_left
             · intro w'
               go_simp
               with_reducible rfl
             rotate_left
             · simp only [Act.put, sA, sB, sC, i64_w, i32_w]
               rfl
             refine done_ (by kernel_rfl) ?_
             try go_wp2_with (first | ((with_reducible refine gk_ 30 ?_); refine gl_ (some 68) Try.func30 #[.slice A1 l1.length c1] ?_; (with_reducible refine (laws_toPieceS.calls kj28 _ _ l1 t592 _ ?side1 ?side2 A59.out).mono ?_); (case side1 => exact cb_ HR1.out HB.out); (case side2 => exact HC1.out); rintro e w79 ⟨v593, rfl, ho0, hb⟩; refine ⟨_, rfl, ?_⟩; replace HO_12 := mkA (Kd.R_below (r_ HO_12.out) hb); replace HO_578002 := mkA (Kd.R_below (r_ HO_578002.out) hb); replace HO590 := mkA (Kd.R_below (r_ HO590.out) hb); have HO594 := mkA (Kd.S_lower (Kd.S_new' ho0 (Kd.S_lt (s_ HO_11.out))) (below_size (bs2_ HB.out GE555.out GE577.out))); replace HO_11 := mkA (Kd.S_elder' (s_ HO_11.out) (Kd.S_base ho0) hb); replace BK555 := mkA (blk_below (bl_ BK555.out) hb); replace BK577 := mkA (blk_below (bl_ BK577.out) hb); replace HB := mkA (below_step (bs2_ HB.out GE555.out GE577.out) hb); (try clear hb); (try clear hb2); (try clear hk); (try clear hi); (try clear ho0); obtain ⟨Ao80, co80, eo80⟩ := Kd.S_slice HO594.out; subst eo80) | ((with_reducible refine gk_ 32 ?_); refine gl_ (some 69) Try.func32 #[.slice Ao51 t578.length co51, .slice Ao80 t592.length co80] ?_; (with_reducible refine (laws_eqPieceS.calls kj28 _ _ t578 _ _ t592 true _ ?side1 ?side2 ?side3 ?side4 A60.out).mono ?_); (case side1 => repeat (first | exact (Kd.S_reads' HO_11.out).2.2 | (with_reducible refine Kd.C_alloc ?_ _) | (with_reducible refine Kd.C_drewN ?_ _) | (with_reducible refine Kd.C_drew ?_))); (case side2 => exact (Kd.S_reads' HO_11.out).2.1); (case side3 => repeat (first | exact (Kd.S_reads' HO594.out).2.2 | (with_reducible refine Kd.C_alloc ?_ _) | (with_reducible refine Kd.C_drewN ?_ _) | (with_reducible refine Kd.C_drew ?_))); (case side4 => exact (Kd.S_reads' HO594.out).2.1); rintro e w81 ⟨rfl, hb⟩; refine ⟨_, rfl, ?_⟩; replace HO_11 := mkA (Kd.S_below (s_ HO_11.out) hb); replace HO_12 := mkA (Kd.R_below (r_ HO_12.out) hb); replace HO_578002 := mkA (Kd.R_below (r_ HO_578002.out) hb); replace HO590 := mkA (Kd.R_below (r_ HO590.out) hb); replace HO594 := mkA (Kd.S_below (s_ HO594.out) hb); replace BK555 := mkA (blk_below (bl_ BK555.out) hb); replace BK577 := mkA (blk_below (bl_ BK577.out) hb); replace HB := mkA (below_step (bs2_ HB.out GE555.out GE577.out) hb); (try clear hb); (try clear hb2); (try clear hk); (try clear hi)) | ((with_reducible refine gk_ 49 ?_); refine gl_ (some 73) Try.func49 #[.slice A2 l2.length c2] ?_; (with_reducible refine (laws_toLaidS.calls kj28 _ _ l2 t596 _ ?side1 ?side2 A62.out).mono ?_); (case side1 => exact cb_ HR2.out HB.out); (case side2 => exact HC2.out); rintro e w82 ⟨v597, rfl, ho0, hb⟩; refine ⟨_, rfl, ?_⟩; replace HO_11 := mkA (Kd.S_below (s_ HO_11.out) hb); replace HO_578002 := mkA (Kd.R_below (r_ HO_578002.out) hb); replace HO590 := mkA (Kd.R_below (r_ HO590.out) hb); replace HO594 := mkA (Kd.S_below (s_ HO594.out) hb); have HO598 := mkA (Kd.R_lower (Kd.R_new' ho0 (Kd.R_lt (r_ HO_12.out))) (below_size (bs2_ HB.out GE555.out GE577.out))); replace HO_12 := mkA (Kd.R_elder' (r_ HO_12.out) (Kd.R_base ho0) hb); replace BK555 := mkA (blk_below (bl_ BK555.out) hb); replace BK577 := mkA (blk_below (bl_ BK577.out) hb); replace HB := mkA (below_step (bs2_ HB.out GE555.out GE577.out) hb); (try clear hb); (try clear hb2); (try clear hk); (try clear hi); (try clear ho0); obtain ⟨Ao83, co83, eo83⟩ := Kd.R_slice HO598.out; subst eo83) | ((with_reducible refine gk_ 51 ?_); refine gl_ (some 74) Try.func51 #[.slice Ao52 t581.length co52, .slice Ao83 t596.length co83] ?_; (with_reducible refine (laws_eqLaidS.calls kj28 _ _ t581 _ _ t596 false _ ?side1 ?side2 ?side3 ?side4 A63.out).mono ?_); (case side1 => repeat (first | exact (Kd.R_reads' HO_12.out).2.2 | (with_reducible refine Kd.C_alloc ?_ _) | (with_reducible refine Kd.C_drewN ?_ _) | (with_reducible refine Kd.C_drew ?_))); (case side2 => exact (Kd.R_reads' HO_12.out).2.1); (case side3 => repeat (first | exact (Kd.R_reads' HO598.out).2.2 | (with_reducible refine Kd.C_alloc ?_ _) | (with_reducible refine Kd.C_drewN ?_ _) | (with_reducible refine Kd.C_drew ?_))); (case side4 => exact (Kd.R_reads' HO598.out).2.1); rintro e w84 ⟨rfl, hb⟩; refine ⟨_, rfl, ?_⟩; replace HO_11 := mkA (Kd.S_below (s_ HO_11.out) hb); replace HO_12 := mkA (Kd.R_below (r_ HO_12.out) hb); replace HO_578002 := mkA (Kd.R_below (r_ HO_578002.out) hb); replace HO590 := mkA (Kd.R_below (r_ HO590.out) hb); replace HO594 := mkA (Kd.S_below (s_ HO594.out) hb); replace HO598 := mkA (Kd.R_below (r_ HO598.out) hb); replace BK555 := mkA (blk_below (bl_ BK555.out) hb); replace BK577 := mkA (blk_below (bl_ BK577.out) hb); replace HB := mkA (below_step (bs2_ HB.out GE555.out GE577.out) hb); (try clear hb); (try clear hb2); (try clear hk); (try clear hi)))
             go_ret
             exact ⟨re_, bs2_ HB.out GE555.out GE577.out⟩
def G24 (x : S24) : Prop := (Lit.int .i64 x.f0).wf = true ∧ (Lit.int .i64 x.f1).wf = true ∧ (x.f2.length ≤ maxLen ∧ ∀ y0 ∈ x.f2, (Lit.int .i64 y0).wf = true)
def G123 (x : S123) : Prop := (Lit.int .i64 x.f0).wf = true ∧ (Lit.int .i64 x.f1).wf = true
def G47 (x : S47) : Prop := x.f0.size ≤ maxLen ∧ (x.f1.length ≤ maxLen ∧ ∀ y0 ∈ x.f1, G123 y0) ∧ (Lit.int .i64 x.f2).wf = true ∧ True
def G111 (x : S111) : Prop := (Lit.int .i64 x.f0).wf = true ∧ (Lit.int .i64 x.f1).wf = true ∧ (Lit.int .i64 x.f2).wf = true ∧ (Lit.int .i64 x.f3).wf = true

/-- THE ONE PURE STATEMENT of laws_FnExactFirstUncovered. -/
def laws_FnExactFirstUncovered.Pure : Prop := ∀ (a0_0 : Int) (a0_1 : Int) (l0_2 : List Int) (l1 : List (S47)) (l2 : List (S111)), G24 (⟨a0_0, a0_1, l0_2⟩ : S24) → (l1.length ≤ maxLen ∧ ∀ y0 ∈ l1, G47 y0) → (l2.length ≤ maxLen ∧ ∀ y0 ∈ l2, G111 y0) → ∃ k, laws_FnExactFirstUncovered.f k a0_0 a0_1 l0_2 l1 l2 = some true

end Go.Proofs.Ytakagkflgkoiiaa.GFnExactFirstUncovered

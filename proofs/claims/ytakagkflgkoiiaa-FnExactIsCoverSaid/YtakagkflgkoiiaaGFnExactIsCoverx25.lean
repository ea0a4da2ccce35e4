-- Written by the session's own program (gen.py) out of the translation's print. Lean checks it.
import Derived.Test.YtakagkflgkoiiaaQ
import Derived.Test.YtakagkflgkoiiaaGFnExactIsCoverx0
import Derived.Test.YtakagkflgkoiiaaGFnExactIsCoverx16
import Derived.Test.YtakagkflgkoiiaaGFnExactIsCoverx19
import Derived.Test.YtakagkflgkoiiaaGFnExactIsCoverx24
namespace Go.Proofs.Ytakagkflgkoiiaa.GFnExactIsCover
open Go.RowKit Go.Proofs.YtakagkflgkoiiaaW.PrintWords Go.Proofs.YtakagkflgkoiiaaW.PrintLast Go.Proofs.YtakagkflgkoiiaaW.PrintMore
open List renaming setIfInBounds_toArray → sA, set_cons_zero → sB, set_cons_succ → sC
open Go.Proofs.YtakagkflgkoiiaaW.PrintWords.Aside0 renaming mk → mkA
open Go.Proofs.YtakagkflgkoiiaaX (dt_ bc_ p0_ p1_ bl_ cb_ bs0_ bs1_ bs2_ bs3_ bs4_ bs5_ bs6_ bs7_ bs8_ bs9_ bs10_ bs11_ bs12_)
open Go.Proofs.YtakagkflgkoiiaaQ
attribute [local go_sem] max2_int min2_int max_two min_two max_three min_three max_four min_four 
set_option linter.unusedVariables false
set_option linter.unusedSimpArgs false

/-! ### impl_FirstUncovered: function 50 -/
mutual
def impl_FirstUncovered.j0 : Nat → List (S53) → List (S109) → Bool → Int → Int → List Int → Option (Int × Int)
  | 0, _, _, _, _, _, _ => none
  | k + 1, x1, x2, x19, x547000, x547001, x547002 => if x19 = true then (some (0, 1)) else ((impl_coverCounts.f k x547000 x547001 x547002 x1 x2).bind fun bt549 => (if bt549.2 = true then (impl_FirstUncovered.l0 k bt549.1 (bt549.1.length : Int) 0 x547000 x547001 x547002) else (some (0, 2))))
def impl_FirstUncovered.l0 : Nat → List Int → Int → Int → Int → Int → List Int → Option (Int × Int)
  | 0, _, _, _, _, _, _ => none
  | k + 1, x29, x30, x31, x547000, x547001, x547002 => if x31 < x30 then (if 0 ≤ x31 then (if x31 < (x29.length : Int) then (if x31 < (x547002.length : Int) then (if (rd x29 x31) = (rd x547002 x31) then (impl_FirstUncovered.l0 k x29 x30 (wrap64 (x31 + 1)) x547000 x547001 x547002) else (some (x31, 0))) else (none)) else (none)) else (none)) else (some ((-1), 0))
end
def impl_FirstUncovered.f (k : Nat) (a0_0 : Int) (a0_1 : Int) (l0_2 : List Int) (l1 : List (S53)) (l2 : List (S109)) : Option (Int × Int) := (impl_ValidShape.f k a0_0 a0_1 l0_2).bind fun t547 => (if t547 = true then ((impl_ValidPieces.f k l1).bind fun t548 => (impl_FirstUncovered.j0 k l1 l2 (!t548) a0_0 a0_1 l0_2)) else (impl_FirstUncovered.j0 k l1 l2 true a0_0 a0_1 l0_2))
set_option maxHeartbeats 8000000 in
set_option maxRecDepth 100000 in
theorem impl_FirstUncovered.calls (k : Nat) (a0_0 : Int) (a0_1 : Int) (A0_2 : Option Addr) (c0_2 : Nat) (l0_2 : List Int) (A1 : Option Addr) (c1 : Nat) (l1 : List (S53)) (A2 : Option Addr) (c2 : Nat) (l2 : List (S109)) (r1 : Int) (r2 : Int) (w : World) (hr0_2 : Kd.C (Kd.int .i64) w A0_2 l0_2.length l0_2) (hc0_2 : l0_2.length ≤ c0_2) (hr1 : Kd.C k53 w A1 l1.length l1) (hc1 : l1.length ≤ c1) (hr2 : Kd.C k109 w A2 l2.length l2) (hc2 : l2.length ≤ c2) (h : impl_FirstUncovered.f k a0_0 a0_1 l0_2 l1 l2 = some (r1, r2)) :
 Calls Try.prog 50 #[.agg #[.int .i64 a0_0, .int .i64 a0_1, .slice A0_2 l0_2.length c0_2], .slice A1 l1.length c1, .slice A2 l2.length c2] w fun e w' => e = .returned (.tuple #[.int .i64 r1, .int .i64 r2]) ∧ Below w.heap.size w w' := by
 have hu27 := Try.underlying27
 have HR0_2 := mkA hr0_2
 have HC0_2 := mkA hc0_2
 clear hr0_2 hc0_2
 have HR1 := mkA hr1
 have HC1 := mkA hc1
 clear hr1 hc1
 have HR2 := mkA hr2
 have HC2 := mkA hc2
 clear hr2 hc2
 have HB := mkA (Below.refl w.heap.size w)
 unfold impl_FirstUncovered.f at h
 have H := h
 clear h
 have HC4 := mkA H
 clear H
 go_enter Try.func50, Try.ntmps50
 go_upto_region 1 with (first | ((with_reducible refine gt_ 3 ?_); refine bx_ 3 #[.int .i64 a0_0, .int .i64 a0_1, .slice A0_2 l0_2.length c0_2] 27 fun gb546 hg w5 hbox hb => ?_; have BK546 := mkA (hbox); have GW546 := gs_ hg (bs0_ HB.out); have GE546 := GW546; replace HB := mkA (below_step (bs0_ HB.out) hb); clear hb hbox hg))
 (try simp only [Act.put, sA, sB, sC])
 go_cut [19] (fun v19 wc => ∃ (kq : Nat) (x19_3 : Bool), v19 = .bool x19_3 ∧ Aside0 (impl_FirstUncovered.j0 kq l1 l2 x19_3 a0_0 a0_1 l0_2 = some (r1, r2)) ∧ Aside0 (kq ≤ k) ∧ Aside0 (wc.heap[gb546]? = some (.cells #[.int .i64 a0_0, .int .i64 a0_1, (.slice A0_2 l0_2.length c0_2)] 27 (0, 0))) ∧ Aside0 (Below w.heap.size w wc))
 case first =>
  have H := HC4.out
  clear HC4
  revert H
  refine ob_ fun t547 A6 => ?_
  intro H
  by_cases c7 : t547 = true
  rotate_left
  · replace c7 := Bool.eq_false_iff.mpr c7
    subst c7
    rw [if_neg Bool.false_ne_true] at H
    have H' := mkA H
    clear H
    obtain ⟨hcz12_0, hcz12_1, hcz12_2, hfz12_0, hfz12_1, hfz12_2⟩ := z3_ BK546.out
    go_wp2_with (first | ((with_reducible refine gk_ 16 ?_); refine gl_ (some 13) Try.func16 #[.agg #[.int .i64 a0_0, .int .i64 a0_1, .slice A0_2 l0_2.length c0_2]] ?_; (with_reducible refine (impl_ValidShape.calls k a0_0 a0_1 _ _ l0_2 false _ ?side1 ?side2 A6.out).mono ?_); (case side1 => exact cb_ HR0_2.out HB.out); (case side2 => exact HC0_2.out); rintro e w13 ⟨rfl, hb⟩; refine ⟨_, rfl, ?_⟩; replace BK546 := mkA (blk_below (bl_ BK546.out) hb); replace HB := mkA (below_step (bs1_ HB.out GE546.out) hb); (try clear hb); (try clear hb2); (try clear hk); (try clear hi)))
    go_meet
    case rel => exact ⟨_, (true), rf_, H', ⟨by first | omega | exact Nat.le_refl _⟩, ⟨bl_ BK546.out⟩, ⟨bs1_ HB.out GE546.out⟩⟩
  subst c7
  rw [if_pos rfl] at H
  revert H
  refine ob_ fun t548 A8 => ?_
  intro H
  have H' := mkA H
  clear H
  obtain ⟨hcz9_0, hcz9_1, hcz9_2, hfz9_0, hfz9_1, hfz9_2⟩ := z3_ BK546.out
  go_wp2_with (first | ((with_reducible refine gk_ 16 ?_); refine gl_ (some 13) Try.func16 #[.agg #[.int .i64 a0_0, .int .i64 a0_1, .slice A0_2 l0_2.length c0_2]] ?_; (with_reducible refine (impl_ValidShape.calls k a0_0 a0_1 _ _ l0_2 true _ ?side1 ?side2 A6.out).mono ?_); (case side1 => exact cb_ HR0_2.out HB.out); (case side2 => exact HC0_2.out); rintro e w10 ⟨rfl, hb⟩; refine ⟨_, rfl, ?_⟩; replace BK546 := mkA (blk_below (bl_ BK546.out) hb); replace HB := mkA (below_step (bs1_ HB.out GE546.out) hb); (try clear hb); (try clear hb2); (try clear hk); (try clear hi)) | (go_at_call 31; (with_reducible refine (impl_ValidPieces.calls k _ _ l1 t548 _ ?side1 ?side2 A8.out).mono ?_); (case side1 => exact cb_ HR1.out HB.out); (case side2 => exact HC1.out); rintro e w11 ⟨rfl, hb⟩; replace BK546 := mkA (blk_below (bl_ BK546.out) hb); replace HB := mkA (below_step (bs1_ HB.out GE546.out) hb); (try clear hb); (try clear hb2); (try clear hk); (try clear hi)))
  go_meet
  case rel => exact ⟨_, (!t548), rf_, H', ⟨by first | omega | exact Nat.le_refl _⟩, ⟨bl_ BK546.out⟩, ⟨bs1_ HB.out GE546.out⟩⟩
 case rest =>
  clear HC4
  try clear c7
  try clear hcz12_0 hcz12_1 hcz12_2 hcz9_0 hcz9_1 hcz9_2
  try clear hfz12_0 hfz12_1 hfz12_2 hfz9_0 hfz9_1 hfz9_2
  obtain ⟨kq, x19_3, rfl, HA, HJ3, BK546, HB⟩ := hcut
  cases kq with
  | zero => exact absurd HA.out (by simp [impl_FirstUncovered.j0])
  | succ kj3 =>
   have H := HA.out
   clear HA
   simp only [impl_FirstUncovered.j0] at H
   by_cases c14 : x19_3 = true
   · subst c14
     rw [if_pos rfl] at H
     simp only [Option.some.injEq, Prod.mk.injEq] at H
     obtain ⟨rfl, rfl⟩ := H
     go_wp2
     go_ret2
     exact ⟨re_, bs1_ HB.out GE546.out⟩
   · replace c14 := Bool.eq_false_iff.mpr c14
     subst c14
     rw [if_neg Bool.false_ne_true] at H
     revert H
     refine ob_ fun t_ A15 => ?_
     intro H
     obtain ⟨t549, t552⟩ := t_
     try dsimp only at H
     by_cases c16 : t552 = true
     rotate_left
     · replace c16 := Bool.eq_false_iff.mpr c16
       subst c16
       rw [if_neg Bool.false_ne_true] at H
       simp only [Option.some.injEq, Prod.mk.injEq] at H
       obtain ⟨rfl, rfl⟩ := H
       obtain ⟨hcz27_0, hcz27_1, hcz27_2, hfz27_0, hfz27_1, hfz27_2⟩ := z3_ BK546.out
       go_wp2_with (first | ((with_reducible refine gk_ 84 ?_); refine gl_ (some 24) Try.func84 #[.agg #[.int .i64 a0_0, .int .i64 a0_1, .slice A0_2 l0_2.length c0_2], .slice A1 l1.length c1, .slice A2 l2.length c2] ?_; (with_reducible refine (impl_coverCounts.calls kj3 a0_0 a0_1 _ _ l0_2 _ _ l1 _ _ l2 t549 false _ ?side1 ?side2 ?side3 ?side4 ?side5 ?side6 A15.out).mono ?_); (case side1 => exact cb_ HR0_2.out HB.out); (case side2 => exact HC0_2.out); (case side3 => exact cb_ HR1.out HB.out); (case side4 => exact HC1.out); (case side5 => exact cb_ HR2.out HB.out); (case side6 => exact HC2.out); rintro e w28 ⟨v550, rfl, ho0, hb⟩; refine ⟨_, rfl, ?_⟩; have HO551 := mkA (Kd.R_lower ho0 (below_size (bs1_ HB.out GE546.out))); replace BK546 := mkA (blk_below (bl_ BK546.out) hb); replace HB := mkA (below_step (bs1_ HB.out GE546.out) hb); (try clear hb); (try clear hb2); (try clear hk); (try clear hi); (try clear ho0)))
       go_ret2
       exact ⟨re_, bs1_ HB.out GE546.out⟩
     subst c16
     rw [if_pos rfl] at H
     have H' := mkA H
     clear H
     obtain ⟨hcz17_0, hcz17_1, hcz17_2, hfz17_0, hfz17_1, hfz17_2⟩ := z3_ BK546.out
     go_wp2_with (first | ((with_reducible refine gk_ 84 ?_); refine gl_ (some 24) Try.func84 #[.agg #[.int .i64 a0_0, .int .i64 a0_1, .slice A0_2 l0_2.length c0_2], .slice A1 l1.length c1, .slice A2 l2.length c2] ?_; (with_reducible refine (impl_coverCounts.calls kj3 a0_0 a0_1 _ _ l0_2 _ _ l1 _ _ l2 t549 true _ ?side1 ?side2 ?side3 ?side4 ?side5 ?side6 A15.out).mono ?_); (case side1 => exact cb_ HR0_2.out HB.out); (case side2 => exact HC0_2.out); (case side3 => exact cb_ HR1.out HB.out); (case side4 => exact HC1.out); (case side5 => exact cb_ HR2.out HB.out); (case side6 => exact HC2.out); rintro e w18 ⟨v550, rfl, ho0, hb⟩; refine ⟨_, rfl, ?_⟩; have HO551 := mkA (Kd.R_lower ho0 (below_size (bs1_ HB.out GE546.out))); replace BK546 := mkA (blk_below (bl_ BK546.out) hb); replace HB := mkA (below_step (bs1_ HB.out GE546.out) hb); (try clear hb); (try clear hb2); (try clear hk); (try clear hi); (try clear ho0); obtain ⟨Ao19, co19, eo19⟩ := Kd.R_slice HO551.out; subst eo19))
     go_loopg [31] kj3 (fun kq v31 w' => ∃ (x31_2 : Int), v31 = .int .i64 x31_2 ∧ Aside0 (impl_FirstUncovered.l0 kq t549 (t549.length : Int) x31_2 a0_0 a0_1 l0_2 = some (r1, r2)) ∧ Aside0 (kq ≤ kj3) ∧ Aside0 (Kd.R (Kd.int .i64) 2 w' w.heap.size (fun _ => True) (.slice Ao19 t549.length co19) t549) ∧ Aside0 (w'.heap[gb546]? = some (.cells #[.int .i64 a0_0, .int .i64 a0_1, (.slice A0_2 l0_2.length c0_2)] 27 (0, 0))) ∧ Aside0 (Below w.heap.size w w'))
     case atStart => exact ⟨(0), rf_, H', ⟨Nat.le_refl _⟩, ⟨r_ HO551.out⟩, ⟨bl_ BK546.out⟩, ⟨bs1_ HB.out GE546.out⟩⟩
     case round =>
      clear H'
      try clear c1 c2 c7 c14 c16
      try clear hcz12_0 hcz12_1 hcz12_2 hcz17_0 hcz17_1 hcz17_2 hcz9_0 hcz9_1 hcz9_2
      try clear hfz12_0 hfz12_1 hfz12_2 hfz17_0 hfz17_1 hfz17_2 hfz9_0 hfz9_1 hfz9_2
      obtain ⟨x31_2, rfl, HA, HK2, HO_29, BK546, HB⟩ := hrel
      cases gk with
      | zero => exact absurd HA.out (by simp [impl_FirstUncovered.l0])
      | succ k2 =>
       have H := HA.out
       clear HA
       simp only [impl_FirstUncovered.l0] at H
       by_cases c20 : x31_2 < (t549.length : Int)
       rotate_left
       · rw [if_neg c20] at H
         have c20b0 := decide_eq_false c20
         clear c20
         simp only [Option.some.injEq, Prod.mk.injEq] at H
         obtain ⟨rfl, rfl⟩ := H
         go_wp2
         go_ret2
         exact ⟨re_, bs1_ HB.out GE546.out⟩
       rw [if_pos c20] at H
       have c20b0 := decide_eq_true c20
       clear c20
       revert H
       refine ng_ fun c21 => ng_ fun c22 => ng_ fun c23 => ?_
       intro H
       have c21b0 := decide_eq_true c21
       clear c21
       have c22b0 := decide_eq_true c22
       clear c22
       have c23b0 := decide_eq_true c23
       clear c23
       by_cases c24 : (rd t549 x31_2) = (rd l0_2 x31_2)
       rotate_left
       · rw [if_neg c24] at H
         have c24b0 : ((rd t549 x31_2) == (rd l0_2 x31_2)) = false := beq_eq_false_iff_ne.mpr c24
         have c24b1 : ((rd t549 x31_2) != (rd l0_2 x31_2)) = true := bne_iff_ne.mpr c24
         simp only [Option.some.injEq, Prod.mk.injEq] at H
         obtain ⟨rfl, rfl⟩ := H
         obtain ⟨ad553, e553, hx553_0⟩ := Kd.at_int (Kd.R_reads' HO_29.out).2.2 x31_2 dt_ dt_
         cases e553
         have p553 : (0 ≤ (x31_2 : Int)) = True := eq_true dt_
         have q553 : (x31_2 < (t549.length : Int)) = True := eq_true dt_
         obtain ⟨hcz26_0, hcz26_1, hcz26_2, hfz26_0, hfz26_1, hfz26_2⟩ := z3_ BK546.out
         obtain ⟨ad554, e554, hx554_0⟩ := Kd.at_int HR0_2.out x31_2 dt_ dt_
         cases e554
         replace hx554_0 := bc_ HB.out hx554_0
         have p554 : (0 ≤ (x31_2 : Int)) = True := eq_true dt_
         have q554 : (x31_2 < (l0_2.length : Int)) = True := eq_true dt_
         go_wp2
         go_ret2
         exact ⟨re_, bs1_ HB.out GE546.out⟩
       rw [if_pos c24] at H
       have c24b0 : ((rd t549 x31_2) == (rd l0_2 x31_2)) = true := beq_iff_eq.mpr c24
       have c24b1 : ((rd t549 x31_2) != (rd l0_2 x31_2)) = false := bne_eq_false_iff_eq.mpr c24
       clear c24
       have H' := mkA H
       clear H
       obtain ⟨ad553, e553, hx553_0⟩ := Kd.at_int (Kd.R_reads' HO_29.out).2.2 x31_2 dt_ dt_
       cases e553
       have p553 : (0 ≤ (x31_2 : Int)) = True := eq_true dt_
       have q553 : (x31_2 < (t549.length : Int)) = True := eq_true dt_
       obtain ⟨hcz25_0, hcz25_1, hcz25_2, hfz25_0, hfz25_1, hfz25_2⟩ := z3_ BK546.out
       obtain ⟨ad554, e554, hx554_0⟩ := Kd.at_int HR0_2.out x31_2 dt_ dt_
       cases e554
       replace hx554_0 := bc_ HB.out hx554_0
       have p554 : (0 ≤ (x31_2 : Int)) = True := eq_true dt_
       have q554 : (x31_2 < (l0_2.length : Int)) = True := eq_true dt_
       go_wp2
       go_roundg k2
       case measure => have := HJ3.out; have := HK2.out; omega
       case rel => exact ⟨(wrap64 (x31_2 + 1)), rf_, H', ⟨on2_ HJ3.out HK2.out⟩, ⟨r_ HO_29.out⟩, ⟨bl_ BK546.out⟩, ⟨bs1_ HB.out GE546.out⟩⟩
/-! ### impl_IsCover: function 53 -/
def impl_IsCover.f (k : Nat) (a0_0 : Int) (a0_1 : Int) (l0_2 : List Int) (l1 : List (S53)) (l2 : List (S109)) : Option (Bool) := (impl_FirstUncovered.f k a0_0 a0_1 l0_2 l1 l2).bind fun bt556 => (if bt556.2 = 0 then (some (bt556.1 == (-1))) else (some false))
set_option maxHeartbeats 8000000 in
set_option maxRecDepth 100000 in
theorem impl_IsCover.calls (k : Nat) (a0_0 : Int) (a0_1 : Int) (A0_2 : Option Addr) (c0_2 : Nat) (l0_2 : List Int) (A1 : Option Addr) (c1 : Nat) (l1 : List (S53)) (A2 : Option Addr) (c2 : Nat) (l2 : List (S109)) (r : Bool) (w : World) (hr0_2 : Kd.C (Kd.int .i64) w A0_2 l0_2.length l0_2) (hc0_2 : l0_2.length ≤ c0_2) (hr1 : Kd.C k53 w A1 l1.length l1) (hc1 : l1.length ≤ c1) (hr2 : Kd.C k109 w A2 l2.length l2) (hc2 : l2.length ≤ c2) (h : impl_IsCover.f k a0_0 a0_1 l0_2 l1 l2 = some r) :
 Calls Try.prog 53 #[.agg #[.int .i64 a0_0, .int .i64 a0_1, .slice A0_2 l0_2.length c0_2], .slice A1 l1.length c1, .slice A2 l2.length c2] w fun e w' => e = .returned (.bool r) ∧ Below w.heap.size w w' := by
 have hu27 := Try.underlying27
 have HR0_2 := mkA hr0_2
 have HC0_2 := mkA hc0_2
 clear hr0_2 hc0_2
 have HR1 := mkA hr1
 have HC1 := mkA hc1
 clear hr1 hc1
 have HR2 := mkA hr2
 have HC2 := mkA hc2
 clear hr2 hc2
 have HB := mkA (Below.refl w.heap.size w)
 unfold impl_IsCover.f at h
 have H := h
 clear h
 revert H
 refine ob_ fun t_ A4 => ?_
 intro H
 obtain ⟨t556, t557⟩ := t_
 try dsimp only at H
 by_cases c5 : t557 = 0
 · rw [if_pos c5] at H
   have c5b0 : (t557 == 0) = true := beq_iff_eq.mpr c5
   have c5b1 : (t557 != 0) = false := bne_eq_false_iff_eq.mpr c5
   clear c5
   obtain rfl := Option.some.inj H
   go_enter Try.func53, Try.ntmps53
   go_wp2_with (first | ((with_reducible refine gt_ 3 ?_); refine bx_ 3 #[.int .i64 a0_0, .int .i64 a0_1, .slice A0_2 l0_2.length c0_2] 27 fun gb555 hg w6 hbox hb => ?_; have BK555 := mkA (hbox); have GW555 := gs_ hg (bs0_ HB.out); have GE555 := GW555; replace HB := mkA (below_step (bs0_ HB.out) hb); clear hb hbox hg; obtain ⟨hcz7_0, hcz7_1, hcz7_2, hfz7_0, hfz7_1, hfz7_2⟩ := z3_ BK555.out) | ((with_reducible refine gk_ 50 ?_); refine gl_ (some 13) Try.func50 #[.agg #[.int .i64 a0_0, .int .i64 a0_1, .slice A0_2 l0_2.length c0_2], .slice A1 l1.length c1, .slice A2 l2.length c2] ?_; (with_reducible refine (impl_FirstUncovered.calls k a0_0 a0_1 _ _ l0_2 _ _ l1 _ _ l2 t556 t557 _ ?side1 ?side2 ?side3 ?side4 ?side5 ?side6 A4.out).mono ?_); (case side1 => exact cb_ HR0_2.out HB.out); (case side2 => exact HC0_2.out); (case side3 => exact cb_ HR1.out HB.out); (case side4 => exact HC1.out); (case side5 => exact cb_ HR2.out HB.out); (case side6 => exact HC2.out); rintro e w8 ⟨rfl, hb⟩; refine ⟨_, rfl, ?_⟩; replace BK555 := mkA (blk_below (bl_ BK555.out) hb); replace HB := mkA (below_step (bs1_ HB.out GE555.out) hb); (try clear hb); (try clear hb2); (try clear hk); (try clear hi)))
   go_ret
   exact ⟨re_, bs1_ HB.out GE555.out⟩
 · rw [if_neg c5] at H
   have c5b0 : (t557 == 0) = false := beq_eq_false_iff_ne.mpr c5
   have c5b1 : (t557 != 0) = true := bne_iff_ne.mpr c5
   obtain rfl := Option.some.inj H
   go_enter Try.func53, Try.ntmps53
   go_wp2_with (first | ((with_reducible refine gt_ 3 ?_); refine bx_ 3 #[.int .i64 a0_0, .int .i64 a0_1, .slice A0_2 l0_2.length c0_2] 27 fun gb555 hg w9 hbox hb => ?_; have BK555 := mkA (hbox); have GW555 := gs_ hg (bs0_ HB.out); have GE555 := GW555; replace HB := mkA (below_step (bs0_ HB.out) hb); clear hb hbox hg; obtain ⟨hcz10_0, hcz10_1, hcz10_2, hfz10_0, hfz10_1, hfz10_2⟩ := z3_ BK555.out) | ((with_reducible refine gk_ 50 ?_); refine gl_ (some 13) Try.func50 #[.agg #[.int .i64 a0_0, .int .i64 a0_1, .slice A0_2 l0_2.length c0_2], .slice A1 l1.length c1, .slice A2 l2.length c2] ?_; (with_reducible refine (impl_FirstUncovered.calls k a0_0 a0_1 _ _ l0_2 _ _ l1 _ _ l2 t556 t557 _ ?side1 ?side2 ?side3 ?side4 ?side5 ?side6 A4.out).mono ?_); (case side1 => exact cb_ HR0_2.out HB.out); (case side2 => exact HC0_2.out); (case side3 => exact cb_ HR1.out HB.out); (case side4 => exact HC1.out); (case side5 => exact cb_ HR2.out HB.out); (case side6 => exact HC2.out); rintro e w11 ⟨rfl, hb⟩; refine ⟨_, rfl, ?_⟩; replace BK555 := mkA (blk_below (bl_ BK555.out) hb); replace HB := mkA (below_step (bs1_ HB.out GE555.out) hb); (try clear hb); (try clear hb2); (try clear hk); (try clear hi)))
   go_ret
   exact ⟨re_, bs1_ HB.out GE555.out⟩
end Go.Proofs.Ytakagkflgkoiiaa.GFnExactIsCover

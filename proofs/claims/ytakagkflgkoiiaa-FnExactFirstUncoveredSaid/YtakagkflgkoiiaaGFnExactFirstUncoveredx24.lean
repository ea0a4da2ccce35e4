-- Written by the session's own program (gen.py) out of the translation's print. Lean checks it.
import Derived.Test.YtakagkflgkoiiaaQ
import Derived.Test.YtakagkflgkoiiaaGFnExactFirstUncoveredx0
import Derived.Test.YtakagkflgkoiiaaGFnExactFirstUncoveredx14
import Derived.Test.YtakagkflgkoiiaaGFnExactFirstUncoveredx18
import Derived.Test.YtakagkflgkoiiaaGFnExactFirstUncoveredx23
namespace Go.Proofs.Ytakagkflgkoiiaa.GFnExactFirstUncovered
open Go.RowKit Go.Proofs.YtakagkflgkoiiaaW.PrintWords Go.Proofs.YtakagkflgkoiiaaW.PrintLast Go.Proofs.YtakagkflgkoiiaaW.PrintMore
open List renaming setIfInBounds_toArray → sA, set_cons_zero → sB, set_cons_succ → sC
open Go.Proofs.YtakagkflgkoiiaaW.PrintWords.Aside0 renaming mk → mkA
open Go.Proofs.YtakagkflgkoiiaaX (dt_ bc_ p0_ p1_ bl_ cb_ bs0_ bs1_ bs2_ bs3_ bs4_ bs5_ bs6_ bs7_ bs8_ bs9_ bs10_ bs11_ bs12_)
open Go.Proofs.YtakagkflgkoiiaaQ
attribute [local go_sem] max2_int min2_int max_two min_two max_three min_three max_four min_four 
set_option linter.unusedVariables false
set_option linter.unusedSimpArgs false

/-! ### impl_FirstUncovered: function 50 -/
mutual
def impl_FirstUncovered.j0 : Nat → List (S53) → List (S109) → Bool → Int → Int → List Int → Option (Int × Int)
  | 0, _, _, _, _, _, _ => none
  | k + 1, x1, x2, x19, x542000, x542001, x542002 => if x19 = true then (some (0, 1)) else ((impl_coverCounts.f k x542000 x542001 x542002 x1 x2).bind fun bt544 => (if bt544.2 = true then (impl_FirstUncovered.l0 k bt544.1 (bt544.1.length : Int) 0 x542000 x542001 x542002) else (some (0, 2))))
def impl_FirstUncovered.l0 : Nat → List Int → Int → Int → Int → Int → List Int → Option (Int × Int)
  | 0, _, _, _, _, _, _ => none
  | k + 1, x29, x30, x31, x542000, x542001, x542002 => if x31 < x30 then (if 0 ≤ x31 then (if x31 < (x29.length : Int) then (if x31 < (x542002.length : Int) then (if (rd x29 x31) = (rd x542002 x31) then (impl_FirstUncovered.l0 k x29 x30 (wrap64 (x31 + 1)) x542000 x542001 x542002) else (some (x31, 0))) else (none)) else (none)) else (none)) else (some ((-1), 0))
end
def impl_FirstUncovered.f (k : Nat) (a0_0 : Int) (a0_1 : Int) (l0_2 : List Int) (l1 : List (S53)) (l2 : List (S109)) : Option (Int × Int) := (impl_ValidShape.f k a0_0 a0_1 l0_2).bind fun t542 => (if t542 = true then ((impl_ValidPieces.f k l1).bind fun t543 => (impl_FirstUncovered.j0 k l1 l2 (!t543) a0_0 a0_1 l0_2)) else (impl_FirstUncovered.j0 k l1 l2 true a0_0 a0_1 l0_2))
set_option maxHeartbeats 8000000 in
set_option maxRecDepth 100000 in
theorem impl_FirstUncovered.calls (k : Nat) (a0_0 : Int) (a0_1 : Int) (A0_2 : Option Addr) (c0_2 : Nat) (l0_2 : List Int) (A1 : Option Addr) (c1 : Nat) (l1 : List (S53)) (A2 : Option Addr) (c2 : Nat) (l2 : List (S109)) (r1 : Int) (r2 : Int) (w : World) (hr0_2 : Kd.C (Kd.int .i64) w A0_2 l0_2.length l0_2) (hc0_2 : l0_2.length ≤ c0_2) (hr1 : Kd.C k53 w A1 l1.length l1) (hc1 : l1.length ≤ c1) (hr2 : Kd.C k109 w A2 l2.length l2) (hc2 : l2.length ≤ c2) (h : impl_FirstUncovered.f k a0_0 a0_1 l0_2 l1 l2 = some (r1, r2)) :
 Calls Try.prog 50 #[.agg #[.int .i64 a0_0, .int .i64 a0_1, .slice A0_2 l0_2.length c0_2], .slice A1 l1.length c1, .slice A2 l2.length c2] w fun e w' => e = .returned (.tuple #[.int .i64 r1, .int .i64 r2]) ∧ Below w.heap.size w w' := by
 have hu27 := Try.underlying27
 have HR0_2 := mkA hr0_2
 have HC0_2 := mkA hc0_2
 clear hr0_2 hc0_2
 have HR1 := mkA hr1
 have HC1 := mkA hc1
 clear hr1 hc1
 have HR2 := mkA hr2
 have HC2 := mkA hc2
 clear hr2 hc2
 have HB := mkA (Below.refl w.heap.size w)
 unfold impl_FirstUncovered.f at h
 have H := h
 clear h
 have HC4 := mkA H
 clear H
 go_enter Try.func50, Try.ntmps50
 go_upto_region 1 with (first | ((with_reducible refine gt_ 3 ?_); refine bx_ 3 #[.int .i64 a0_0, .int .i64 a0_1, .slice A0_2 l0_2.length c0_2] 27 fun gb541 hg w5 hbox hb => ?_; have BK541 := mkA (hbox); have GW541 := gs_ hg (bs0_ HB.out); have GE541 := GW541; replace HB := mkA (below_step (bs0_ HB.out) hb); clear hb hbox hg))
 (try simp only [Act.put, sA, sB, sC])
 go_cut [19] (fun v19 wc => ∃ (kq : Nat) (x19_3 : Bool), v19 = .bool x19_3 ∧ Aside0 (impl_FirstUncovered.j0 kq l1 l2 x19_3 a0_0 a0_1 l0_2 = some (r1, r2)) ∧ Aside0 (kq ≤ k) ∧ Aside0 (wc.heap[gb541]? = some (.cells #[.int .i64 a0_0, .int .i64 a0_1, (.slice A0_2 l0_2.length c0_2)] 27 (0, 0))) ∧ Aside0 (Below w.heap.size w wc))
 case first =>
  have H := HC4.out
  clear HC4
  revert H
  refine ob_ fun t542 A6 => ?_
  intro H
  by_cases c7 : t542 = true
  rotate_left
  · replace c7 := Bool.eq_false_iff.mpr c7
    subst c7
    rw [if_neg Bool.false_ne_true] at H
    have H' := mkA H
    clear H
    obtain ⟨hcz12_0, hcz12_1, hcz12_2, hfz12_0, hfz12_1, hfz12_2⟩ := z3_ BK541.out
    go_wp2_with (first | ((with_reducible refine gk_ 16 ?_); refine gl_ (some 13) Try.func16 #[.agg #[.int .i64 a0_0, .int .i64 a0_1, .slice A0_2 l0_2.length c0_2]] ?_; (with_reducible refine (impl_ValidShape.calls k a0_0 a0_1 _ _ l0_2 false _ ?side1 ?side2 A6.out).mono ?_); (case side1 => exact cb_ HR0_2.out HB.out); (case side2 => exact HC0_2.out); rintro e w13 ⟨rfl, hb⟩; refine ⟨_, rfl, ?_⟩; replace BK541 := mkA (blk_below (bl_ BK541.out) hb); replace HB := mkA (below_step (bs1_ HB.out GE541.out) hb); (try clear hb); (try clear hb2); (try clear hk); (try clear hi)))
    go_meet
    case rel => exact ⟨_, (true), rf_, H', ⟨by first | omega | exact Nat.le_refl _⟩, ⟨bl_ BK541.out⟩, ⟨bs1_ HB.out GE541.out⟩⟩
  subst c7
  rw [if_pos rfl] at H
  revert H
  refine ob_ fun t543 A8 => ?_
  intro H
  have H' := mkA H
  clear H
  obtain ⟨hcz9_0, hcz9_1, hcz9_2, hfz9_0, hfz9_1, hfz9_2⟩ := z3_ BK541.out
  go_wp2_with (first | ((with_reducible refine gk_ 16 ?_); refine gl_ (some 13) Try.func16 #[.agg #[.int .i64 a0_0, .int .i64 a0_1, .slice A0_2 l0_2.length c0_2]] ?_; (with_reducible refine (impl_ValidShape.calls k a0_0 a0_1 _ _ l0_2 true _ ?side1 ?side2 A6.out).mono ?_); (case side1 => exact cb_ HR0_2.out HB.out); (case side2 => exact HC0_2.out); rintro e w10 ⟨rfl, hb⟩; refine ⟨_, rfl, ?_⟩; replace BK541 := mkA (blk_below (bl_ BK541.out) hb); replace HB := mkA (below_step (bs1_ HB.out GE541.out) hb); (try clear hb); (try clear hb2); (try clear hk); (try clear hi)) | (go_at_call 31; (with_reducible refine (impl_ValidPieces.calls k _ _ l1 t543 _ ?side1 ?side2 A8.out).mono ?_); (case side1 => exact cb_ HR1.out HB.out); (case side2 => exact HC1.out); rintro e w11 ⟨rfl, hb⟩; replace BK541 := mkA (blk_below (bl_ BK541.out) hb); replace HB := mkA (below_step (bs1_ HB.out GE541.out) hb); (try clear hb); (try clear hb2); (try clear hk); (try clear hi)))
  go_meet
  case rel => exact ⟨_, (!t543), rf_, H', ⟨by first | omega | exact Nat.le_refl _⟩, ⟨bl_ BK541.out⟩, ⟨bs1_ HB.out GE541.out⟩⟩
 case rest =>
  clear HC4
  try clear c7
  try clear hcz12_0 hcz12_1 hcz12_2 hcz9_0 hcz9_1 hcz9_2
  try clear hfz12_0 hfz12_1 hfz12_2 hfz9_0 hfz9_1 hfz9_2
  obtain ⟨kq, x19_3, rfl, HA, HJ3, BK541, HB⟩ := hcut
  cases kq with
  | zero => exact absurd HA.out (by simp [impl_FirstUncovered.j0])
  | succ kj3 =>
   have H := HA.out
   clear HA
   simp only [impl_FirstUncovered.j0] at H
   by_cases c14 : x19_3 = true
   · subst c14
     rw [if_pos rfl] at H
     simp only [Option.some.injEq, Prod.mk.injEq] at H
     obtain ⟨rfl, rfl⟩ := H
     go_wp2
     go_ret2
     exact ⟨re_, bs1_ HB.out GE541.out⟩
   · replace c14 := Bool.eq_false_iff.mpr c14
     subst c14
     rw [if_neg Bool.false_ne_true] at H
     revert H
     refine ob_ fun t_ A15 => ?_
     intro H
     obtain ⟨t544, t547⟩ := t_
     try dsimp only at H
     by_cases c16 : t547 = true
     rotate_left
     · replace c16 := Bool.eq_false_iff.mpr c16
       subst c16
       rw [if_neg Bool.false_ne_true] at H
       simp only [Option.some.injEq, Prod.mk.injEq] at H
       obtain ⟨rfl, rfl⟩ := H
       obtain ⟨hcz27_0, hcz27_1, hcz27_2, hfz27_0, hfz27_1, hfz27_2⟩ := z3_ BK541.out
       go_wp2_with (first | ((with_reducible refine gk_ 84 ?_); refine gl_ (some 24) Try.func84 #[.agg #[.int .i64 a0_0, .int .i64 a0_1, .slice A0_2 l0_2.length c0_2], .slice A1 l1.length c1, .slice A2 l2.length c2] ?_; (with_reducible refine (impl_coverCounts.calls kj3 a0_0 a0_1 _ _ l0_2 _ _ l1 _ _ l2 t544 false _ ?side1 ?side2 ?side3 ?side4 ?side5 ?side6 A15.out).mono ?_); (case side1 => exact cb_ HR0_2.out HB.out); (case side2 => exact HC0_2.out); (case side3 => exact cb_ HR1.out HB.out); (case side4 => exact HC1.out); (case side5 => exact cb_ HR2.out HB.out); (case side6 => exact HC2.out); rintro e w28 ⟨v545, rfl, ho0, hb⟩; refine ⟨_, rfl, ?_⟩; have HO546 := mkA (Kd.R_lower ho0 (below_size (bs1_ HB.out GE541.out))); replace BK541 := mkA (blk_below (bl_ BK541.out) hb); replace HB := mkA (below_step (bs1_ HB.out GE541.out) hb); (try clear hb); (try clear hb2); (try clear hk); (try clear hi); (try clear ho0)))
       go_ret2
       exact ⟨re_, bs1_ HB.out GE541.out⟩
     subst c16
     rw [if_pos rfl] at H
     have H' := mkA H
     clear H
     obtain ⟨hcz17_0, hcz17_1, hcz17_2, hfz17_0, hfz17_1, hfz17_2⟩ := z3_ BK541.out
     go_wp2_with (first | ((with_reducible refine gk_ 84 ?_); refine gl_ (some 24) Try.func84 #[.agg #[.int .i64 a0_0, .int .i64 a0_1, .slice A0_2 l0_2.length c0_2], .slice A1 l1.length c1, .slice A2 l2.length c2] ?_; (with_reducible refine (impl_coverCounts.calls kj3 a0_0 a0_1 _ _ l0_2 _ _ l1 _ _ l2 t544 true _ ?side1 ?side2 ?side3 ?side4 ?side5 ?side6 A15.out).mono ?_); (case side1 => exact cb_ HR0_2.out HB.out); (case side2 => exact HC0_2.out); (case side3 => exact cb_ HR1.out HB.out); (case side4 => exact HC1.out); (case side5 => exact cb_ HR2.out HB.out); (case side6 => exact HC2.out); rintro e w18 ⟨v545, rfl, ho0, hb⟩; refine ⟨_, rfl, ?_⟩; have HO546 := mkA (Kd.R_lower ho0 (below_size (bs1_ HB.out GE541.out))); replace BK541 := mkA (blk_below (bl_ BK541.out) hb); replace HB := mkA (below_step (bs1_ HB.out GE541.out) hb); (try clear hb); (try clear hb2); (try clear hk); (try clear hi); (try clear ho0); obtain ⟨Ao19, co19, eo19⟩ := Kd.R_slice HO546.out; subst eo19))
     go_loopg [31] kj3 (fun kq v31 w' => ∃ (x31_2 : Int), v31 = .int .i64 x31_2 ∧ Aside0 (impl_FirstUncovered.l0 kq t544 (t544.length : Int) x31_2 a0_0 a0_1 l0_2 = some (r1, r2)) ∧ Aside0 (kq ≤ kj3) ∧ Aside0 (Kd.R (Kd.int .i64) 2 w' w.heap.size (fun _ => True) (.slice Ao19 t544.length co19) t544) ∧ Aside0 (w'.heap[gb541]? = some (.cells #[.int .i64 a0_0, .int .i64 a0_1, (.slice A0_2 l0_2.length c0_2)] 27 (0, 0))) ∧ Aside0 (Below w.heap.size w w'))
     case atStart => exact ⟨(0), rf_, H', ⟨Nat.le_refl _⟩, ⟨r_ HO546.out⟩, ⟨bl_ BK541.out⟩, ⟨bs1_ HB.out GE541.out⟩⟩
     case round =>
      clear H'
      try clear c1 c2 c7 c14 c16
      try clear hcz12_0 hcz12_1 hcz12_2 hcz17_0 hcz17_1 hcz17_2 hcz9_0 hcz9_1 hcz9_2
      try clear hfz12_0 hfz12_1 hfz12_2 hfz17_0 hfz17_1 hfz17_2 hfz9_0 hfz9_1 hfz9_2
      obtain ⟨x31_2, rfl, HA, HK2, HO_29, BK541, HB⟩ := hrel
      cases gk with
      | zero => exact absurd HA.out (by simp [impl_FirstUncovered.l0])
      | succ k2 =>
       have H := HA.out
       clear HA
       simp only [impl_FirstUncovered.l0] at H
       by_cases c20 : x31_2 < (t544.length : Int)
       rotate_left
       · rw [if_neg c20] at H
         have c20b0 := decide_eq_false c20
         clear c20
         simp only [Option.some.injEq, Prod.mk.injEq] at H
         obtain ⟨rfl, rfl⟩ := H
         go_wp2
         go_ret2
         exact ⟨re_, bs1_ HB.out GE541.out⟩
       rw [if_pos c20] at H
       have c20b0 := decide_eq_true c20
       clear c20
       revert H
       refine ng_ fun c21 => ng_ fun c22 => ng_ fun c23 => ?_
       intro H
       have c21b0 := decide_eq_true c21
       clear c21
       have c22b0 := decide_eq_true c22
       clear c22
       have c23b0 := decide_eq_true c23
       clear c23
       by_cases c24 : (rd t544 x31_2) = (rd l0_2 x31_2)
       rotate_left
       · rw [if_neg c24] at H
         have c24b0 : ((rd t544 x31_2) == (rd l0_2 x31_2)) = false := beq_eq_false_iff_ne.mpr c24
         have c24b1 : ((rd t544 x31_2) != (rd l0_2 x31_2)) = true := bne_iff_ne.mpr c24
         simp only [Option.some.injEq, Prod.mk.injEq] at H
         obtain ⟨rfl, rfl⟩ := H
         obtain ⟨ad548, e548, hx548_0⟩ := Kd.at_int (Kd.R_reads' HO_29.out).2.2 x31_2 dt_ dt_
         cases e548
         have p548 : (0 ≤ (x31_2 : Int)) = True := eq_true dt_
         have q548 : (x31_2 < (t544.length : Int)) = True := eq_true dt_
         obtain ⟨hcz26_0, hcz26_1, hcz26_2, hfz26_0, hfz26_1, hfz26_2⟩ := z3_ BK541.out
         obtain ⟨ad549, e549, hx549_0⟩ := Kd.at_int HR0_2.out x31_2 dt_ dt_
         cases e549
         replace hx549_0 := bc_ HB.out hx549_0
         have p549 : (0 ≤ (x31_2 : Int)) = True := eq_true dt_
         have q549 : (x31_2 < (l0_2.length : Int)) = True := eq_true dt_
         go_wp2
         go_ret2
         exact ⟨re_, bs1_ HB.out GE541.out⟩
       rw [if_pos c24] at H
       have c24b0 : ((rd t544 x31_2) == (rd l0_2 x31_2)) = true := beq_iff_eq.mpr c24
       have c24b1 : ((rd t544 x31_2) != (rd l0_2 x31_2)) = false := bne_eq_false_iff_eq.mpr c24
       clear c24
       have H' := mkA H
       clear H
       obtain ⟨ad548, e548, hx548_0⟩ := Kd.at_int (Kd.R_reads' HO_29.out).2.2 x31_2 dt_ dt_
       cases e548
       have p548 : (0 ≤ (x31_2 : Int)) = True := eq_true dt_
       have q548 : (x31_2 < (t544.length : Int)) = True := eq_true dt_
       obtain ⟨hcz25_0, hcz25_1, hcz25_2, hfz25_0, hfz25_1, hfz25_2⟩ := z3_ BK541.out
       obtain ⟨ad549, e549, hx549_0⟩ := Kd.at_int HR0_2.out x31_2 dt_ dt_
       cases e549
       replace hx549_0 := bc_ HB.out hx549_0
       have p549 : (0 ≤ (x31_2 : Int)) = True := eq_true dt_
       have q549 : (x31_2 < (l0_2.length : Int)) = True := eq_true dt_
       go_wp2
       go_roundg k2
       case measure => have := HJ3.out; have := HK2.out; omega
       case rel => exact ⟨(wrap64 (x31_2 + 1)), rf_, H', ⟨on2_ HJ3.out HK2.out⟩, ⟨r_ HO_29.out⟩, ⟨bl_ BK541.out⟩, ⟨bs1_ HB.out GE541.out⟩⟩
/-! ### laws_eqLaid: function 85 -/
def laws_eqLaid.f (a0_0 : Int) (a0_1 : Int) (a0_2 : Int) (a0_3 : Int) (a1_0 : Int) (a1_1 : Int) (a1_2 : Int) (a1_3 : Int) : Option (Bool) := if a0_0 = a1_0 then (if a0_1 = a1_1 then (if a0_2 = a1_2 then (if a0_3 = a1_3 then (some true) else (some false)) else (some false)) else (some false)) else (some false)
set_option maxHeartbeats 8000000 in
set_option maxRecDepth 100000 in
theorem laws_eqLaid.calls (a0_0 : Int) (a0_1 : Int) (a0_2 : Int) (a0_3 : Int) (a1_0 : Int) (a1_1 : Int) (a1_2 : Int) (a1_3 : Int) (r : Bool) (w : World) (h : laws_eqLaid.f a0_0 a0_1 a0_2 a0_3 a1_0 a1_1 a1_2 a1_3 = some r) :
 Calls Try.prog 85 #[.agg #[.int .i64 a0_0, .int .i64 a0_1, .int .i64 a0_2, .int .i64 a0_3], .agg #[.int .i64 a1_0, .int .i64 a1_1, .int .i64 a1_2, .int .i64 a1_3]] w fun e w' => e = .returned (.bool r) ∧ Below w.heap.size w w' := by
 have hu109 := Try.underlying109
 have HB := mkA (Below.refl w.heap.size w)
 unfold laws_eqLaid.f at h
 have H := h
 clear h
 by_cases c3 : a0_0 = a1_0
 rotate_left
 · rw [if_neg c3] at H
   have c3b0 : (a0_0 == a1_0) = false := beq_eq_false_iff_ne.mpr c3
   have c3b1 : (a0_0 != a1_0) = true := bne_iff_ne.mpr c3
   obtain rfl := Option.some.inj H
   go_enter Try.func85, Try.ntmps85
   go_wp2_with (first | ((with_reducible refine gt_ 2 ?_); refine bx_ 2 #[.int .i64 a0_0, .int .i64 a0_1, .int .i64 a0_2, .int .i64 a0_3] 109 fun gb550 hg w27 hbox hb => ?_; have BK550 := mkA (hbox); have GW550 := gs_ hg (bs0_ HB.out); have GE550 := GW550; replace HB := mkA (below_step (bs0_ HB.out) hb); clear hb hbox hg) | ((with_reducible refine gt_ 3 ?_); refine bx_ 3 #[.int .i64 a1_0, .int .i64 a1_1, .int .i64 a1_2, .int .i64 a1_3] 109 fun gb551 hg w28 hbox hb => ?_; have BK551 := mkA (hbox); have GW551 := gs_ hg (bs1_ HB.out GE550.out); have GE551 := GW551; replace HB := mkA (below_step (bs1_ HB.out GE550.out) hb); have NB550_551 := nl_ hg (bl_ BK550.out); have NB551_550 := nr_ hg (bl_ BK550.out); replace BK550 := mkA (blk_below (bl_ BK550.out) hb); clear hb hbox hg; have hnb29 := NB550_551.out; have hnc29 := NB551_550.out; obtain ⟨hcz30_0, hcz30_1, hcz30_2, hcz30_3, hfz30_0, hfz30_1, hfz30_2, hfz30_3⟩ := z4_ BK550.out; obtain ⟨hcz31_0, hcz31_1, hcz31_2, hcz31_3, hfz31_0, hfz31_1, hfz31_2, hfz31_3⟩ := z4_ BK551.out))
   go_ret
   exact ⟨re_, bs2_ HB.out GE550.out GE551.out⟩
 rw [if_pos c3] at H
 have c3b0 : (a0_0 == a1_0) = true := beq_iff_eq.mpr c3
 have c3b1 : (a0_0 != a1_0) = false := bne_eq_false_iff_eq.mpr c3
 clear c3
 by_cases c4 : a0_1 = a1_1
 rotate_left
 · rw [if_neg c4] at H
   have c4b0 : (a0_1 == a1_1) = false := beq_eq_false_iff_ne.mpr c4
   have c4b1 : (a0_1 != a1_1) = true := bne_iff_ne.mpr c4
   obtain rfl := Option.some.inj H
   go_enter Try.func85, Try.ntmps85
   go_wp2_with (first | ((with_reducible refine gt_ 2 ?_); refine bx_ 2 #[.int .i64 a0_0, .int .i64 a0_1, .int .i64 a0_2, .int .i64 a0_3] 109 fun gb550 hg w22 hbox hb => ?_; have BK550 := mkA (hbox); have GW550 := gs_ hg (bs0_ HB.out); have GE550 := GW550; replace HB := mkA (below_step (bs0_ HB.out) hb); clear hb hbox hg) | ((with_reducible refine gt_ 3 ?_); refine bx_ 3 #[.int .i64 a1_0, .int .i64 a1_1, .int .i64 a1_2, .int .i64 a1_3] 109 fun gb551 hg w23 hbox hb => ?_; have BK551 := mkA (hbox); have GW551 := gs_ hg (bs1_ HB.out GE550.out); have GE551 := GW551; replace HB := mkA (below_step (bs1_ HB.out GE550.out) hb); have NB550_551 := nl_ hg (bl_ BK550.out); have NB551_550 := nr_ hg (bl_ BK550.out); replace BK550 := mkA (blk_below (bl_ BK550.out) hb); clear hb hbox hg; have hnb24 := NB550_551.out; have hnc24 := NB551_550.out; obtain ⟨hcz25_0, hcz25_1, hcz25_2, hcz25_3, hfz25_0, hfz25_1, hfz25_2, hfz25_3⟩ := z4_ BK550.out; obtain ⟨hcz26_0, hcz26_1, hcz26_2, hcz26_3, hfz26_0, hfz26_1, hfz26_2, hfz26_3⟩ := z4_ BK551.out))
   go_ret
   exact ⟨re_, bs2_ HB.out GE550.out GE551.out⟩
 rw [if_pos c4] at H
 have c4b0 : (a0_1 == a1_1) = true := beq_iff_eq.mpr c4
 have c4b1 : (a0_1 != a1_1) = false := bne_eq_false_iff_eq.mpr c4
 clear c4
 by_cases c5 : a0_2 = a1_2
 rotate_left
 · rw [if_neg c5] at H
   have c5b0 : (a0_2 == a1_2) = false := beq_eq_false_iff_ne.mpr c5
   have c5b1 : (a0_2 != a1_2) = true := bne_iff_ne.mpr c5
   obtain rfl := Option.some.inj H
   go_enter Try.func85, Try.ntmps85
   go_wp2_with (first | ((with_reducible refine gt_ 2 ?_); refine bx_ 2 #[.int .i64 a0_0, .int .i64 a0_1, .int .i64 a0_2, .int .i64 a0_3] 109 fun gb550 hg w17 hbox hb => ?_; have BK550 := mkA (hbox); have GW550 := gs_ hg (bs0_ HB.out); have GE550 := GW550; replace HB := mkA (below_step (bs0_ HB.out) hb); clear hb hbox hg) | ((with_reducible refine gt_ 3 ?_); refine bx_ 3 #[.int .i64 a1_0, .int .i64 a1_1, .int .i64 a1_2, .int .i64 a1_3] 109 fun gb551 hg w18 hbox hb => ?_; have BK551 := mkA (hbox); have GW551 := gs_ hg (bs1_ HB.out GE550.out); have GE551 := GW551; replace HB := mkA (below_step (bs1_ HB.out GE550.out) hb); have NB550_551 := nl_ hg (bl_ BK550.out); have NB551_550 := nr_ hg (bl_ BK550.out); replace BK550 := mkA (blk_below (bl_ BK550.out) hb); clear hb hbox hg; have hnb19 := NB550_551.out; have hnc19 := NB551_550.out; obtain ⟨hcz20_0, hcz20_1, hcz20_2, hcz20_3, hfz20_0, hfz20_1, hfz20_2, hfz20_3⟩ := z4_ BK550.out; obtain ⟨hcz21_0, hcz21_1, hcz21_2, hcz21_3, hfz21_0, hfz21_1, hfz21_2, hfz21_3⟩ := z4_ BK551.out))
   go_ret
   exact ⟨re_, bs2_ HB.out GE550.out GE551.out⟩
 rw [if_pos c5] at H
 have c5b0 : (a0_2 == a1_2) = true := beq_iff_eq.mpr c5
 have c5b1 : (a0_2 != a1_2) = false := bne_eq_false_iff_eq.mpr c5
 clear c5
 by_cases c6 : a0_3 = a1_3
 rotate_left
 · rw [if_neg c6] at H
   have c6b0 : (a0_3 == a1_3) = false := beq_eq_false_iff_ne.mpr c6
   have c6b1 : (a0_3 != a1_3) = true := bne_iff_ne.mpr c6
   obtain rfl := Option.some.inj H
   go_enter Try.func85, Try.ntmps85
   go_wp2_with (first | ((with_reducible refine gt_ 2 ?_); refine bx_ 2 #[.int .i64 a0_0, .int .i64 a0_1, .int .i64 a0_2, .int .i64 a0_3] 109 fun gb550 hg w12 hbox hb => ?_; have BK550 := mkA (hbox); have GW550 := gs_ hg (bs0_ HB.out); have GE550 := GW550; replace HB := mkA (below_step (bs0_ HB.out) hb); clear hb hbox hg) | ((with_reducible refine gt_ 3 ?_); refine bx_ 3 #[.int .i64 a1_0, .int .i64 a1_1, .int .i64 a1_2, .int .i64 a1_3] 109 fun gb551 hg w13 hbox hb => ?_; have BK551 := mkA (hbox); have GW551 := gs_ hg (bs1_ HB.out GE550.out); have GE551 := GW551; replace HB := mkA (below_step (bs1_ HB.out GE550.out) hb); have NB550_551 := nl_ hg (bl_ BK550.out); have NB551_550 := nr_ hg (bl_ BK550.out); replace BK550 := mkA (blk_below (bl_ BK550.out) hb); clear hb hbox hg; have hnb14 := NB550_551.out; have hnc14 := NB551_550.out; obtain ⟨hcz15_0, hcz15_1, hcz15_2, hcz15_3, hfz15_0, hfz15_1, hfz15_2, hfz15_3⟩ := z4_ BK550.out; obtain ⟨hcz16_0, hcz16_1, hcz16_2, hcz16_3, hfz16_0, hfz16_1, hfz16_2, hfz16_3⟩ := z4_ BK551.out))
   go_ret
   exact ⟨re_, bs2_ HB.out GE550.out GE551.out⟩
 rw [if_pos c6] at H
 have c6b0 : (a0_3 == a1_3) = true := beq_iff_eq.mpr c6
 have c6b1 : (a0_3 != a1_3) = false := bne_eq_false_iff_eq.mpr c6
 clear c6
 obtain rfl := Option.some.inj H
 go_enter Try.func85, Try.ntmps85
 go_wp2_with (first | ((with_reducible refine gt_ 2 ?_); refine bx_ 2 #[.int .i64 a0_0, .int .i64 a0_1, .int .i64 a0_2, .int .i64 a0_3] 109 fun gb550 hg w7 hbox hb => ?_; have BK550 := mkA (hbox); have GW550 := gs_ hg (bs0_ HB.out); have GE550 := GW550; replace HB := mkA (below_step (bs0_ HB.out) hb); clear hb hbox hg) | ((with_reducible refine gt_ 3 ?_); refine bx_ 3 #[.int .i64 a1_0, .int .i64 a1_1, .int .i64 a1_2, .int .i64 a1_3] 109 fun gb551 hg w8 hbox hb => ?_; have BK551 := mkA (hbox); have GW551 := gs_ hg (bs1_ HB.out GE550.out); have GE551 := GW551; replace HB := mkA (below_step (bs1_ HB.out GE550.out) hb); have NB550_551 := nl_ hg (bl_ BK550.out); have NB551_550 := nr_ hg (bl_ BK550.out); replace BK550 := mkA (blk_below (bl_ BK550.out) hb); clear hb hbox hg; have hnb9 := NB550_551.out; have hnc9 := NB551_550.out; obtain ⟨hcz10_0, hcz10_1, hcz10_2, hcz10_3, hfz10_0, hfz10_1, hfz10_2, hfz10_3⟩ := z4_ BK550.out; obtain ⟨hcz11_0, hcz11_1, hcz11_2, hcz11_3, hfz11_0, hfz11_1, hfz11_2, hfz11_3⟩ := z4_ BK551.out))
 go_ret
 exact ⟨re_, bs2_ HB.out GE550.out GE551.out⟩
/-! ### laws_eqLaidS: function 51 -/
def laws_eqLaidS.l0 : Nat → List (S109) → List (S109) → Int → Option (Bool)
  | 0, _, _, _ => none
  | k + 1, x0, x1, x5 => if x5 < (x0.length : Int) then (if 0 ≤ x5 then (if x5 < (x1.length : Int) then ((laws_eqLaid.f ((rd_T109 x0 x5).f0) ((rd_T109 x0 x5).f1) ((rd_T109 x0 x5).f2) ((rd_T109 x0 x5).f3) ((rd_T109 x1 x5).f0) ((rd_T109 x1 x5).f1) ((rd_T109 x1 x5).f2) ((rd_T109 x1 x5).f3)).bind fun t554 => (if t554 = true then (laws_eqLaidS.l0 k x0 x1 (wrap64 (x5 + 1))) else (some false))) else (none)) else (none)) else (some true)
def laws_eqLaidS.f (k : Nat) (l0 : List (S109)) (l1 : List (S109)) : Option (Bool) := if (l0.length : Int) = (l1.length : Int) then (laws_eqLaidS.l0 k l0 l1 0) else (some false)
def laws_eqLaidS.T6 : Bool × List (List Nat × List Nat) := (true, [([], []), ([], []), ([0, 1], [0, 1]), ([2], [2]), ([], []), ([], []), ([4, 5], [4, 5]), ([6], [6]), ([3, 7], [3, 7]), ([8], [8])])
def laws_eqLaidS.B6 : List Nat := [0, 0, 3, 7, 0, 0, 48, 112, 255, 511]
theorem laws_eqLaidS.tab6 : rtab .any (opsOf Try.f51 6) = laws_eqLaidS.T6 := by kernel_rfl
theorem laws_eqLaidS.bits6 : waitsOk laws_eqLaidS.T6.2 laws_eqLaidS.B6 = true := by kernel_rfl
set_option maxHeartbeats 8000000 in
set_option maxRecDepth 100000 in
theorem laws_eqLaidS.calls (k : Nat) (A0 : Option Addr) (c0 : Nat) (l0 : List (S109)) (A1 : Option Addr) (c1 : Nat) (l1 : List (S109)) (r : Bool) (w : World) (hr0 : Kd.C k109 w A0 l0.length l0) (hc0 : l0.length ≤ c0) (hr1 : Kd.C k109 w A1 l1.length l1) (hc1 : l1.length ≤ c1) (h : laws_eqLaidS.f k l0 l1 = some r) :
 Calls Try.prog 51 #[.slice A0 l0.length c0, .slice A1 l1.length c1] w fun e w' => e = .returned (.bool r) ∧ Below w.heap.size w w' := by
 have hu109 := Try.underlying109
 have HR0 := mkA hr0
 have HC0 := mkA hc0
 clear hr0 hc0
 have HR1 := mkA hr1
 have HC1 := mkA hc1
 clear hr1 hc1
 have HB := mkA (Below.refl w.heap.size w)
 unfold laws_eqLaidS.f at h
 have H := h
 clear h
 by_cases c3 : (l0.length : Int) = (l1.length : Int)
 rotate_left
 · rw [if_neg c3] at H
   have c3b0 : ((l0.length : Int) == (l1.length : Int)) = false := beq_eq_false_iff_ne.mpr c3
   have c3b1 : ((l0.length : Int) != (l1.length : Int)) = true := bne_iff_ne.mpr c3
   have c3b2 : (l0.length == l1.length) = false := by first | simpa using c3 | (simp at c3 ⊢; omega)
   obtain rfl := Option.some.inj H
   go_enter Try.func51, Try.ntmps51
   go_wp2
   go_ret
   exact ⟨re_, bs0_ HB.out⟩
 rw [if_pos c3] at H
 have c3b0 : ((l0.length : Int) == (l1.length : Int)) = true := beq_iff_eq.mpr c3
 have c3b1 : ((l0.length : Int) != (l1.length : Int)) = false := bne_eq_false_iff_eq.mpr c3
 have c3b2 : (l0.length == l1.length) = true := by first | simpa using c3 | (simp at c3 ⊢; omega)
 clear c3
 have H' := mkA H
 clear H
 go_enter Try.func51, Try.ntmps51
 go_wp2
 go_loopg [5] k (fun kq v5 w' => ∃ (x5_1 : Int), v5 = .int .i64 x5_1 ∧ Aside0 (laws_eqLaidS.l0 kq l0 l1 x5_1 = some r) ∧ Aside0 (kq ≤ k) ∧ Aside0 (Below w.heap.size w w'))
 case atStart => exact ⟨(0), rf_, H', ⟨Nat.le_refl _⟩, ⟨bs0_ HB.out⟩⟩
 case round =>
  clear H'
  try clear c3 c3b0 c3b1 c3b2
  obtain ⟨x5_1, rfl, HA, HK1, HB⟩ := hrel
  cases gk with
  | zero => exact absurd HA.out (by simp [laws_eqLaidS.l0])
  | succ k1 =>
   have H := HA.out
   clear HA
   simp only [laws_eqLaidS.l0] at H
   by_cases c4 : x5_1 < (l0.length : Int)
   rotate_left
   · rw [if_neg c4] at H
     have c4b0 := decide_eq_false c4
     clear c4
     obtain rfl := Option.some.inj H
     go_wp2
     go_ret
     exact ⟨re_, bs0_ HB.out⟩
   rw [if_pos c4] at H
   have c4b0 := decide_eq_true c4
   clear c4
   revert H
   refine ng_ fun c5 => ng_ fun c6 => ob_ fun t554 A7 => ?_
   intro H
   have c5b0 := decide_eq_true c5
   clear c5
   have c6b0 := decide_eq_true c6
   clear c6
   by_cases c8 : t554 = true
   rotate_left
   · replace c8 := Bool.eq_false_iff.mpr c8
     subst c8
     rw [if_neg Bool.false_ne_true] at H
     obtain rfl := Option.some.inj H
     try go_wp2
     replace HB := mkA (below_drew1 HB.out)
     obtain ⟨ad552, e552, hw552_0, hw552_1, hw552_2, hw552_3⟩ := at_T109 HR0.out x5_1 dt_ dt_
     cases e552
     obtain ⟨hx552_0, hx552_1, hx552_2, hx552_3⟩ := b4_ HB.out hw552_0 hw552_1 hw552_2 hw552_3
     have p552 : (0 ≤ (x5_1 : Int)) = True := eq_true dt_
     have q552 : (x5_1 < (l0.length : Int)) = True := eq_true dt_
     obtain ⟨ad553, e553, hw553_0, hw553_1, hw553_2, hw553_3⟩ := at_T109 HR1.out x5_1 dt_ dt_
     cases e553
     obtain ⟨hx553_0, hx553_1, hx553_2, hx553_3⟩ := b4_ HB.out hw553_0 hw553_1 hw553_2 hw553_3
     have p553 : (0 ≤ (x5_1 : Int)) = True := eq_true dt_
     have q553 : (x5_1 < (l1.length : Int)) = True := eq_true dt_
     refine st_ 10 (fun w' => C_ hw552_0 w' ∧ C_ hw552_1 w' ∧ C_ hw552_2 w' ∧ C_ hw552_3 w' ∧ C_ hw553_0 w' ∧ C_ hw553_1 w' ∧ C_ hw553_2 w' ∧ C_ hw553_3 w') [] laws_eqLaidS.tab6 laws_eqLaidS.bits6 sp_ fun hHeld HT_ HW_ => ?_
     generalize wr.drew = w11 at HB hx552_0 hx552_1 hx552_2 hx552_3 hx553_0 hx553_1 hx553_2 hx553_3 hHeld ⊢
     refine a1_ 0 17 (h := a1_ 1 18 (h := a1_ 2 19 (h := a1_ 4 21 (h := a1_ 5 22 (h := a1_ 6 23 (h := tk_ 3 20 (h := tk_ 7 24 (h := ?_))))))))
     refine on_ 8 25 fun K hK => ?_
     refine go_ Try.func85 #[.agg #[.int .i64 ((rd_T109 l0 x5_1).f0), .int .i64 ((rd_T109 l0 x5_1).f1), .int .i64 ((rd_T109 l0 x5_1).f2), .int .i64 ((rd_T109 l0 x5_1).f3)], .agg #[.int .i64 ((rd_T109 l1 x5_1).f0), .int .i64 ((rd_T109 l1 x5_1).f1), .int .i64 ((rd_T109 l1 x5_1).f2), .int .i64 ((rd_T109 l1 x5_1).f3)]] ?_
     with_reducible refine (laws_eqLaid.calls ((rd_T109 l0 x5_1).f0) ((rd_T109 l0 x5_1).f1) ((rd_T109 l0 x5_1).f2) ((rd_T109 l0 x5_1).f3) ((rd_T109 l1 x5_1).f0) ((rd_T109 l1 x5_1).f1) ((rd_T109 l1 x5_1).f2) ((rd_T109 l1 x5_1).f3) false _ A7.out).mono ?_
     rintro e w12 ⟨rfl, hb⟩
     refine ⟨_, rfl, ?_⟩
     replace HB := mkA (below_step (bs0_ HB.out) hb)
     (try clear hb)
     (try clear hb2)
     (try clear hk)
     (try clear hi)
     refine hK.out _ _ sp_ fun hHeld => ?_
     clear hK K
     refine nm_ 25 ?_
     refine a1_ 9 26 (h := ?_)
     refine dn_ ?_
     try go_wp2
     go_ret
     exact ⟨re_, bs0_ HB.out⟩
   subst c8
   rw [if_pos rfl] at H
   have H' := mkA H
   clear H
   try go_wp2
   replace HB := mkA (below_drew1 HB.out)
   obtain ⟨ad552, e552, hw552_0, hw552_1, hw552_2, hw552_3⟩ := at_T109 HR0.out x5_1 dt_ dt_
   cases e552
   obtain ⟨hx552_0, hx552_1, hx552_2, hx552_3⟩ := b4_ HB.out hw552_0 hw552_1 hw552_2 hw552_3
   have p552 : (0 ≤ (x5_1 : Int)) = True := eq_true dt_
   have q552 : (x5_1 < (l0.length : Int)) = True := eq_true dt_
   obtain ⟨ad553, e553, hw553_0, hw553_1, hw553_2, hw553_3⟩ := at_T109 HR1.out x5_1 dt_ dt_
   cases e553
   obtain ⟨hx553_0, hx553_1, hx553_2, hx553_3⟩ := b4_ HB.out hw553_0 hw553_1 hw553_2 hw553_3
   have p553 : (0 ≤ (x5_1 : Int)) = True := eq_true dt_
   have q553 : (x5_1 < (l1.length : Int)) = True := eq_true dt_
   refine st_ 10 (fun w' => C_ hw552_0 w' ∧ C_ hw552_1 w' ∧ C_ hw552_2 w' ∧ C_ hw552_3 w' ∧ C_ hw553_0 w' ∧ C_ hw553_1 w' ∧ C_ hw553_2 w' ∧ C_ hw553_3 w') [] laws_eqLaidS.tab6 laws_eqLaidS.bits6 sp_ fun hHeld HT_ HW_ => ?_
   generalize wr.drew = w9 at HB hx552_0 hx552_1 hx552_2 hx552_3 hx553_0 hx553_1 hx553_2 hx553_3 hHeld ⊢
   refine a1_ 0 17 (h := a1_ 1 18 (h := a1_ 2 19 (h := a1_ 4 21 (h := a1_ 5 22 (h := a1_ 6 23 (h := tk_ 3 20 (h := tk_ 7 24 (h := ?_))))))))
   refine on_ 8 25 fun K hK => ?_
   refine go_ Try.func85 #[.agg #[.int .i64 ((rd_T109 l0 x5_1).f0), .int .i64 ((rd_T109 l0 x5_1).f1), .int .i64 ((rd_T109 l0 x5_1).f2), .int .i64 ((rd_T109 l0 x5_1).f3)], .agg #[.int .i64 ((rd_T109 l1 x5_1).f0), .int .i64 ((rd_T109 l1 x5_1).f1), .int .i64 ((rd_T109 l1 x5_1).f2), .int .i64 ((rd_T109 l1 x5_1).f3)]] ?_
   with_reducible refine (laws_eqLaid.calls ((rd_T109 l0 x5_1).f0) ((rd_T109 l0 x5_1).f1) ((rd_T109 l0 x5_1).f2) ((rd_T109 l0 x5_1).f3) ((rd_T109 l1 x5_1).f0) ((rd_T109 l1 x5_1).f1) ((rd_T109 l1 x5_1).f2) ((rd_T109 l1 x5_1).f3) true _ A7.out).mono ?_
   rintro e w10 ⟨rfl, hb⟩
   refine ⟨_, rfl, ?_⟩
   replace HB := mkA (below_step (bs0_ HB.out) hb)
   (try clear hb)
   (try clear hb2)
   (try clear hk)
   (try clear hi)
   refine hK.out _ _ sp_ fun hHeld => ?_
   clear hK K
   refine nm_ 25 ?_
   refine a1_ 9 26 (h := ?_)
   refine dn_ ?_
   try go_wp2
   go_roundg k1
   case measure => have := HK1.out; omega
   case rel => exact ⟨(wrap64 (x5_1 + 1)), rf_, H', ⟨om_ HK1.out⟩, ⟨bs0_ HB.out⟩⟩
end Go.Proofs.Ytakagkflgkoiiaa.GFnExactFirstUncovered

-- Written by the session's own program (gen.py) out of the translation's print. Lean checks it.
import Derived.Test.YtakagkflgkoiiaaQ
import Derived.Test.YtakagkflgkoiiaaGFnExactIsCoverx0
import Derived.Test.YtakagkflgkoiiaaGFnExactIsCoverx16
namespace Go.Proofs.Ytakagkflgkoiiaa.GFnExactIsCover
open Go.RowKit Go.Proofs.YtakagkflgkoiiaaW.PrintWords Go.Proofs.YtakagkflgkoiiaaW.PrintLast Go.Proofs.YtakagkflgkoiiaaW.PrintMore
open List renaming setIfInBounds_toArray → sA, set_cons_zero → sB, set_cons_succ → sC
open Go.Proofs.YtakagkflgkoiiaaW.PrintWords.Aside0 renaming mk → mkA
open Go.Proofs.YtakagkflgkoiiaaX (dt_ bc_ p0_ p1_ bl_ cb_ bs0_ bs1_ bs2_ bs3_ bs4_ bs5_ bs6_ bs7_ bs8_ bs9_ bs10_ bs11_ bs12_)
open Go.Proofs.YtakagkflgkoiiaaQ
attribute [local go_sem] max2_int min2_int max_two min_two max_three min_three max_four min_four 
set_option linter.unusedVariables false
set_option linter.unusedSimpArgs false

/-! ### impl_Turned: function 101 -/
mutual
def impl_Turned.j0 : Nat → Int → Bool → Int → Int → Option (Int × Int)
  | 0, _, _, _, _ => none
  | k + 1, x1, x20, x440000, x440001 => if x20 = true then (some (0, 0)) else (if x1 > 3 then (impl_Turned.j1 k x1 (wrap64 (-x440000)) x440001) else (impl_Turned.j1 k x1 x440000 x440001))
def impl_Turned.j1 : Nat → Int → Int → Int → Option (Int × Int)
  | 0, _, _, _ => none
  | k + 1, x1, x440000, x440001 => impl_Turned.l0 k (Int.tmod x1 4) x440000 x440001
def impl_Turned.l0 : Nat → Int → Int → Int → Option (Int × Int)
  | 0, _, _, _ => none
  | k + 1, x5, x440000, x440001 => if x5 > 0 then (impl_Turned.l0 k (wrap64 (x5 - 1)) (wrap64 (-x440001)) x440000) else (some (x440000, x440001))
end
def impl_Turned.f (k : Nat) (a0_0 : Int) (a0_1 : Int) (a1 : Int) : Option (Int × Int) := (impl_within.f a1 0 7).bind fun t441 => (if t441 = true then ((impl_within.f a0_0 (-20000) 20000).bind fun t442 => (if t442 = true then ((impl_within.f a0_1 (-20000) 20000).bind fun t443 => (impl_Turned.j0 k a1 (!t443) a0_0 a0_1)) else (impl_Turned.j0 k a1 true a0_0 a0_1))) else (impl_Turned.j0 k a1 true a0_0 a0_1))
set_option maxHeartbeats 8000000 in
set_option maxRecDepth 100000 in
theorem impl_Turned.calls (k : Nat) (a0_0 : Int) (a0_1 : Int) (a1 : Int) (r1 : Int) (r2 : Int) (w : World) (h : impl_Turned.f k a0_0 a0_1 a1 = some (r1, r2)) :
 Calls Try.prog 101 #[.agg #[.int .i64 a0_0, .int .i64 a0_1], .int .i64 a1] w fun e w' => e = .returned (.agg #[.int .i64 r1, .int .i64 r2]) ∧ Below w.heap.size w w' := by
 have hu105 := Try.underlying105
 have HB := mkA (Below.refl w.heap.size w)
 unfold impl_Turned.f at h
 have H := h
 clear h
 have HC3 := mkA H
 clear H
 go_enter Try.func101, Try.ntmps101
 go_upto_region 1 with (first | ((with_reducible refine gt_ 2 ?_); refine bx_ 2 #[.int .i64 a0_0, .int .i64 a0_1] 105 fun gb439 hg w4 hbox hb => ?_; have BK439 := mkA (hbox); have GW439 := gs_ hg (bs0_ HB.out); have GE439 := GW439; replace HB := mkA (below_step (bs0_ HB.out) hb); clear hb hbox hg) | ((with_reducible refine gt_ 4 ?_); refine bx_ 4 #[.int .i64 0, .int .i64 0] 105 fun gb440 hg w5 hbox hb => ?_; have BK440 := mkA (hbox); have GW440 := gs_ hg (bs1_ HB.out GE439.out); have GE440 := GW440; replace HB := mkA (below_step (bs1_ HB.out GE439.out) hb); have NB439_440 := nl_ hg (bl_ BK439.out); have NB440_439 := nr_ hg (bl_ BK439.out); replace BK439 := mkA (blk_below (bl_ BK439.out) hb); clear hb hbox hg))
 (try simp only [Act.put, sA, sB, sC])
 go_cut [20] (fun v20 wc => ∃ (kq : Nat) (x20_2 : Bool), v20 = .bool x20_2 ∧ Aside0 (impl_Turned.j0 kq a1 x20_2 a0_0 a0_1 = some (r1, r2)) ∧ Aside0 (kq ≤ k) ∧ Aside0 (wc.heap[gb439]? = some (.cells #[.int .i64 a0_0, .int .i64 a0_1] 105 (0, 0))) ∧ Aside0 (wc.heap[gb440]? = some (.cells #[.int .i64 0, .int .i64 0] 105 (0, 0))) ∧ Aside0 (Below w.heap.size w wc))
 case first =>
  have H := HC3.out
  clear HC3
  revert H
  refine ob_ fun t441 A6 => ?_
  intro H
  by_cases c7 : t441 = true
  rotate_left
  · replace c7 := Bool.eq_false_iff.mpr c7
    subst c7
    rw [if_neg Bool.false_ne_true] at H
    have H' := mkA H
    clear H
    go_wp2_with (first | ((with_reducible refine gk_ 57 ?_); refine gl_ (some 7) Try.func57 #[.int .i64 a1, .int .i64 0, .int .i64 7] ?_; (with_reducible refine (impl_within.calls a1 0 7 false _ A6.out).mono ?_); rintro e w' ⟨rfl, ⟨nd, rfl⟩⟩; refine ⟨_, rfl, ?_⟩))
    go_meet
    case rel => exact ⟨_, (true), rf_, H', ⟨by first | omega | exact Nat.le_refl _⟩, ⟨bl_ BK439.out⟩, ⟨bl_ BK440.out⟩, ⟨bs2_ HB.out GE439.out GE440.out⟩⟩
  subst c7
  rw [if_pos rfl] at H
  revert H
  refine ob_ fun t442 A8 => ?_
  intro H
  by_cases c9 : t442 = true
  rotate_left
  · replace c9 := Bool.eq_false_iff.mpr c9
    subst c9
    rw [if_neg Bool.false_ne_true] at H
    have H' := mkA H
    clear H
    go_wp2_with (first | ((with_reducible refine gk_ 57 ?_); refine gl_ (some 7) Try.func57 #[.int .i64 a1, .int .i64 0, .int .i64 7] ?_; (with_reducible refine (impl_within.calls a1 0 7 true _ A6.out).mono ?_); rintro e w' ⟨rfl, ⟨nd, rfl⟩⟩; refine ⟨_, rfl, ?_⟩; have hnb13 := NB439_440.out; have hnc13 := NB440_439.out; obtain ⟨hcz14_0, hcz14_1, hfz14_0, hfz14_1⟩ := z2_ BK439.out) | (go_at_call 57; (with_reducible refine (impl_within.calls a0_0 (-20000) 20000 false _ A8.out).mono ?_); rintro e w' ⟨rfl, ⟨nd, rfl⟩⟩))
    go_meet
    case rel => exact ⟨_, (true), rf_, H', ⟨by first | omega | exact Nat.le_refl _⟩, ⟨bl_ BK439.out⟩, ⟨bl_ BK440.out⟩, ⟨bs2_ HB.out GE439.out GE440.out⟩⟩
  subst c9
  rw [if_pos rfl] at H
  revert H
  refine ob_ fun t443 A10 => ?_
  intro H
  have H' := mkA H
  clear H
  go_wp2_with (first | ((with_reducible refine gk_ 57 ?_); refine gl_ (some 7) Try.func57 #[.int .i64 a1, .int .i64 0, .int .i64 7] ?_; (with_reducible refine (impl_within.calls a1 0 7 true _ A6.out).mono ?_); rintro e w' ⟨rfl, ⟨nd, rfl⟩⟩; refine ⟨_, rfl, ?_⟩; have hnb11 := NB439_440.out; have hnc11 := NB440_439.out; obtain ⟨hcz12_0, hcz12_1, hfz12_0, hfz12_1⟩ := z2_ BK439.out) | (go_at_call 57; (with_reducible refine (impl_within.calls a0_0 (-20000) 20000 true _ A8.out).mono ?_); rintro e w' ⟨rfl, ⟨nd, rfl⟩⟩) | (go_at_call 57; (with_reducible refine (impl_within.calls a0_1 (-20000) 20000 t443 _ A10.out).mono ?_); rintro e w' ⟨rfl, ⟨nd, rfl⟩⟩))
  go_meet
  case rel => exact ⟨_, (!t443), rf_, H', ⟨by first | omega | exact Nat.le_refl _⟩, ⟨bl_ BK439.out⟩, ⟨bl_ BK440.out⟩, ⟨bs2_ HB.out GE439.out GE440.out⟩⟩
 case rest =>
  clear HC3
  try clear c7 c9
  try clear hcz12_0 hcz12_1 hcz14_0 hcz14_1
  try clear hfz12_0 hfz12_1 hfz14_0 hfz14_1
  obtain ⟨kq, x20_2, rfl, HA, HJ2, BK439, BK440, HB⟩ := hcut
  cases kq with
  | zero => exact absurd HA.out (by simp [impl_Turned.j0])
  | succ kj2 =>
   have H := HA.out
   clear HA
   simp only [impl_Turned.j0] at H
   by_cases c15 : x20_2 = true
   · subst c15
     rw [if_pos rfl] at H
     simp only [Option.some.injEq, Prod.mk.injEq] at H
     obtain ⟨rfl, rfl⟩ := H
     have hnb16 := NB440_439.out
     have hnc16 := NB439_440.out
     obtain ⟨hcz17_0, hcz17_1, hfz17_0, hfz17_1⟩ := z2_ BK440.out
     go_wp2
     refine bodyPost_ret (results_cell_row rfl _ _ gb440 105 #[.int .i64 0, .int .i64 0] (0, 0) _ rfl (by refine bl_ ?_; refine blk_put (cs := #[.int .i64 0, .int .i64 0]) ?_ 1 _ rfl; refine bl_ ?_; refine blk_put (cs := #[.int .i64 0, .int .i64 0]) ?_ 0 _ rfl; refine bl_ ?_; exact BK440.out) Try.underlying105 rfl (by kernel_rfl)) rfl ?_
     exact ⟨re_, bs2_ HB.out GE439.out GE440.out⟩
   · replace c15 := Bool.eq_false_iff.mpr c15
     subst c15
     rw [if_neg Bool.false_ne_true] at H
     have HC18 := mkA H
     clear H
     go_upto_if 23 with (fail)
     go_cut [] (fun wc => ∃ (kq : Nat) (x440000_17 : Int), Aside0 (impl_Turned.j1 kq a1 x440000_17 a0_1 = some (r1, r2)) ∧ Aside0 (kq ≤ kj2) ∧ Aside0 (wc.heap[gb439]? = some (.cells #[.int .i64 x440000_17, .int .i64 a0_1] 105 (0, 0))) ∧ Aside0 (wc.heap[gb440]? = some (.cells #[.int .i64 0, .int .i64 0] 105 (0, 0))) ∧ Aside0 (Below w.heap.size w wc))
     case first =>
      have H := HC18.out
      clear HC18
      by_cases c19 : a1 > 3
      rotate_left
      · rw [if_neg c19] at H
        have c19b0 := decide_eq_false c19
        clear c19
        (first | rw [c19b0] | (simp only [i64_w, i32_w]; rw [c19b0]) | skip)
        have H' := mkA H
        clear H
        go_wp2
        go_meet
        case rel => exact ⟨_, (a0_0), H', ⟨om_ HJ2.out⟩, ⟨bl_ BK439.out⟩, ⟨bl_ BK440.out⟩, ⟨bs2_ HB.out GE439.out GE440.out⟩⟩
      rw [if_pos c19] at H
      have c19b0 := decide_eq_true c19
      clear c19
      (first | rw [c19b0] | (simp only [i64_w, i32_w]; rw [c19b0]) | skip)
      have H' := mkA H
      clear H
      have hnb20 := NB439_440.out
      have hnc20 := NB440_439.out
      obtain ⟨hcz21_0, hcz21_1, hfz21_0, hfz21_1⟩ := z2_ BK439.out
      go_wp2
      go_meet
      case rel => exact ⟨_, (wrap64 (-a0_0)), H', ⟨om_ HJ2.out⟩, ⟨by refine bl_ ?_; refine blk_put (cs := #[.int .i64 a0_0, .int .i64 a0_1]) ?_ 0 _ rfl; refine bl_ ?_; exact BK439.out⟩, ⟨by refine bl_ ?_; refine blk_far ?_ NB440_439.out _; refine bl_ ?_; exact BK440.out⟩, ⟨bs2_ HB.out GE439.out GE440.out⟩⟩
     case rest =>
      clear HC18
      try clear c7 c9 c15 c19 c19b0
      try clear hcz12_0 hcz12_1 hcz14_0 hcz14_1 hcz17_0 hcz17_1 hcz21_0 hcz21_1
      try clear hfz12_0 hfz12_1 hfz14_0 hfz14_1 hfz17_0 hfz17_1 hfz21_0 hfz21_1
      obtain ⟨kq, x440000_17, HA, HJ17, BK439, BK440, HB⟩ := hcut
      cases kq with
      | zero => exact absurd HA.out (by simp [impl_Turned.j1])
      | succ kj17 =>
       have H := HA.out
       clear HA
       simp only [impl_Turned.j1] at H
       have H' := mkA H
       clear H
       go_wp2
       go_loopg [5] kj17 (fun kq v5 w' => ∃ (x5_3 : Int) (x440000_3 : Int) (x440001_3 : Int), v5 = .int .i64 x5_3 ∧ Aside0 (impl_Turned.l0 kq x5_3 x440000_3 x440001_3 = some (r1, r2)) ∧ Aside0 (kq ≤ kj17) ∧ Aside0 (w'.heap[gb439]? = some (.cells #[.int .i64 x440000_3, .int .i64 x440001_3] 105 (0, 0))) ∧ Aside0 (w'.heap[gb440]? = some (.cells #[.int .i64 0, .int .i64 0] 105 (0, 0))) ∧ Aside0 (Below w.heap.size w w'))
       case atStart => exact ⟨(Int.tmod a1 4), (x440000_17), (a0_1), rf_, H', ⟨Nat.le_refl _⟩, ⟨bl_ BK439.out⟩, ⟨bl_ BK440.out⟩, ⟨bs2_ HB.out GE439.out GE440.out⟩⟩
       case round =>
        clear H'
        try clear c7 c9 c15 c19 c19b0
        try clear hcz12_0 hcz12_1 hcz14_0 hcz14_1 hcz17_0 hcz17_1 hcz21_0 hcz21_1
        try clear hfz12_0 hfz12_1 hfz14_0 hfz14_1 hfz17_0 hfz17_1 hfz21_0 hfz21_1
        obtain ⟨x5_3, x440000_3, x440001_3, rfl, HA, HK3, BK439, BK440, HB⟩ := hrel
        cases gk with
        | zero => exact absurd HA.out (by simp [impl_Turned.l0])
        | succ k3 =>
         have H := HA.out
         clear HA
         simp only [impl_Turned.l0] at H
         by_cases c22 : x5_3 > 0
         · rw [if_pos c22] at H
           have c22b0 := decide_eq_true c22
           clear c22
           have H' := mkA H
           clear H
           have hnb23 := NB439_440.out
           have hnc23 := NB440_439.out
           obtain ⟨hcz24_0, hcz24_1, hfz24_0, hfz24_1⟩ := z2_ BK439.out
           go_wp2
           go_roundg k3
           case measure => have := HJ2.out; have := HJ17.out; have := HK3.out; omega
           case rel => exact ⟨(wrap64 (x5_3 - 1)), (wrap64 (-x440001_3)), (x440000_3), rf_, H', ⟨on3_ HJ2.out HJ17.out HK3.out⟩, ⟨by refine bl_ ?_; refine blk_put (cs := #[.int .i64 (wrap64 (-x440001_3)), .int .i64 x440001_3]) ?_ 1 _ rfl; refine bl_ ?_; refine blk_put (cs := #[.int .i64 x440000_3, .int .i64 x440001_3]) ?_ 0 _ rfl; refine bl_ ?_; exact BK439.out⟩, ⟨by refine bl_ ?_; refine blk_far ?_ NB440_439.out _; refine bl_ ?_; refine blk_far ?_ NB440_439.out _; refine bl_ ?_; exact BK440.out⟩, ⟨bs2_ HB.out GE439.out GE440.out⟩⟩
         · rw [if_neg c22] at H
           have c22b0 := decide_eq_false c22
           clear c22
           simp only [Option.some.injEq, Prod.mk.injEq] at H
           obtain ⟨rfl, rfl⟩ := H
           have hnb25 := NB439_440.out
           have hnc25 := NB440_439.out
           obtain ⟨hcz26_0, hcz26_1, hfz26_0, hfz26_1⟩ := z2_ BK439.out
           obtain ⟨hcz27_0, hcz27_1, hfz27_0, hfz27_1⟩ := z2_ BK440.out
           go_wp2
           refine bodyPost_ret (results_cell_row rfl _ _ gb440 105 #[.int .i64 x440000_3, .int .i64 x440001_3] (0, 0) _ rfl (by refine bl_ ?_; refine blk_put (cs := #[.int .i64 x440000_3, .int .i64 0]) ?_ 1 _ rfl; refine bl_ ?_; refine blk_put (cs := #[.int .i64 0, .int .i64 0]) ?_ 0 _ rfl; refine bl_ ?_; exact BK440.out) Try.underlying105 rfl (by kernel_rfl)) rfl ?_
           exact ⟨re_, bs2_ HB.out GE439.out GE440.out⟩
-- NOT PRINTED: function 115 (impl_Point_115)

-- NOT PRINTED: function 125 (impl_Point_125)

-- NOT PRINTED: function 116 (impl_Point_116)

-- NOT PRINTED: function 126 (slices_nextPowerOfTwo)

-- NOT PRINTED: function 127 (slices_xorshift_Next)

-- NOT PRINTED: function 117 (impl_Point_117)

-- NOT PRINTED: function 130 (impl_Point_130)

-- NOT PRINTED: function 129 (impl_Point_129)

-- NOT PRINTED: function 128 (impl_Point_128)

-- NOT PRINTED: function 118 (impl_Point_118)

-- NOT PRINTED: function 119 (impl_Point_119)

-- NOT PRINTED: function 120 (impl_Point_120)

-- NOT PRINTED: function 121 (impl_Point_121)

-- NOT PRINTED: function 122 (impl_Point_122)

-- NOT PRINTED: function 112 (impl_Point_112)

-- NOT PRINTED: function 102 (impl_Point_102)

end Go.Proofs.Ytakagkflgkoiiaa.GFnExactIsCover

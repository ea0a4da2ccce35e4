-- Written by the session's own program (gen.py) out of the translation's print. Lean checks it.
import Derived.Test.YtakagkflgkoiiaaQ
import Derived.Test.YtakagkflgkoiiaaGFnExactIsCoverx0
import Derived.Test.YtakagkflgkoiiaaGFnExactIsCoverx1
import Derived.Test.YtakagkflgkoiiaaGFnExactIsCoverx16
import Derived.Test.YtakagkflgkoiiaaGFnExactIsCoverx17
namespace Go.Proofs.Ytakagkflgkoiiaa.GFnExactIsCover
open Go.RowKit Go.Proofs.YtakagkflgkoiiaaW.PrintWords Go.Proofs.YtakagkflgkoiiaaW.PrintLast Go.Proofs.YtakagkflgkoiiaaW.PrintMore
open List renaming setIfInBounds_toArray → sA, set_cons_zero → sB, set_cons_succ → sC
open Go.Proofs.YtakagkflgkoiiaaW.PrintWords.Aside0 renaming mk → mkA
open Go.Proofs.YtakagkflgkoiiaaX (dt_ bc_ p0_ p1_ bl_ cb_ bs0_ bs1_ bs2_ bs3_ bs4_ bs5_ bs6_ bs7_ bs8_ bs9_ bs10_ bs11_ bs12_)
open Go.Proofs.YtakagkflgkoiiaaQ
attribute [local go_sem] max2_int min2_int max_two min_two max_three min_three max_four min_four 
set_option linter.unusedVariables false
set_option linter.unusedSimpArgs false

attribute [local go_sem high] eqA105
/-! ### impl_validPiece: function 70 -/
mutual
def impl_validPiece.j0 : Nat → Bool → ByteArray → List (S105) → Int → Bool → Option (Bool)
  | 0, _, _, _, _, _ => none
  | k + 1, x23, x412000, x412001, x412002, x412003 => if x23 = true then (some false) else (impl_validPiece.l0 k x412001 (x412001.length : Int) 0 x412000 x412001 x412002 x412003)
def impl_validPiece.l0 : Nat → List (S105) → Int → Int → ByteArray → List (S105) → Int → Bool → Option (Bool)
  | 0, _, _, _, _, _, _, _ => none
  | k + 1, x25, x26, x27, x412000, x412001, x412002, x412003 => if x27 < x26 then (if 0 ≤ x27 then (if x27 < (x25.length : Int) then ((impl_within.f ((rd_T105 x25 x27).f0) 0 5).bind fun t423 => (if t423 = true then ((impl_within.f ((rd_T105 x25 x27).f1) 0 5).bind fun t424 => (if t424 = true then (if x27 > 0 then (if 0 ≤ (wrap64 (x27 - 1)) then (if (wrap64 (x27 - 1)) < (x412001.length : Int) then ((impl_compareCells.f ((rd_T105 x412001 (wrap64 (x27 - 1))).f0) ((rd_T105 x412001 (wrap64 (x27 - 1))).f1) ((rd_T105 x25 x27).f0) ((rd_T105 x25 x27).f1)).bind fun t426 => (if t426 ≥ 0 then (some false) else (impl_validPiece.l0 k x25 x26 (wrap64 (x27 + 1)) x412000 x412001 x412002 x412003))) else (none)) else (none)) else (impl_validPiece.l0 k x25 x26 (wrap64 (x27 + 1)) x412000 x412001 x412002 x412003)) else (some false))) else (some false))) else (none)) else (none)) else ((impl_bounds.f k x412001).bind fun bt415 => (some (bt415.1 == 0 && (bt415.2.1 == 0))))
end
def impl_validPiece.f (k : Nat) (a0_0 : ByteArray) (l0_1 : List (S105)) (a0_2 : Int) (a0_3 : Bool) : Option (Bool) := (impl_IsName.f k a0_0).bind fun t412 => (if t412 = true then ((impl_within.f (l0_1.length : Int) 1 6).bind fun t413 => (if t413 = true then ((impl_within.f a0_2 0 24).bind fun t414 => (impl_validPiece.j0 k (!t414) a0_0 l0_1 a0_2 a0_3)) else (impl_validPiece.j0 k true a0_0 l0_1 a0_2 a0_3))) else (impl_validPiece.j0 k true a0_0 l0_1 a0_2 a0_3))
def impl_validPiece.T6 : Bool × List (List Nat × List Nat) := (true, [([], []), ([0], [0]), ([1], [1]), ([2], [2]), ([3, 2], [3]), ([4], [4]), ([5, 4], [4, 5]), ([6, 4, 4], [4, 6]), ([7, 4], [4, 7]), ([4, 8], [4, 8]), ([9, 7], [9]), ([10], [10]), ([11, 10], [10, 11]), ([12, 10, 10], [10, 12]), ([13], [13]), ([14, 13], [13, 14]), ([13], [13]), ([16, 13], [13, 16]), ([15, 17, 13], [13, 15, 17]), ([18, 13], [13, 18]), ([13], [13]), ([19, 20, 13, 13], [13, 19, 20]), ([21, 13], [13, 21]), ([13, 22, 10], [10, 13, 22]), ([10, 23], [10, 23])])
def impl_validPiece.B6 : List Nat := [0, 1, 3, 7, 15, 31, 63, 127, 255, 511, 1023, 2047, 4095, 8191, 16383, 32767, 16383, 81919, 262143, 524287, 16383, 2097151, 4194303, 8388607, 16777215]
theorem impl_validPiece.tab6 : rtab .any (opsOf Try.f70 6) = impl_validPiece.T6 := by kernel_rfl
theorem impl_validPiece.bits6 : waitsOk impl_validPiece.T6.2 impl_validPiece.B6 = true := by kernel_rfl
set_option maxHeartbeats 8000000 in
set_option maxRecDepth 100000 in
theorem impl_validPiece.calls (k : Nat) (a0_0 : ByteArray) (A0_1 : Option Addr) (c0_1 : Nat) (l0_1 : List (S105)) (a0_2 : Int) (a0_3 : Bool) (r : Bool) (w : World) (hr0_1 : Kd.C k105 w A0_1 l0_1.length l0_1) (hc0_1 : l0_1.length ≤ c0_1) (h : impl_validPiece.f k a0_0 l0_1 a0_2 a0_3 = some r) :
 Calls Try.prog 70 #[.agg #[.string a0_0, .slice A0_1 l0_1.length c0_1, .int .i64 a0_2, .bool a0_3]] w fun e w' => e = .returned (.bool r) ∧ Below w.heap.size w w' := by
 have hu53 := Try.underlying53
 have hu105 := Try.underlying105
 have HR0_1 := mkA hr0_1
 have HC0_1 := mkA hc0_1
 clear hr0_1 hc0_1
 have HB := mkA (Below.refl w.heap.size w)
 unfold impl_validPiece.f at h
 have H := h
 clear h
 have HC2 := mkA H
 clear H
 go_enter Try.func70, Try.ntmps70
 go_upto_region 1 with (first | ((with_reducible refine gt_ 1 ?_); (try (refine gate_guard (by rfl) ?_; dsimp only)); refine box_event ?hg (N := 1) ?hd (cs := #[.string a0_0, .slice A0_1 l0_1.length c0_1, .int .i64 a0_2, .bool a0_3]) (t := 53) ?hr ?_; (case hd => rfl); (case hg => rfl); (case hr => first | (go_simp; done) | (go_simp; rfl)); intro gb411 hg w3 hbox hb; have BK411 := mkA (hbox); have GW411 := gs_ hg (bs0_ HB.out); have GE411 := GW411; replace HB := mkA (below_step (bs0_ HB.out) hb); clear hb hbox hg))
 (try simp only [Act.put, sA, sB, sC])
 go_cut [23] (fun v23 wc => ∃ (kq : Nat) (x23_1 : Bool), v23 = .bool x23_1 ∧ Aside0 (impl_validPiece.j0 kq x23_1 a0_0 l0_1 a0_2 a0_3 = some r) ∧ Aside0 (kq ≤ k) ∧ Aside0 (wc.heap[gb411]? = some (.cells #[.string a0_0, (.slice A0_1 l0_1.length c0_1), .int .i64 a0_2, .bool a0_3] 53 (0, 0))) ∧ Aside0 (Below w.heap.size w wc))
 case first =>
  have H := HC2.out
  clear HC2
  revert H
  refine ob_ fun t412 A4 => ?_
  intro H
  by_cases c5 : t412 = true
  rotate_left
  · replace c5 := Bool.eq_false_iff.mpr c5
    subst c5
    rw [if_neg Bool.false_ne_true] at H
    have H' := mkA H
    clear H
    obtain ⟨hcz11_0, hcz11_1, hcz11_2, hcz11_3, hfz11_0, hfz11_1, hfz11_2, hfz11_3⟩ := z4_ BK411.out
    go_wp2_with (first | ((with_reducible refine gk_ 88 ?_); refine gl_ (some 9) Try.func88 #[.string a0_0] ?_; (with_reducible refine (impl_IsName.calls k a0_0 false _ A4.out).mono ?_); rintro e w' ⟨rfl, ⟨nd, rfl⟩⟩; refine ⟨_, rfl, ?_⟩))
    go_meet
    case rel => exact ⟨_, (true), rf_, H', ⟨by first | omega | exact Nat.le_refl _⟩, ⟨bl_ BK411.out⟩, ⟨bs1_ HB.out GE411.out⟩⟩
  subst c5
  rw [if_pos rfl] at H
  revert H
  refine ob_ fun t413 A6 => ?_
  intro H
  by_cases c7 : t413 = true
  rotate_left
  · replace c7 := Bool.eq_false_iff.mpr c7
    subst c7
    rw [if_neg Bool.false_ne_true] at H
    have H' := mkA H
    clear H
    obtain ⟨hcz10_0, hcz10_1, hcz10_2, hcz10_3, hfz10_0, hfz10_1, hfz10_2, hfz10_3⟩ := z4_ BK411.out
    go_wp2_with (first | ((with_reducible refine gk_ 88 ?_); refine gl_ (some 9) Try.func88 #[.string a0_0] ?_; (with_reducible refine (impl_IsName.calls k a0_0 true _ A4.out).mono ?_); rintro e w' ⟨rfl, ⟨nd, rfl⟩⟩; refine ⟨_, rfl, ?_⟩) | (go_at_call 57; (with_reducible refine (impl_within.calls (l0_1.length : Int) 1 6 false _ A6.out).mono ?_); rintro e w' ⟨rfl, ⟨nd, rfl⟩⟩))
    go_meet
    case rel => exact ⟨_, (true), rf_, H', ⟨by first | omega | exact Nat.le_refl _⟩, ⟨bl_ BK411.out⟩, ⟨bs1_ HB.out GE411.out⟩⟩
  subst c7
  rw [if_pos rfl] at H
  revert H
  refine ob_ fun t414 A8 => ?_
  intro H
  have H' := mkA H
  clear H
  obtain ⟨hcz9_0, hcz9_1, hcz9_2, hcz9_3, hfz9_0, hfz9_1, hfz9_2, hfz9_3⟩ := z4_ BK411.out
  go_wp2_with (first | ((with_reducible refine gk_ 88 ?_); refine gl_ (some 9) Try.func88 #[.string a0_0] ?_; (with_reducible refine (impl_IsName.calls k a0_0 true _ A4.out).mono ?_); rintro e w' ⟨rfl, ⟨nd, rfl⟩⟩; refine ⟨_, rfl, ?_⟩) | (go_at_call 57; (with_reducible refine (impl_within.calls (l0_1.length : Int) 1 6 true _ A6.out).mono ?_); rintro e w' ⟨rfl, ⟨nd, rfl⟩⟩) | (go_at_call 57; (with_reducible refine (impl_within.calls a0_2 0 24 t414 _ A8.out).mono ?_); rintro e w' ⟨rfl, ⟨nd, rfl⟩⟩))
  go_meet
  case rel => exact ⟨_, (!t414), rf_, H', ⟨by first | omega | exact Nat.le_refl _⟩, ⟨bl_ BK411.out⟩, ⟨bs1_ HB.out GE411.out⟩⟩
 case rest =>
  clear HC2
  try clear c5 c7
  try clear hcz10_0 hcz10_1 hcz10_2 hcz10_3 hcz11_0 hcz11_1 hcz11_2 hcz11_3 hcz9_0 hcz9_1 hcz9_2 hcz9_3
  try clear hfz10_0 hfz10_1 hfz10_2 hfz10_3 hfz11_0 hfz11_1 hfz11_2 hfz11_3 hfz9_0 hfz9_1 hfz9_2 hfz9_3
  obtain ⟨kq, x23_1, rfl, HA, HJ1, BK411, HB⟩ := hcut
  cases kq with
  | zero => exact absurd HA.out (by simp [impl_validPiece.j0])
  | succ kj1 =>
   have H := HA.out
   clear HA
   simp only [impl_validPiece.j0] at H
   by_cases c12 : x23_1 = true
   · subst c12
     rw [if_pos rfl] at H
     obtain rfl := Option.some.inj H
     go_wp2
     go_ret
     exact ⟨re_, bs1_ HB.out GE411.out⟩
   · replace c12 := Bool.eq_false_iff.mpr c12
     subst c12
     rw [if_neg Bool.false_ne_true] at H
     have H' := mkA H
     clear H
     obtain ⟨hcz13_0, hcz13_1, hcz13_2, hcz13_3, hfz13_0, hfz13_1, hfz13_2, hfz13_3⟩ := z4_ BK411.out
     go_wp2
     go_loopg [27] kj1 (fun kq v27 w' => ∃ (x27_2 : Int), v27 = .int .i64 x27_2 ∧ Aside0 (impl_validPiece.l0 kq l0_1 (l0_1.length : Int) x27_2 a0_0 l0_1 a0_2 a0_3 = some r) ∧ Aside0 (kq ≤ kj1) ∧ Aside0 (w'.heap[gb411]? = some (.cells #[.string a0_0, (.slice A0_1 l0_1.length c0_1), .int .i64 a0_2, .bool a0_3] 53 (0, 0))) ∧ Aside0 (Below w.heap.size w w'))
     case atStart => exact ⟨(0), rf_, H', ⟨Nat.le_refl _⟩, ⟨bl_ BK411.out⟩, ⟨bs1_ HB.out GE411.out⟩⟩
     case round =>
      clear H'
      try clear c5 c7 c12
      try clear hcz10_0 hcz10_1 hcz10_2 hcz10_3 hcz11_0 hcz11_1 hcz11_2 hcz11_3 hcz13_0 hcz13_1 hcz13_2 hcz13_3 hcz9_0 hcz9_1 hcz9_2 hcz9_3
      try clear hfz10_0 hfz10_1 hfz10_2 hfz10_3 hfz11_0 hfz11_1 hfz11_2 hfz11_3 hfz13_0 hfz13_1 hfz13_2 hfz13_3 hfz9_0 hfz9_1 hfz9_2 hfz9_3
      obtain ⟨x27_2, rfl, HA, HK2, BK411, HB⟩ := hrel
      cases gk with
      | zero => exact absurd HA.out (by simp [impl_validPiece.l0])
      | succ k2 =>
       have H := HA.out
       clear HA
       simp only [impl_validPiece.l0] at H
       by_cases c14 : x27_2 < (l0_1.length : Int)
       rotate_left
       · rw [if_neg c14] at H
         have c14b0 := decide_eq_false c14
         clear c14
         revert H
         refine ob_ fun t_ A54 => ?_
         intro H
         obtain ⟨t415, t416, t417, t418⟩ := t_
         try dsimp only at H
         obtain rfl := Option.some.inj H
         obtain ⟨hcz55_0, hcz55_1, hcz55_2, hcz55_3, hfz55_0, hfz55_1, hfz55_2, hfz55_3⟩ := z4_ BK411.out
         go_wp2_with (first | ((with_reducible refine gk_ 90 ?_); refine gl_ (some 61) Try.func90 #[.slice A0_1 l0_1.length c0_1] ?_; (with_reducible refine (impl_bounds.calls k2 _ _ l0_1 t415 t416 t417 t418 _ ?side1 ?side2 A54.out).mono ?_); (case side1 => exact cb_ HR0_1.out HB.out); (case side2 => exact HC0_1.out); rintro e w56 ⟨rfl, hb⟩; refine ⟨_, rfl, ?_⟩; replace BK411 := mkA (blk_below (bl_ BK411.out) hb); replace HB := mkA (below_step (bs1_ HB.out GE411.out) hb); (try clear hb); (try clear hb2); (try clear hk); (try clear hi)) | ((with_reducible refine gt_ 5 ?_); (try (refine gate_guard (by rfl) ?_; dsimp only)); refine box_event ?hg (N := 5) ?hd (cs := #[.int .i64 0, .int .i64 0]) (t := 105) ?hr ?_; (case hd => rfl); (case hg => rfl); (case hr => first | (go_simp; done) | (go_simp; rfl)); intro gb419 hg w57 hbox hb; have BK419 := mkA (hbox); have GW419 := gs_ hg (bs1_ HB.out GE411.out); have GE419 := GW419; replace HB := mkA (below_step (bs1_ HB.out GE411.out) hb); have NB411_419 := nl_ hg (bl_ BK411.out); have NB419_411 := nr_ hg (bl_ BK411.out); replace BK411 := mkA (blk_below (bl_ BK411.out) hb); clear hb hbox hg) | ((with_reducible refine gt_ 6 ?_); (try (refine gate_guard (by rfl) ?_; dsimp only)); refine box_event ?hg (N := 6) ?hd (cs := #[.int .i64 0, .int .i64 0]) (t := 105) ?hr ?_; (case hd => rfl); (case hg => rfl); (case hr => first | (go_simp; done) | (go_simp; rfl)); intro gb420 hg w58 hbox hb; have BK420 := mkA (hbox); have GW420 := gs_ hg (bs2_ HB.out GE411.out GE419.out); have GE420 := GW420; replace HB := mkA (below_step (bs2_ HB.out GE411.out GE419.out) hb); have NB411_420 := nl_ hg (bl_ BK411.out); have NB420_411 := nr_ hg (bl_ BK411.out); replace BK411 := mkA (blk_below (bl_ BK411.out) hb); have NB419_420 := nl_ hg (bl_ BK419.out); have NB420_419 := nr_ hg (bl_ BK419.out); replace BK419 := mkA (blk_below (bl_ BK419.out) hb); clear hb hbox hg; have hnb59 := NB419_411.out; have hnc59 := NB411_419.out; have hnb60 := NB419_420.out; have hnc60 := NB420_419.out; obtain ⟨hcz61_0, hcz61_1, hfz61_0, hfz61_1⟩ := z2_ BK419.out; have hnb62 := NB420_411.out; have hnc62 := NB411_420.out; obtain ⟨hcz63_0, hcz63_1, hfz63_0, hfz63_1⟩ := z2_ BK420.out))
         go_ret
         exact ⟨re_, bs3_ HB.out GE411.out GE419.out GE420.out⟩
       rw [if_pos c14] at H
       have c14b0 := decide_eq_true c14
       clear c14
       revert H
       refine ng_ fun c15 => ng_ fun c16 => ob_ fun t423 A17 => ?_
       intro H
       have c15b0 := decide_eq_true c15
       clear c15
       have c16b0 := decide_eq_true c16
       clear c16
       by_cases c18 : t423 = true
       rotate_left
       · replace c18 := Bool.eq_false_iff.mpr c18
         subst c18
         rw [if_neg Bool.false_ne_true] at H
         obtain rfl := Option.some.inj H
         obtain ⟨ad421, e421, hx421_0, hx421_1⟩ := at_T105 HR0_1.out x27_2 dt_ dt_
         cases e421
         obtain ⟨hx421_0, hx421_1⟩ := b2_ HB.out hx421_0 hx421_1
         have p421 : (0 ≤ (x27_2 : Int)) = True := eq_true dt_
         have q421 : (x27_2 < (l0_1.length : Int)) = True := eq_true dt_
         try go_wp2_with (first | ((with_reducible refine gt_ 4 ?_); (try (refine gate_guard (by rfl) ?_; dsimp only)); refine box_event ?hg (N := 4) ?hd (cs := #[.int .i64 0, .int .i64 0]) (t := 105) ?hr ?_; (case hd => rfl); (case hg => rfl); (case hr => first | (go_simp; done) | (go_simp; rfl)); intro gb422 hg w49 hbox hb; have BK422 := mkA (hbox); have GW422 := gs_ hg (bs1_ HB.out GE411.out); have GE422 := GW422; replace HB := mkA (below_step (bs1_ HB.out GE411.out) hb); have NB411_422 := nl_ hg (bl_ BK411.out); have NB422_411 := nr_ hg (bl_ BK411.out); replace BK411 := mkA (blk_below (bl_ BK411.out) hb); clear hb hbox hg; have hnb50 := NB422_411.out; have hnc50 := NB411_422.out; obtain ⟨hcz51_0, hcz51_1, hfz51_0, hfz51_1⟩ := z2_ BK422.out))
         have n0_ : Aside0 (((w49.setCell ⟨gb422, 0, none⟩ (.int .i64 ((rd_T105 l0_1 x27_2).f0))).setCell ⟨gb422, 1, none⟩ (.int .i64 ((rd_T105 l0_1 x27_2).f1))).heap[gb411]? = some (.cells #[.string a0_0, .slice (some ad421) l0_1.length c0_1, .int .i64 a0_2, .bool a0_3] 53 (0, 0))) := ⟨by refine bl_ ?_; refine blk_far ?_ NB411_422.out _; refine bl_ ?_; refine blk_far ?_ NB411_422.out _; refine bl_ ?_; exact BK411.out⟩
         have n1_ : Aside0 (((w49.setCell ⟨gb422, 0, none⟩ (.int .i64 ((rd_T105 l0_1 x27_2).f0))).setCell ⟨gb422, 1, none⟩ (.int .i64 ((rd_T105 l0_1 x27_2).f1))).heap[gb422]? = some (.cells #[.int .i64 ((rd_T105 l0_1 x27_2).f0), .int .i64 ((rd_T105 l0_1 x27_2).f1)] 105 (0, 0))) := ⟨by refine bl_ ?_; refine blk_put (cs := #[.int .i64 ((rd_T105 l0_1 x27_2).f0), .int .i64 0]) ?_ 1 _ rfl; refine bl_ ?_; refine blk_put (cs := #[.int .i64 0, .int .i64 0]) ?_ 0 _ rfl; refine bl_ ?_; exact BK422.out⟩
         have n2_ : Aside0 (Below w.heap.size w ((w49.setCell ⟨gb422, 0, none⟩ (.int .i64 ((rd_T105 l0_1 x27_2).f0))).setCell ⟨gb422, 1, none⟩ (.int .i64 ((rd_T105 l0_1 x27_2).f1)))) := ⟨bs2_ HB.out GE411.out GE422.out⟩
         (try clear BK411)
         (try clear BK422)
         (try clear HB)
         generalize ((w49.setCell ⟨gb422, 0, none⟩ (.int .i64 ((rd_T105 l0_1 x27_2).f0))).setCell ⟨gb422, 1, none⟩ (.int .i64 ((rd_T105 l0_1 x27_2).f1))) = w52 at n0_ n1_ n2_ ⊢
         have BK411 := n0_
         have BK422 := n1_
         have HB := n2_
         clear n0_ n1_ n2_
         replace BK411 := mkA (blk_drew BK411.out)
         replace BK422 := mkA (blk_drew BK422.out)
         replace HB := mkA (below_drew1 HB.out)
         refine st_ 25 (fun w' => w'.cell? ⟨gb422, 0, none⟩ = some (.int .i64 ((rd_T105 l0_1 x27_2).f0)) ∧ w'.cell? ⟨gb422, 1, none⟩ = some (.int .i64 ((rd_T105 l0_1 x27_2).f1))) [] impl_validPiece.tab6 impl_validPiece.bits6 sp_ fun hHeld HT_ HW_ => ?_
         generalize w52.drew = w53 at BK411 BK422 HB hHeld ⊢
         refine a1_ 0 32 (h := tk_ 1 33 (h := ?_))
         refine on_ 2 34 fun K hK => ?_
         refine go_ Try.func57 #[.int .i64 ((rd_T105 l0_1 x27_2).f0), .int .i64 0, .int .i64 5] ?_
         with_reducible refine (impl_within.calls ((rd_T105 l0_1 x27_2).f0) 0 5 false _ A17.out).mono ?_
         rintro e w' ⟨rfl, ⟨nd, rfl⟩⟩
         refine ⟨_, rfl, ?_⟩
         refine hK.out _ _ sp_ fun hHeld => ?_
         clear hK K
         refine nm_ 34 ?_
         refine a1_ 3 35 (h := a1_ 4 36 (h := a0_ 5 37 (h := a0_ 6 38 (h := a0_ 7 39 (h := a0_ 8 40 (h := a1_ 9 41 (h := a1_ 10 42 (h := a0_ 11 43 (h := a0_ 12 44 (h := a0_ 13 45 (h := a0_ 14 46 (h := a0_ 15 47 (h := a0_ 16 48 (h := a0_ 17 49 (h := a0_ 18 50 (h := a0_ 19 51 (h := a0_ 20 52 (h := a0_ 21 53 (h := a0_ 22 54 (h := a0_ 23 55 (h := a1_ 24 56 (h := ?_))))))))))))))))))))))
         refine dn_ ?_
         try go_wp2
         go_ret
         exact ⟨re_, bs2_ HB.out GE411.out GE422.out⟩
       subst c18
       rw [if_pos rfl] at H
       revert H
       refine ob_ fun t424 A19 => ?_
       intro H
       by_cases c20 : t424 = true
       rotate_left
       · replace c20 := Bool.eq_false_iff.mpr c20
         subst c20
         rw [if_neg Bool.false_ne_true] at H
         obtain rfl := Option.some.inj H
         obtain ⟨ad421, e421, hx421_0, hx421_1⟩ := at_T105 HR0_1.out x27_2 dt_ dt_
         cases e421
         obtain ⟨hx421_0, hx421_1⟩ := b2_ HB.out hx421_0 hx421_1
         have p421 : (0 ≤ (x27_2 : Int)) = True := eq_true dt_
         have q421 : (x27_2 < (l0_1.length : Int)) = True := eq_true dt_
         try go_wp2_with (first | ((with_reducible refine gt_ 4 ?_); (try (refine gate_guard (by rfl) ?_; dsimp only)); refine box_event ?hg (N := 4) ?hd (cs := #[.int .i64 0, .int .i64 0]) (t := 105) ?hr ?_; (case hd => rfl); (case hg => rfl); (case hr => first | (go_simp; done) | (go_simp; rfl)); intro gb422 hg w44 hbox hb; have BK422 := mkA (hbox); have GW422 := gs_ hg (bs1_ HB.out GE411.out); have GE422 := GW422; replace HB := mkA (below_step (bs1_ HB.out GE411.out) hb); have NB411_422 := nl_ hg (bl_ BK411.out); have NB422_411 := nr_ hg (bl_ BK411.out); replace BK411 := mkA (blk_below (bl_ BK411.out) hb); clear hb hbox hg; have hnb45 := NB422_411.out; have hnc45 := NB411_422.out; obtain ⟨hcz46_0, hcz46_1, hfz46_0, hfz46_1⟩ := z2_ BK422.out))
         have n0_ : Aside0 (((w44.setCell ⟨gb422, 0, none⟩ (.int .i64 ((rd_T105 l0_1 x27_2).f0))).setCell ⟨gb422, 1, none⟩ (.int .i64 ((rd_T105 l0_1 x27_2).f1))).heap[gb411]? = some (.cells #[.string a0_0, .slice (some ad421) l0_1.length c0_1, .int .i64 a0_2, .bool a0_3] 53 (0, 0))) := ⟨by refine bl_ ?_; refine blk_far ?_ NB411_422.out _; refine bl_ ?_; refine blk_far ?_ NB411_422.out _; refine bl_ ?_; exact BK411.out⟩
         have n1_ : Aside0 (((w44.setCell ⟨gb422, 0, none⟩ (.int .i64 ((rd_T105 l0_1 x27_2).f0))).setCell ⟨gb422, 1, none⟩ (.int .i64 ((rd_T105 l0_1 x27_2).f1))).heap[gb422]? = some (.cells #[.int .i64 ((rd_T105 l0_1 x27_2).f0), .int .i64 ((rd_T105 l0_1 x27_2).f1)] 105 (0, 0))) := ⟨by refine bl_ ?_; refine blk_put (cs := #[.int .i64 ((rd_T105 l0_1 x27_2).f0), .int .i64 0]) ?_ 1 _ rfl; refine bl_ ?_; refine blk_put (cs := #[.int .i64 0, .int .i64 0]) ?_ 0 _ rfl; refine bl_ ?_; exact BK422.out⟩
         have n2_ : Aside0 (Below w.heap.size w ((w44.setCell ⟨gb422, 0, none⟩ (.int .i64 ((rd_T105 l0_1 x27_2).f0))).setCell ⟨gb422, 1, none⟩ (.int .i64 ((rd_T105 l0_1 x27_2).f1)))) := ⟨bs2_ HB.out GE411.out GE422.out⟩
         (try clear BK411)
         (try clear BK422)
         (try clear HB)
         generalize ((w44.setCell ⟨gb422, 0, none⟩ (.int .i64 ((rd_T105 l0_1 x27_2).f0))).setCell ⟨gb422, 1, none⟩ (.int .i64 ((rd_T105 l0_1 x27_2).f1))) = w47 at n0_ n1_ n2_ ⊢
         have BK411 := n0_
         have BK422 := n1_
         have HB := n2_
         clear n0_ n1_ n2_
         replace BK411 := mkA (blk_drew BK411.out)
         replace BK422 := mkA (blk_drew BK422.out)
         replace HB := mkA (below_drew1 HB.out)
         refine st_ 25 (fun w' => w'.cell? ⟨gb422, 0, none⟩ = some (.int .i64 ((rd_T105 l0_1 x27_2).f0)) ∧ w'.cell? ⟨gb422, 1, none⟩ = some (.int .i64 ((rd_T105 l0_1 x27_2).f1))) [] impl_validPiece.tab6 impl_validPiece.bits6 sp_ fun hHeld HT_ HW_ => ?_
         generalize w47.drew = w48 at BK411 BK422 HB hHeld ⊢
         refine a1_ 0 32 (h := tk_ 1 33 (h := ?_))
         refine on_ 2 34 fun K hK => ?_
         refine go_ Try.func57 #[.int .i64 ((rd_T105 l0_1 x27_2).f0), .int .i64 0, .int .i64 5] ?_
         with_reducible refine (impl_within.calls ((rd_T105 l0_1 x27_2).f0) 0 5 true _ A17.out).mono ?_
         rintro e w' ⟨rfl, ⟨nd, rfl⟩⟩
         refine ⟨_, rfl, ?_⟩
         refine hK.out _ _ sp_ fun hHeld => ?_
         clear hK K
         refine nm_ 34 ?_
         refine a1_ 3 35 (h := a1_ 4 36 (h := a1_ 5 37 (h := tk_ 6 38 (h := ?_))))
         refine on_ 7 39 fun K hK => ?_
         refine go_ Try.func57 #[.int .i64 ((rd_T105 l0_1 x27_2).f1), .int .i64 0, .int .i64 5] ?_
         with_reducible refine (impl_within.calls ((rd_T105 l0_1 x27_2).f1) 0 5 false _ A19.out).mono ?_
         rintro e w' ⟨rfl, ⟨nd, rfl⟩⟩
         refine ⟨_, rfl, ?_⟩
         refine hK.out _ _ sp_ fun hHeld => ?_
         clear hK K
         refine nm_ 39 ?_
         refine a1_ 8 40 (h := a1_ 9 41 (h := a1_ 10 42 (h := a0_ 11 43 (h := a0_ 12 44 (h := a0_ 13 45 (h := a0_ 14 46 (h := a0_ 15 47 (h := a0_ 16 48 (h := a0_ 17 49 (h := a0_ 18 50 (h := a0_ 19 51 (h := a0_ 20 52 (h := a0_ 21 53 (h := a0_ 22 54 (h := a0_ 23 55 (h := a1_ 24 56 (h := ?_)))))))))))))))))
         refine dn_ ?_
         try go_wp2
         go_ret
         exact ⟨re_, bs2_ HB.out GE411.out GE422.out⟩
       subst c20
       rw [if_pos rfl] at H
       by_cases c21 : x27_2 > 0
       rotate_left
       · rw [if_neg c21] at H
         have c21b0 := decide_eq_false c21
         clear c21
         have H' := mkA H
         clear H
         obtain ⟨ad421, e421, hx421_0, hx421_1⟩ := at_T105 HR0_1.out x27_2 dt_ dt_
         cases e421
         obtain ⟨hx421_0, hx421_1⟩ := b2_ HB.out hx421_0 hx421_1
         have p421 : (0 ≤ (x27_2 : Int)) = True := eq_true dt_
         have q421 : (x27_2 < (l0_1.length : Int)) = True := eq_true dt_
         try go_wp2_with (first | ((with_reducible refine gt_ 4 ?_); (try (refine gate_guard (by rfl) ?_; dsimp only)); refine box_event ?hg (N := 4) ?hd (cs := #[.int .i64 0, .int .i64 0]) (t := 105) ?hr ?_; (case hd => rfl); (case hg => rfl); (case hr => first | (go_simp; done) | (go_simp; rfl)); intro gb422 hg w39 hbox hb; have BK422 := mkA (hbox); have GW422 := gs_ hg (bs1_ HB.out GE411.out); have GE422 := GW422; replace HB := mkA (below_step (bs1_ HB.out GE411.out) hb); have NB411_422 := nl_ hg (bl_ BK411.out); have NB422_411 := nr_ hg (bl_ BK411.out); replace BK411 := mkA (blk_below (bl_ BK411.out) hb); clear hb hbox hg; have hnb40 := NB422_411.out; have hnc40 := NB411_422.out; obtain ⟨hcz41_0, hcz41_1, hfz41_0, hfz41_1⟩ := z2_ BK422.out))
         have n0_ : Aside0 (((w39.setCell ⟨gb422, 0, none⟩ (.int .i64 ((rd_T105 l0_1 x27_2).f0))).setCell ⟨gb422, 1, none⟩ (.int .i64 ((rd_T105 l0_1 x27_2).f1))).heap[gb411]? = some (.cells #[.string a0_0, .slice (some ad421) l0_1.length c0_1, .int .i64 a0_2, .bool a0_3] 53 (0, 0))) := ⟨by refine bl_ ?_; refine blk_far ?_ NB411_422.out _; refine bl_ ?_; refine blk_far ?_ NB411_422.out _; refine bl_ ?_; exact BK411.out⟩
         have n1_ : Aside0 (((w39.setCell ⟨gb422, 0, none⟩ (.int .i64 ((rd_T105 l0_1 x27_2).f0))).setCell ⟨gb422, 1, none⟩ (.int .i64 ((rd_T105 l0_1 x27_2).f1))).heap[gb422]? = some (.cells #[.int .i64 ((rd_T105 l0_1 x27_2).f0), .int .i64 ((rd_T105 l0_1 x27_2).f1)] 105 (0, 0))) := ⟨by refine bl_ ?_; refine blk_put (cs := #[.int .i64 ((rd_T105 l0_1 x27_2).f0), .int .i64 0]) ?_ 1 _ rfl; refine bl_ ?_; refine blk_put (cs := #[.int .i64 0, .int .i64 0]) ?_ 0 _ rfl; refine bl_ ?_; exact BK422.out⟩
         have n2_ : Aside0 (Below w.heap.size w ((w39.setCell ⟨gb422, 0, none⟩ (.int .i64 ((rd_T105 l0_1 x27_2).f0))).setCell ⟨gb422, 1, none⟩ (.int .i64 ((rd_T105 l0_1 x27_2).f1)))) := ⟨bs2_ HB.out GE411.out GE422.out⟩
         (try clear BK411)
         (try clear BK422)
         (try clear HB)
         generalize ((w39.setCell ⟨gb422, 0, none⟩ (.int .i64 ((rd_T105 l0_1 x27_2).f0))).setCell ⟨gb422, 1, none⟩ (.int .i64 ((rd_T105 l0_1 x27_2).f1))) = w42 at n0_ n1_ n2_ ⊢
         have BK411 := n0_
         have BK422 := n1_
         have HB := n2_
         clear n0_ n1_ n2_
         replace BK411 := mkA (blk_drew BK411.out)
         replace BK422 := mkA (blk_drew BK422.out)
         replace HB := mkA (below_drew1 HB.out)
         refine st_ 25 (fun w' => w'.cell? ⟨gb422, 0, none⟩ = some (.int .i64 ((rd_T105 l0_1 x27_2).f0)) ∧ w'.cell? ⟨gb422, 1, none⟩ = some (.int .i64 ((rd_T105 l0_1 x27_2).f1))) [] impl_validPiece.tab6 impl_validPiece.bits6 sp_ fun hHeld HT_ HW_ => ?_
         generalize w42.drew = w43 at BK411 BK422 HB hHeld ⊢
         refine a1_ 0 32 (h := tk_ 1 33 (h := ?_))
         refine on_ 2 34 fun K hK => ?_
         refine go_ Try.func57 #[.int .i64 ((rd_T105 l0_1 x27_2).f0), .int .i64 0, .int .i64 5] ?_
         with_reducible refine (impl_within.calls ((rd_T105 l0_1 x27_2).f0) 0 5 true _ A17.out).mono ?_
         rintro e w' ⟨rfl, ⟨nd, rfl⟩⟩
         refine ⟨_, rfl, ?_⟩
         refine hK.out _ _ sp_ fun hHeld => ?_
         clear hK K
         refine nm_ 34 ?_
         refine a1_ 3 35 (h := a1_ 4 36 (h := a1_ 5 37 (h := tk_ 6 38 (h := ?_))))
         refine on_ 7 39 fun K hK => ?_
         refine go_ Try.func57 #[.int .i64 ((rd_T105 l0_1 x27_2).f1), .int .i64 0, .int .i64 5] ?_
         with_reducible refine (impl_within.calls ((rd_T105 l0_1 x27_2).f1) 0 5 true _ A19.out).mono ?_
         rintro e w' ⟨rfl, ⟨nd, rfl⟩⟩
         refine ⟨_, rfl, ?_⟩
         refine hK.out _ _ sp_ fun hHeld => ?_
         clear hK K
         refine nm_ 39 ?_
         refine a1_ 8 40 (h := a1_ 9 41 (h := a1_ 10 42 (h := a1_ 11 43 (h := a1_ 12 44 (h := a1_ 13 45 (h := a0_ 14 46 (h := a0_ 15 47 (h := a0_ 16 48 (h := a0_ 17 49 (h := a0_ 18 50 (h := a0_ 19 51 (h := a0_ 20 52 (h := a0_ 21 53 (h := a0_ 22 54 (h := a1_ 23 55 (h := a1_ 24 56 (h := ?_)))))))))))))))))
         refine dn_ ?_
         try go_wp2
         go_roundg k2
         case measure => have := HJ1.out; have := HK2.out; omega
         case rel => exact ⟨(wrap64 (x27_2 + 1)), rf_, H', ⟨on2_ HJ1.out HK2.out⟩, ⟨bl_ BK411.out⟩, ⟨bs2_ HB.out GE411.out GE422.out⟩⟩
       rw [if_pos c21] at H
       have c21b0 := decide_eq_true c21
       clear c21
       obtain ⟨ji22, hji22⟩ : ∃ j_ : Int, (wrap64 (x27_2 - 1)) = j_ := ⟨_, rfl⟩
       replace H : (if 0 ≤ (ji22) then (if (ji22) < (l0_1.length : Int) then ((impl_compareCells.f ((rd_T105 l0_1 (ji22)).f0) ((rd_T105 l0_1 (ji22)).f1) ((rd_T105 l0_1 x27_2).f0) ((rd_T105 l0_1 x27_2).f1)).bind fun t426 => (if t426 ≥ 0 then (some false) else (impl_validPiece.l0 k2 l0_1 (l0_1.length : Int) (wrap64 (x27_2 + 1)) a0_0 l0_1 a0_2 a0_3))) else (none)) else (none)) = some r := by first | (rw [hji22] at H; exact H) | (simp only [hji22] at H ⊢; exact H)
       (try rw [hji22] at A17)
       (try rw [hji22] at A19)
       have hji22w : (IntKind.i64.wrap (x27_2 - 1)) = ji22 := (i64_w _).trans hji22
       revert H
       refine ng_ fun c23 => ng_ fun c24 => ob_ fun t426 A25 => ?_
       intro H
       have c23b0 := decide_eq_true c23
       clear c23
       have c24b0 := decide_eq_true c24
       clear c24
       by_cases c26 : t426 ≥ 0
       · rw [if_pos c26] at H
         have c26b0 := decide_eq_true c26
         clear c26
         obtain rfl := Option.some.inj H
         obtain ⟨ad421, e421, hx421_0, hx421_1⟩ := at_T105 HR0_1.out x27_2 dt_ dt_
         cases e421
         obtain ⟨hx421_0, hx421_1⟩ := b2_ HB.out hx421_0 hx421_1
         have p421 : (0 ≤ (x27_2 : Int)) = True := eq_true dt_
         have q421 : (x27_2 < (l0_1.length : Int)) = True := eq_true dt_
         try go_wp2_with (first | ((with_reducible refine gt_ 4 ?_); (try (refine gate_guard (by rfl) ?_; dsimp only)); refine box_event ?hg (N := 4) ?hd (cs := #[.int .i64 0, .int .i64 0]) (t := 105) ?hr ?_; (case hd => rfl); (case hg => rfl); (case hr => first | (go_simp; done) | (go_simp; rfl)); intro gb422 hg w27 hbox hb; have BK422 := mkA (hbox); have GW422 := gs_ hg (bs1_ HB.out GE411.out); have GE422 := GW422; replace HB := mkA (below_step (bs1_ HB.out GE411.out) hb); have NB411_422 := nl_ hg (bl_ BK411.out); have NB422_411 := nr_ hg (bl_ BK411.out); replace BK411 := mkA (blk_below (bl_ BK411.out) hb); clear hb hbox hg; have hnb28 := NB422_411.out; have hnc28 := NB411_422.out; obtain ⟨hcz29_0, hcz29_1, hfz29_0, hfz29_1⟩ := z2_ BK422.out))
         have n0_ : Aside0 (((w27.setCell ⟨gb422, 0, none⟩ (.int .i64 ((rd_T105 l0_1 x27_2).f0))).setCell ⟨gb422, 1, none⟩ (.int .i64 ((rd_T105 l0_1 x27_2).f1))).heap[gb411]? = some (.cells #[.string a0_0, .slice (some ad421) l0_1.length c0_1, .int .i64 a0_2, .bool a0_3] 53 (0, 0))) := ⟨by refine bl_ ?_; refine blk_far ?_ NB411_422.out _; refine bl_ ?_; refine blk_far ?_ NB411_422.out _; refine bl_ ?_; exact BK411.out⟩
         have n1_ : Aside0 (((w27.setCell ⟨gb422, 0, none⟩ (.int .i64 ((rd_T105 l0_1 x27_2).f0))).setCell ⟨gb422, 1, none⟩ (.int .i64 ((rd_T105 l0_1 x27_2).f1))).heap[gb422]? = some (.cells #[.int .i64 ((rd_T105 l0_1 x27_2).f0), .int .i64 ((rd_T105 l0_1 x27_2).f1)] 105 (0, 0))) := ⟨by refine bl_ ?_; refine blk_put (cs := #[.int .i64 ((rd_T105 l0_1 x27_2).f0), .int .i64 0]) ?_ 1 _ rfl; refine bl_ ?_; refine blk_put (cs := #[.int .i64 0, .int .i64 0]) ?_ 0 _ rfl; refine bl_ ?_; exact BK422.out⟩
         have n2_ : Aside0 (Below w.heap.size w ((w27.setCell ⟨gb422, 0, none⟩ (.int .i64 ((rd_T105 l0_1 x27_2).f0))).setCell ⟨gb422, 1, none⟩ (.int .i64 ((rd_T105 l0_1 x27_2).f1)))) := ⟨bs2_ HB.out GE411.out GE422.out⟩
         (try clear BK411)
         (try clear BK422)
         (try clear HB)
         generalize ((w27.setCell ⟨gb422, 0, none⟩ (.int .i64 ((rd_T105 l0_1 x27_2).f0))).setCell ⟨gb422, 1, none⟩ (.int .i64 ((rd_T105 l0_1 x27_2).f1))) = w30 at n0_ n1_ n2_ ⊢
         have BK411 := n0_
         have BK422 := n1_
         have HB := n2_
         clear n0_ n1_ n2_
         replace BK411 := mkA (blk_drew BK411.out)
         replace BK422 := mkA (blk_drew BK422.out)
         replace HB := mkA (below_drew1 HB.out)
         obtain ⟨ad425, e425, hw425_0, hw425_1⟩ := at_T105 HR0_1.out (ji22) dt_ dt_
         obtain rfl : ad421 = ad425 := (by injection e425)
         obtain ⟨hx425_0, hx425_1⟩ := b2_ HB.out hw425_0 hw425_1
         have p425 : (0 ≤ ((ji22) : Int)) = True := eq_true dt_
         have q425 : ((ji22) < (l0_1.length : Int)) = True := eq_true dt_
         refine st_ 25 (fun w' => w'.cell? ⟨gb422, 0, none⟩ = some (.int .i64 ((rd_T105 l0_1 x27_2).f0)) ∧ w'.cell? ⟨gb422, 1, none⟩ = some (.int .i64 ((rd_T105 l0_1 x27_2).f1)) ∧ w'.cell? ⟨gb411, 0, none⟩ = some (.string a0_0) ∧ w'.cell? ⟨gb411, 1, none⟩ = some (.slice (some ad421) l0_1.length c0_1) ∧ w'.cell? ⟨gb411, 2, none⟩ = some (.int .i64 a0_2) ∧ w'.cell? ⟨gb411, 3, none⟩ = some (.bool a0_3) ∧ C_ hw425_0 w' ∧ C_ hw425_1 w') [] impl_validPiece.tab6 impl_validPiece.bits6 sp_ fun hHeld HT_ HW_ => ?_
         generalize w30.drew = w31 at BK411 BK422 HB hx425_0 hx425_1 hHeld ⊢
         refine a1_ 0 32 (h := tk_ 1 33 (h := ?_))
         refine on_ 2 34 fun K hK => ?_
         refine go_ Try.func57 #[.int .i64 ((rd_T105 l0_1 x27_2).f0), .int .i64 0, .int .i64 5] ?_
         with_reducible refine (impl_within.calls ((rd_T105 l0_1 x27_2).f0) 0 5 true _ A17.out).mono ?_
         rintro e w' ⟨rfl, ⟨nd, rfl⟩⟩
         refine ⟨_, rfl, ?_⟩
         refine hK.out _ _ sp_ fun hHeld => ?_
         clear hK K
         refine nm_ 34 ?_
         refine a1_ 3 35 (h := a1_ 4 36 (h := a1_ 5 37 (h := tk_ 6 38 (h := ?_))))
         refine on_ 7 39 fun K hK => ?_
         refine go_ Try.func57 #[.int .i64 ((rd_T105 l0_1 x27_2).f1), .int .i64 0, .int .i64 5] ?_
         with_reducible refine (impl_within.calls ((rd_T105 l0_1 x27_2).f1) 0 5 true _ A19.out).mono ?_
         rintro e w' ⟨rfl, ⟨nd, rfl⟩⟩
         refine ⟨_, rfl, ?_⟩
         refine hK.out _ _ sp_ fun hHeld => ?_
         clear hK K
         refine nm_ 39 ?_
         refine a1_ 8 40 (h := a1_ 9 41 (h := a1_ 10 42 (h := a1_ 11 43 (h := a1_ 12 44 (h := a1_ 13 45 (h := a1_ 14 46 (h := a1_ 16 48 (h := a1_ 17 49 (h := tk_ 15 47 (h := a1_ 18 50 (h := tk_ 19 51 (h := tk_ 20 52 (h := ?_)))))))))))))
         refine on_ 21 53 fun K hK => ?_
         refine goes_ Try.func89 (by kernel_rfl) rfl #[.agg #[.int .i64 ((rd_T105 l0_1 (ji22)).f0), .int .i64 ((rd_T105 l0_1 (ji22)).f1)], .agg #[.int .i64 ((rd_T105 l0_1 x27_2).f0), .int .i64 ((rd_T105 l0_1 x27_2).f1)]] (by rfl) rfl rfl (by (try simp only [List.map_toArray, List.map_cons, List.map_nil]); first | done | (simp only [hji22]; rfl) | rfl | (simp only [List.length_drop, List.length_take]; rfl)) ?_
         with_reducible refine (impl_compareCells.calls ((rd_T105 l0_1 (ji22)).f0) ((rd_T105 l0_1 (ji22)).f1) ((rd_T105 l0_1 x27_2).f0) ((rd_T105 l0_1 x27_2).f1) t426 _ A25.out).mono ?_
         rintro e w32 ⟨rfl, hb⟩
         refine ⟨_, rfl, ?_⟩
         replace BK411 := mkA (blk_below (bl_ BK411.out) hb)
         replace BK422 := mkA (blk_below (bl_ BK422.out) hb)
         replace HB := mkA (below_step (bs2_ HB.out GE411.out GE422.out) hb)
         (try clear hb)
         (try clear hb2)
         (try clear hk)
         (try clear hi)
         refine hK.out _ _ sp_ fun hHeld => ?_
         clear hK K
         refine nm_ 53 ?_
         refine a1_ 22 54 (h := a1_ 23 55 (h := a1_ 24 56 (h := ?_)))
         refine dn_ ?_
         try go_wp2
         go_ret
         exact ⟨by first | rfl | (simp [errW_none, errW_some] <;> rfl) | (simp only [← hji22]; first | rfl | (simp [errW_none, errW_some] <;> rfl)) | (simp [*, errW_none, errW_some] <;> rfl), bs2_ HB.out GE411.out GE422.out⟩
       · rw [if_neg c26] at H
         have c26b0 := decide_eq_false c26
         clear c26
         have H' := mkA H
         clear H
         obtain ⟨ad421, e421, hx421_0, hx421_1⟩ := at_T105 HR0_1.out x27_2 dt_ dt_
         cases e421
         obtain ⟨hx421_0, hx421_1⟩ := b2_ HB.out hx421_0 hx421_1
         have p421 : (0 ≤ (x27_2 : Int)) = True := eq_true dt_
         have q421 : (x27_2 < (l0_1.length : Int)) = True := eq_true dt_
         try go_wp2_with (first | ((with_reducible refine gt_ 4 ?_); (try (refine gate_guard (by rfl) ?_; dsimp only)); refine box_event ?hg (N := 4) ?hd (cs := #[.int .i64 0, .int .i64 0]) (t := 105) ?hr ?_; (case hd => rfl); (case hg => rfl); (case hr => first | (go_simp; done) | (go_simp; rfl)); intro gb422 hg w33 hbox hb; have BK422 := mkA (hbox); have GW422 := gs_ hg (bs1_ HB.out GE411.out); have GE422 := GW422; replace HB := mkA (below_step (bs1_ HB.out GE411.out) hb); have NB411_422 := nl_ hg (bl_ BK411.out); have NB422_411 := nr_ hg (bl_ BK411.out); replace BK411 := mkA (blk_below (bl_ BK411.out) hb); clear hb hbox hg; have hnb34 := NB422_411.out; have hnc34 := NB411_422.out; obtain ⟨hcz35_0, hcz35_1, hfz35_0, hfz35_1⟩ := z2_ BK422.out))
         have n0_ : Aside0 (((w33.setCell ⟨gb422, 0, none⟩ (.int .i64 ((rd_T105 l0_1 x27_2).f0))).setCell ⟨gb422, 1, none⟩ (.int .i64 ((rd_T105 l0_1 x27_2).f1))).heap[gb411]? = some (.cells #[.string a0_0, .slice (some ad421) l0_1.length c0_1, .int .i64 a0_2, .bool a0_3] 53 (0, 0))) := ⟨by refine bl_ ?_; refine blk_far ?_ NB411_422.out _; refine bl_ ?_; refine blk_far ?_ NB411_422.out _; refine bl_ ?_; exact BK411.out⟩
         have n1_ : Aside0 (((w33.setCell ⟨gb422, 0, none⟩ (.int .i64 ((rd_T105 l0_1 x27_2).f0))).setCell ⟨gb422, 1, none⟩ (.int .i64 ((rd_T105 l0_1 x27_2).f1))).heap[gb422]? = some (.cells #[.int .i64 ((rd_T105 l0_1 x27_2).f0), .int .i64 ((rd_T105 l0_1 x27_2).f1)] 105 (0, 0))) := ⟨by refine bl_ ?_; refine blk_put (cs := #[.int .i64 ((rd_T105 l0_1 x27_2).f0), .int .i64 0]) ?_ 1 _ rfl; refine bl_ ?_; refine blk_put (cs := #[.int .i64 0, .int .i64 0]) ?_ 0 _ rfl; refine bl_ ?_; exact BK422.out⟩
         have n2_ : Aside0 (Below w.heap.size w ((w33.setCell ⟨gb422, 0, none⟩ (.int .i64 ((rd_T105 l0_1 x27_2).f0))).setCell ⟨gb422, 1, none⟩ (.int .i64 ((rd_T105 l0_1 x27_2).f1)))) := ⟨bs2_ HB.out GE411.out GE422.out⟩
         (try clear BK411)
         (try clear BK422)
         (try clear HB)
         generalize ((w33.setCell ⟨gb422, 0, none⟩ (.int .i64 ((rd_T105 l0_1 x27_2).f0))).setCell ⟨gb422, 1, none⟩ (.int .i64 ((rd_T105 l0_1 x27_2).f1))) = w36 at n0_ n1_ n2_ ⊢
         have BK411 := n0_
         have BK422 := n1_
         have HB := n2_
         clear n0_ n1_ n2_
         replace BK411 := mkA (blk_drew BK411.out)
         replace BK422 := mkA (blk_drew BK422.out)
         replace HB := mkA (below_drew1 HB.out)
         obtain ⟨ad425, e425, hw425_0, hw425_1⟩ := at_T105 HR0_1.out (ji22) dt_ dt_
         obtain rfl : ad421 = ad425 := (by injection e425)
         obtain ⟨hx425_0, hx425_1⟩ := b2_ HB.out hw425_0 hw425_1
         have p425 : (0 ≤ ((ji22) : Int)) = True := eq_true dt_
         have q425 : ((ji22) < (l0_1.length : Int)) = True := eq_true dt_
         refine st_ 25 (fun w' => w'.cell? ⟨gb422, 0, none⟩ = some (.int .i64 ((rd_T105 l0_1 x27_2).f0)) ∧ w'.cell? ⟨gb422, 1, none⟩ = some (.int .i64 ((rd_T105 l0_1 x27_2).f1)) ∧ w'.cell? ⟨gb411, 0, none⟩ = some (.string a0_0) ∧ w'.cell? ⟨gb411, 1, none⟩ = some (.slice (some ad421) l0_1.length c0_1) ∧ w'.cell? ⟨gb411, 2, none⟩ = some (.int .i64 a0_2) ∧ w'.cell? ⟨gb411, 3, none⟩ = some (.bool a0_3) ∧ C_ hw425_0 w' ∧ C_ hw425_1 w') [] impl_validPiece.tab6 impl_validPiece.bits6 sp_ fun hHeld HT_ HW_ => ?_
         generalize w36.drew = w37 at BK411 BK422 HB hx425_0 hx425_1 hHeld ⊢
         refine a1_ 0 32 (h := tk_ 1 33 (h := ?_))
         refine on_ 2 34 fun K hK => ?_
         refine go_ Try.func57 #[.int .i64 ((rd_T105 l0_1 x27_2).f0), .int .i64 0, .int .i64 5] ?_
         with_reducible refine (impl_within.calls ((rd_T105 l0_1 x27_2).f0) 0 5 true _ A17.out).mono ?_
         rintro e w' ⟨rfl, ⟨nd, rfl⟩⟩
         refine ⟨_, rfl, ?_⟩
         refine hK.out _ _ sp_ fun hHeld => ?_
         clear hK K
         refine nm_ 34 ?_
         refine a1_ 3 35 (h := a1_ 4 36 (h := a1_ 5 37 (h := tk_ 6 38 (h := ?_))))
         refine on_ 7 39 fun K hK => ?_
         refine go_ Try.func57 #[.int .i64 ((rd_T105 l0_1 x27_2).f1), .int .i64 0, .int .i64 5] ?_
         with_reducible refine (impl_within.calls ((rd_T105 l0_1 x27_2).f1) 0 5 true _ A19.out).mono ?_
         rintro e w' ⟨rfl, ⟨nd, rfl⟩⟩
         refine ⟨_, rfl, ?_⟩
         refine hK.out _ _ sp_ fun hHeld => ?_
         clear hK K
         refine nm_ 39 ?_
         refine a1_ 8 40 (h := a1_ 9 41 (h := a1_ 10 42 (h := a1_ 11 43 (h := a1_ 12 44 (h := a1_ 13 45 (h := a1_ 14 46 (h := a1_ 16 48 (h := a1_ 17 49 (h := tk_ 15 47 (h := a1_ 18 50 (h := tk_ 19 51 (h := tk_ 20 52 (h := ?_)))))))))))))
         refine on_ 21 53 fun K hK => ?_
         refine goes_ Try.func89 (by kernel_rfl) rfl #[.agg #[.int .i64 ((rd_T105 l0_1 (ji22)).f0), .int .i64 ((rd_T105 l0_1 (ji22)).f1)], .agg #[.int .i64 ((rd_T105 l0_1 x27_2).f0), .int .i64 ((rd_T105 l0_1 x27_2).f1)]] (by rfl) rfl rfl (by (try simp only [List.map_toArray, List.map_cons, List.map_nil]); first | done | (simp only [hji22]; rfl) | rfl | (simp only [List.length_drop, List.length_take]; rfl)) ?_
         with_reducible refine (impl_compareCells.calls ((rd_T105 l0_1 (ji22)).f0) ((rd_T105 l0_1 (ji22)).f1) ((rd_T105 l0_1 x27_2).f0) ((rd_T105 l0_1 x27_2).f1) t426 _ A25.out).mono ?_
         rintro e w38 ⟨rfl, hb⟩
         refine ⟨_, rfl, ?_⟩
         replace BK411 := mkA (blk_below (bl_ BK411.out) hb)
         replace BK422 := mkA (blk_below (bl_ BK422.out) hb)
         replace HB := mkA (below_step (bs2_ HB.out GE411.out GE422.out) hb)
         (try clear hb)
         (try clear hb2)
         (try clear hk)
         (try clear hi)
         refine hK.out _ _ sp_ fun hHeld => ?_
         clear hK K
         refine nm_ 53 ?_
         refine a1_ 22 54 (h := a1_ 23 55 (h := a1_ 24 56 (h := ?_)))
         refine dn_ ?_
         try go_wp2
         go_roundg k2
         case measure => have := HJ1.out; have := HK2.out; omega
         case rel => exact ⟨(wrap64 (x27_2 + 1)), rf_, H', ⟨on2_ HJ1.out HK2.out⟩, ⟨bl_ BK411.out⟩, ⟨bs2_ HB.out GE411.out GE422.out⟩⟩
end Go.Proofs.Ytakagkflgkoiiaa.GFnExactIsCover

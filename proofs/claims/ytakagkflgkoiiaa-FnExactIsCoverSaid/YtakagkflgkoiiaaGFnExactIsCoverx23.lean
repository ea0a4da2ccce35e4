-- Written by the session's own program (gen.py) out of the translation's print. Lean checks it.
import Derived.Test.YtakagkflgkoiiaaQ
import Derived.Test.YtakagkflgkoiiaaGFnExactIsCoverx0
import Derived.Test.YtakagkflgkoiiaaGFnExactIsCoverx22
namespace Go.Proofs.Ytakagkflgkoiiaa.GFnExactIsCover
open Go.RowKit Go.Proofs.YtakagkflgkoiiaaW.PrintWords Go.Proofs.YtakagkflgkoiiaaW.PrintLast Go.Proofs.YtakagkflgkoiiaaW.PrintMore
open List renaming setIfInBounds_toArray → sA, set_cons_zero → sB, set_cons_succ → sC
open Go.Proofs.YtakagkflgkoiiaaW.PrintWords.Aside0 renaming mk → mkA
open Go.Proofs.YtakagkflgkoiiaaX (dt_ bc_ p0_ p1_ bl_ cb_ bs0_ bs1_ bs2_ bs3_ bs4_ bs5_ bs6_ bs7_ bs8_ bs9_ bs10_ bs11_ bs12_)
open Go.Proofs.YtakagkflgkoiiaaQ
attribute [local go_sem] max2_int min2_int max_two min_two max_three min_three max_four min_four 
set_option linter.unusedVariables false
set_option linter.unusedSimpArgs false

/-! ### impl_pieceTurns: function 75 -/
mutual
def impl_pieceTurns.l0 : Nat → List Int → List (List (S105)) → Int → ByteArray → List (S105) → Int → Bool → Option (List Int × (List (List (S105))))
  | 0, _, _, _, _, _, _, _ => none
  | k + 1, x4, x5, x6, x483000, x483001, x483002, x483003 => if x6 < 8 then (impl_pieceTurns.j1 k x4 x5 x6 x483003 x483000 x483001 x483002 x483003) else (impl_pieceTurns.j1 k x4 x5 x6 false x483000 x483001 x483002 x483003)
def impl_pieceTurns.j1 : Nat → List Int → List (List (S105)) → Int → Bool → ByteArray → List (S105) → Int → Bool → Option (List Int × (List (List (S105))))
  | 0, _, _, _, _, _, _, _, _ => none
  | k + 1, x4, x5, x6, x17, x483000, x483001, x483002, x483003 => if x17 = true then ((impl_turnedCells.f k x483000 x483001 x483002 x483003 x6).bind fun t492 => ((fi97_98.f k x5 [t492]).bind fun t496 => (if t496 = true then (impl_pieceTurns.l0 k x4 x5 (wrap64 (x6 + 1)) x483000 x483001 x483002 x483003) else ((some (([x6] : List Int) : List Int)).bind fun y497 => (if x4.length + y497.length < 17592186044416 then ((some (([t492] : List (List (S105))) : List (List (S105)))).bind fun y503 => (if x5.length + y503.length < 5864062014805 then (impl_pieceTurns.l0 k (x4 ++ y497) (x5 ++ y503) (wrap64 (x6 + 1)) x483000 x483001 x483002 x483003) else (none))) else (none)))))) else (some (x4, x5))
end
def impl_pieceTurns.f (k : Nat) (a0_0 : ByteArray) (l0_1 : List (S105)) (a0_2 : Int) (a0_3 : Bool) : Option (List Int × (List (List (S105)))) := (impl_turnedCells.f k a0_0 l0_1 a0_2 a0_3 0).bind fun t486 => (impl_pieceTurns.l0 k (([0] : List Int)) (([t486] : List (List (S105)))) 1 a0_0 l0_1 a0_2 a0_3)
def impl_pieceTurns.T7 : Bool × List (List Nat × List Nat) := (true, [([], []), ([], []), ([1], [1]), ([0, 2], [0, 2]), ([], []), ([], []), ([5], [5]), ([4, 6, 3], [4, 6]), ([3, 7, 0, 1, 2, 3], [0, 3]), ([7, 8, 0, 1, 2, 3, 4, 5, 6, 7, 8], [4, 7])])
def impl_pieceTurns.B7 : List Nat := [0, 0, 2, 7, 0, 0, 32, 127, 255, 511]
theorem impl_pieceTurns.tab7 : rtab .any (opsOf Try.f75 7) = impl_pieceTurns.T7 := by kernel_rfl
theorem impl_pieceTurns.bits7 : waitsOk impl_pieceTurns.T7.2 impl_pieceTurns.B7 = true := by kernel_rfl
set_option maxHeartbeats 8000000 in
set_option maxRecDepth 100000 in
theorem impl_pieceTurns.calls (k : Nat) (a0_0 : ByteArray) (A0_1 : Option Addr) (c0_1 : Nat) (l0_1 : List (S105)) (a0_2 : Int) (a0_3 : Bool) (r1 : List Int) (r2 : List (List (S105))) (w : World) (hr0_1 : Kd.C k105 w A0_1 l0_1.length l0_1) (hc0_1 : l0_1.length ≤ c0_1) (h : impl_pieceTurns.f k a0_0 l0_1 a0_2 a0_3 = some (r1, r2)) :
 Calls Try.prog 75 #[.agg #[.string a0_0, .slice A0_1 l0_1.length c0_1, .int .i64 a0_2, .bool a0_3]] w fun e w' => ∃ v0_ v1_ : Value, e = .returned (.tuple #[v0_, v1_]) ∧ Kd.R (Kd.int .i64) 2 w' w.heap.size (fun k_ => (w.heap.size ≤ k_)) v0_ r1 ∧ Kd.N (Kd.slice 105 k105) 51 w' w.heap.size (fun k_ => (w.heap.size ≤ k_) ∧ some k_ ≠ (v0_ : Value).ownBlock) v1_ r2 ∧ Below w.heap.size w w' := by
 have hu53 := Try.underlying53
 have HR0_1 := mkA hr0_1
 have HC0_1 := mkA hc0_1
 clear hr0_1 hc0_1
 have HB := mkA (Below.refl w.heap.size w)
 unfold impl_pieceTurns.f at h
 have H := h
 clear h
 obtain ⟨y483, hy483⟩ := gy_ ([0] : List Int)
 rw [← hy483] at H
 (try with_reducible replace H := bso_ H)
 have Ny483 := mkA hy483
 clear hy483
 revert H
 refine ob_ fun t486 A2 => ?_
 intro H
 obtain ⟨y489, hy489⟩ := gy_ ([t486] : List (List (S105)))
 rw [← hy489] at H
 (try with_reducible replace H := bso_ H)
 have Ny489 := mkA hy489
 clear hy489
 have H' := mkA H
 clear H
 go_enter Try.func75, Try.ntmps75
 go_wp2_with (first | ((with_reducible refine gt_ 1 ?_); refine bx_ 1 #[.string a0_0, .slice A0_1 l0_1.length c0_1, .int .i64 a0_2, .bool a0_3] 53 fun gb482 hg w3 hbox hb => ?_; have BK482 := mkA (hbox); have GW482 := gs_ hg (bs0_ HB.out); have GE482 := GW482; replace HB := mkA (below_step (bs0_ HB.out) hb); clear hb hbox hg) | ((with_reducible refine gt_ 8 ?_); refine Kd.R_lit (Kd.int .i64) _ 2 ?hg (N := 8) ?hd (xs := ([0] : List Int)) (inner := [.int .i64 0]) (ok := fun _ => True) (okp := fun _ => True) ?hr ?hp (fun _ hk => hk) trivial (Below.refl _ _) (Nat.le_refl _) (by simp) ?_; (case hd => rfl); (case hg => rfl); (case hr => first | (go_simp; done) | (go_simp; rfl)); (case hp => exact (Reps.one (show Kd.M (Kd.int .i64) _ _ _ 0 [.int .i64 0] from rfl) (Reps.none _ _))); intro v484 w4 ho5 hb hg_ hnew_; clear hg_ hnew_; (first | rw [← Ny483.out] at ho5 | (simp only [Int.reduceToNat] at ho5; rw [← Ny483.out] at ho5)); have HO485 := mkA (Kd.R_lower (Kd.R_newM (M := fun k_ => (w.heap.size ≤ k_)) ho5 (below_size (bs1_ HB.out GE482.out)) (fun k_ h_ => h_)) (below_size (bs1_ HB.out GE482.out))); replace BK482 := mkA (blk_below (bl_ BK482.out) hb); replace HB := mkA (below_step (bs1_ HB.out GE482.out) hb); clear hb ho5; obtain ⟨hcz6_0, hcz6_1, hcz6_2, hcz6_3, hfz6_0, hfz6_1, hfz6_2, hfz6_3⟩ := z4_ BK482.out) | ((with_reducible refine gk_ 79 ?_); refine gl_ (some 10) Try.func79 #[.agg #[.string a0_0, .slice A0_1 l0_1.length c0_1, .int .i64 a0_2, .bool a0_3], .int .i64 0] ?_; (with_reducible refine (impl_turnedCells.calls k a0_0 _ _ l0_1 a0_2 a0_3 0 t486 _ ?side1 ?side2 A2.out).mono ?_); (case side1 => exact cb_ HR0_1.out HB.out); (case side2 => exact HC0_1.out); rintro e w7 ⟨v487, rfl, ho0, hb⟩; refine ⟨_, rfl, ?_⟩; replace HO485 := mkA (Kd.R_below (r_ HO485.out) hb); have HO488 := mkA (Kd.R_lower (Kd.R_newM (M := fun k_ => (w.heap.size ≤ k_)) ho0 (below_size (bs1_ HB.out GE482.out)) (fun k_ h_ => h_)) (below_size (bs1_ HB.out GE482.out))); replace BK482 := mkA (blk_below (bl_ BK482.out) hb); replace HB := mkA (below_step (bs1_ HB.out GE482.out) hb); (try clear hb); (try clear hb2); (try clear hk); (try clear hi); (try clear ho0); obtain ⟨Ao8, co8, eo8⟩ := Kd.R_slice HO488.out; subst eo8) | ((with_reducible refine gt_ 11 ?_); refine Kd.N_lit (Kd.slice 105 k105) _ 51 ?hg (N' := 11) ?hd (xs := ([t486] : List (List (S105)))) (inner := [.slice Ao8 t486.length co8]) (ok := (fun k_ => (w.heap.size ≤ k_) ∧ some k_ ≠ (v484 : Value).ownBlock ∧ k_ ≠ gb482)) (okp := (fun k_ => (w.heap.size ≤ k_) ∧ some k_ ≠ (v484 : Value).ownBlock ∧ k_ ≠ gb482)) ?hr ?hp (fun _ hk => hk) ((show ∀ k_, w7.heap.size ≤ k_ → (fun k_ => (w.heap.size ≤ k_) ∧ some k_ ≠ (v484 : Value).ownBlock ∧ k_ ≠ gb482) k_ from fun k_ hk => ⟨(Nat.le_trans (below_size (bs1_ HB.out GE482.out)) hk), Kd.fresh' (Kd.R_lt (r_ HO485.out)) k_ hk, Kd.freshB (g := gb482) (o := .cells #[.string a0_0, .slice A0_1 l0_1.length c0_1, .int .i64 a0_2, .bool a0_3] 53 (0, 0)) (bl_ BK482.out) k_ hk⟩) _ (Nat.le_refl _)) (Below.refl _ _) (Nat.le_refl _) (by simp) ?_; (case hd => rfl); (case hg => rfl); (case hr => first | (go_simp; done) | (go_simp; rfl)); (case hp => exact (Reps.one (show Kd.FK (Kd.slice 105 k105) _ _ t486 [.slice Ao8 t486.length co8] from (Kd.FK_slice_mk (Kd.R_reads' (Kd.R_mono (ok' := (fun k_ => (w.heap.size ≤ k_) ∧ some k_ ≠ (v484 : Value).ownBlock ∧ k_ ≠ gb482)) (Kd.R_types (Kd.R_apart' (HO488.out) (Kd.R_typed HO485.out) (by decide)) BK482.out (by decide)) (fun k_ hk => ⟨hk.1.1.1, ⟨hk.1.2, hk.2⟩⟩))).2.1 (Kd.R_F (Kd.R_mono (ok' := (fun k_ => (w.heap.size ≤ k_) ∧ some k_ ≠ (v484 : Value).ownBlock ∧ k_ ≠ gb482)) (Kd.R_types (Kd.R_apart' (HO488.out) (Kd.R_typed HO485.out) (by decide)) BK482.out (by decide)) (fun k_ hk => ⟨hk.1.1.1, ⟨hk.1.2, hk.2⟩⟩))))) (Reps.none _ _))); intro v490 w9 ho10 hb hg_ hnew_; clear hg_ hnew_; (first | rw [← Ny489.out] at ho10 | (simp only [Int.reduceToNat] at ho10; rw [← Ny489.out] at ho10)); replace HO485 := mkA (Kd.R_below (r_ HO485.out) hb); have HO491 := mkA (Kd.N_lower ho10 (below_size (bs1_ HB.out GE482.out))); replace BK482 := mkA (blk_below (bl_ BK482.out) hb); replace HB := mkA (below_step (bs1_ HB.out GE482.out) hb); clear HO488; clear hb ho10))
 go_loopg [4, 5, 6] k (fun kq v4 v5 v6 w' => ∃ (x4_1 : List Int) (x5_1 : List (List (S105))) (x6_1 : Int), v6 = .int .i64 x6_1 ∧ Aside0 (impl_pieceTurns.l0 kq x4_1 x5_1 x6_1 a0_0 l0_1 a0_2 a0_3 = some (r1, r2)) ∧ Aside0 (kq ≤ k) ∧ Aside0 (Kd.R (Kd.int .i64) 2 w' w.heap.size (fun k_ => (w.heap.size ≤ k_)) v4 x4_1) ∧ Aside0 (Kd.N (Kd.slice 105 k105) 51 w' w.heap.size (fun k_ => (w.heap.size ≤ k_) ∧ some k_ ≠ (v4 : Value).ownBlock ∧ k_ ≠ gb482) v5 x5_1) ∧ Aside0 (w'.heap[gb482]? = some (.cells #[.string a0_0, (.slice A0_1 l0_1.length c0_1), .int .i64 a0_2, .bool a0_3] 53 (0, 0))) ∧ Aside0 (Below w.heap.size w w'))
 case atStart => exact ⟨(y483), (y489), (1), rf_, H', ⟨Nat.le_refl _⟩, ⟨by refine r_ ?_; exact Kd.R_mono HO485.out (fun _ hk => hk.1)⟩, ⟨n_ HO491.out⟩, ⟨bl_ BK482.out⟩, ⟨bs1_ HB.out GE482.out⟩⟩
 case round =>
  clear H'
  try clear hcz6_0 hcz6_1 hcz6_2 hcz6_3
  try clear hfz6_0 hfz6_1 hfz6_2 hfz6_3
  obtain ⟨x4_1, x5_1, x6_1, rfl, HA, HK1, HO_4, HO_5, BK482, HB⟩ := hrel
  cases gk with
  | zero => exact absurd HA.out (by simp [impl_pieceTurns.l0])
  | succ k1 =>
   have H := HA.out
   clear HA
   simp only [impl_pieceTurns.l0] at H
   have HC11 := mkA H
   clear H
   go_upto_region 3 with (fail)
   go_cut [17] (fun v17 wc => ∃ (kq : Nat) (x17_10 : Bool), v17 = .bool x17_10 ∧ Aside0 (impl_pieceTurns.j1 kq x4_1 x5_1 x6_1 x17_10 a0_0 l0_1 a0_2 a0_3 = some (r1, r2)) ∧ Aside0 (kq ≤ k1) ∧ Aside0 (Kd.R (Kd.int .i64) 2 wc w.heap.size (fun k_ => (w.heap.size ≤ k_)) u4 x4_1) ∧ Aside0 (Kd.N (Kd.slice 105 k105) 51 wc w.heap.size (fun k_ => (w.heap.size ≤ k_) ∧ some k_ ≠ (u4 : Value).ownBlock ∧ k_ ≠ gb482) u5 x5_1) ∧ Aside0 (wc.heap[gb482]? = some (.cells #[.string a0_0, (.slice A0_1 l0_1.length c0_1), .int .i64 a0_2, .bool a0_3] 53 (0, 0))) ∧ Aside0 (Below w.heap.size w wc))
   case first =>
    have H := HC11.out
    clear HC11
    by_cases c12 : x6_1 < 8
    rotate_left
    · rw [if_neg c12] at H
      have c12b0 := decide_eq_false c12
      clear c12
      (first | rw [c12b0] | (simp only [i64_w, i32_w]; rw [c12b0]) | skip)
      have H' := mkA H
      clear H
      go_wp2
      go_meet
      case rel => exact ⟨_, (false), rf_, H', ⟨om_ HK1.out⟩, ⟨r_ HO_4.out⟩, ⟨n_ HO_5.out⟩, ⟨bl_ BK482.out⟩, ⟨bs1_ HB.out GE482.out⟩⟩
    rw [if_pos c12] at H
    have c12b0 := decide_eq_true c12
    clear c12
    (first | rw [c12b0] | (simp only [i64_w, i32_w]; rw [c12b0]) | skip)
    have H' := mkA H
    clear H
    obtain ⟨hcz13_0, hcz13_1, hcz13_2, hcz13_3, hfz13_0, hfz13_1, hfz13_2, hfz13_3⟩ := z4_ BK482.out
    go_wp2
    go_meet
    case rel => exact ⟨_, (a0_3), rf_, H', ⟨om_ HK1.out⟩, ⟨r_ HO_4.out⟩, ⟨n_ HO_5.out⟩, ⟨bl_ BK482.out⟩, ⟨bs1_ HB.out GE482.out⟩⟩
   case rest =>
    clear HC11
    try clear c12 c12b0
    try clear hcz13_0 hcz13_1 hcz13_2 hcz13_3 hcz6_0 hcz6_1 hcz6_2 hcz6_3
    try clear hfz13_0 hfz13_1 hfz13_2 hfz13_3 hfz6_0 hfz6_1 hfz6_2 hfz6_3
    obtain ⟨kq, x17_10, rfl, HA, HJ10, HO_4, HO_5, BK482, HB⟩ := hcut
    cases kq with
    | zero => exact absurd HA.out (by simp [impl_pieceTurns.j1])
    | succ kj10 =>
     have H := HA.out
     clear HA
     simp only [impl_pieceTurns.j1] at H
     by_cases c14 : x17_10 = true
     rotate_left
     · replace c14 := Bool.eq_false_iff.mpr c14
       subst c14
       rw [if_neg Bool.false_ne_true] at H
       simp only [Option.some.injEq, Prod.mk.injEq] at H
       obtain ⟨rfl, rfl⟩ := H
       go_wp2
       go_ret2
       exact ⟨_, _, re_, r_ HO_4.out, by refine n_ ?_; exact Kd.N_mono HO_5.out (fun _ hk => ⟨hk.1, hk.2.1⟩), bs1_ HB.out GE482.out⟩
     subst c14
     rw [if_pos rfl] at H
     revert H
     refine ob_ fun t492 A15 => ob_ fun t496 A16 => ?_
     intro H
     by_cases c17 : t496 = true
     · subst c17
       rw [if_pos rfl] at H
       have H' := mkA H
       clear H
       obtain ⟨hcz18_0, hcz18_1, hcz18_2, hcz18_3, hfz18_0, hfz18_1, hfz18_2, hfz18_3⟩ := z4_ BK482.out
       go_wp2_with (first | ((with_reducible refine gk_ 79 ?_); refine gl_ (some 22) Try.func79 #[.agg #[.string a0_0, .slice A0_1 l0_1.length c0_1, .int .i64 a0_2, .bool a0_3], .int .i64 x6_1] ?_; (with_reducible refine (impl_turnedCells.calls kj10 a0_0 _ _ l0_1 a0_2 a0_3 x6_1 t492 _ ?side1 ?side2 A15.out).mono ?_); (case side1 => exact cb_ HR0_1.out HB.out); (case side2 => exact HC0_1.out); rintro e w19 ⟨v493, rfl, ho0, hb⟩; refine ⟨_, rfl, ?_⟩; replace HO_4 := mkA (Kd.R_below (r_ HO_4.out) hb); replace HO_5 := mkA (Kd.N_elder' (n_ HO_5.out) (Kd.R_base ho0) hb); have HO494 := mkA (Kd.R_lower (Kd.R_newM (M := fun k_ => (w.heap.size ≤ k_)) ho0 (below_size (bs1_ HB.out GE482.out)) (fun k_ h_ => h_)) (below_size (bs1_ HB.out GE482.out))); replace BK482 := mkA (blk_below (bl_ BK482.out) hb); replace HB := mkA (below_step (bs1_ HB.out GE482.out) hb); (try clear hb); (try clear hb2); (try clear hk); (try clear hi); (try clear ho0)) | ((with_reducible refine gt_ 7 ?_); refine bx_ 7 #[.slice none 0 0] 51 fun gb495 hg w20 hbox hb => ?_; replace HO_4 := mkA (Kd.R_below (r_ HO_4.out) hb); replace HO_5 := mkA (Kd.N_below (Kd.N_elderB (n_ HO_5.out) gb495 (Nat.le_of_eq hg.symm)) hb); replace HO494 := mkA (Kd.R_below (r_ HO494.out) hb); have BK495 := mkA (hbox); have GW495 := gs_ hg (bs1_ HB.out GE482.out); have GE495 := GW495; replace HB := mkA (below_step (bs1_ HB.out GE482.out) hb); have NB482_495 := nl_ hg (bl_ BK482.out); have NB495_482 := nr_ hg (bl_ BK482.out); replace BK482 := mkA (blk_below (bl_ BK482.out) hb); clear hb hbox hg; obtain ⟨Ao21, co21, eo21⟩ := Kd.R_slice HO494.out; subst eo21; have hnb22 := NB495_482.out; have hnc22 := NB482_495.out; obtain ⟨hcz23_0, hfz23_0⟩ := z1_ BK495.out; obtain ⟨Ao24, co24, eo24⟩ := Kd.N_slice HO_5.out; subst eo24) | ((with_reducible refine gk_ 97 ?_); refine gl_ (some 25) Try.func97 #[.slice Ao24 x5_1.length co24, .func (.func 98) #[] #[.pointer (some ⟨gb495, 0, none⟩)]] ?_; (with_reducible refine (fi97_98.calls kj10 _ _ x5_1 _ [t492] true _ ?side1 ?side2 ?side3 A16.out).mono ?_); (case side1 => refine (Kd.N_reads' (e := 51) (base := w.heap.size) (ok := fun k_ => ((((w.heap.size ≤ k_) ∧ (some k_ ≠ (u4 : Value).ownBlock ∧ k_ ≠ gb482)) ∧ some k_ ≠ (.slice Ao21 t492.length co21 : Value).ownBlock) ∧ k_ ≠ gb495)) (n := x5_1.length) (c := co24) ?_).2.2; exact (by refine n_ ?_; exact (Kd.N_mono (Kd.N_far (p := ⟨gb495, 0, none⟩) (Kd.N_mono HO_5.out (fun k_ hk => (⟨hk, hk.2⟩ : _ ∧ k_ ≠ gb495))) (fun _ hk => hk.2) (.slice Ao21 t492.length co21)) (fun _ h_ => h_.1)))); (case side2 => exact (Kd.N_reads' HO_5.out).2.1); (case side3 => exact Go.Proofs.YtakagkflgkoiiaaX.rp_box (t := 51) (fr := (0, 0)) (by refine bl_ ?_; refine blk_put (cs := #[.slice none 0 0]) ?_ 0 _ rfl; refine bl_ ?_; exact BK495.out) ⟨_, _, rfl, (by exact (Kd.R_reads' HO494.out).2.1), (by refine (Kd.R_reads' (e := 105) (base := w.heap.size) (ok := fun k_ => ((w.heap.size ≤ k_) ∧ True)) (n := t492.length) (c := co21) ?_).2.2; exact (by refine r_ ?_; exact (Kd.R_mono (Kd.R_far (p := ⟨gb495, 0, none⟩) (Kd.R_types HO494.out BK495.out (by decide)) (fun _ hk => hk.2) (.slice Ao21 t492.length co21)) (fun _ h_ => h_.1))))⟩); rintro e w' ⟨rfl, ⟨nd, rfl⟩⟩; refine ⟨_, rfl, ?_⟩))
       go_roundg kj10
       case measure => have := HK1.out; have := HJ10.out; omega
       case rel => exact ⟨(x4_1), (x5_1), (wrap64 (x6_1 + 1)), rf_, H', ⟨on2_ HK1.out HJ10.out⟩, ⟨by refine r_ ?_; exact Kd.R_mono (Kd.R_far (p := ⟨gb495, 0, none⟩) (Kd.R_types HO_4.out BK495.out (by decide)) (fun _ hk => hk.2) (.slice Ao21 t492.length co21)) (fun _ hk => hk.1)⟩, ⟨by refine n_ ?_; exact Kd.N_mono (Kd.N_far (p := ⟨gb495, 0, none⟩) (Kd.N_mono HO_5.out (fun k_ hk => (⟨hk, hk.2⟩ : _ ∧ k_ ≠ gb495))) (fun _ hk => hk.2) (.slice Ao21 t492.length co21)) (fun _ hk => ⟨hk.1.1.1.1, ⟨hk.1.1.1.2.1, hk.1.1.1.2.2⟩⟩)⟩, ⟨by refine bl_ ?_; refine blk_far ?_ NB482_495.out _; refine bl_ ?_; exact BK482.out⟩, ⟨bs2_ HB.out GE482.out GE495.out⟩⟩
     · replace c17 := Bool.eq_false_iff.mpr c17
       subst c17
       rw [if_neg Bool.false_ne_true] at H
       obtain ⟨y497, hy497⟩ := gy_ ([x6_1] : List Int)
       rw [← hy497] at H
       (try with_reducible replace H := bso_ H)
       have Ny497 := mkA hy497
       clear hy497
       revert H
       refine ng_ fun c25 => ?_
       intro H
       have LMc25 := mkA c25
       clear c25
       obtain ⟨y500, hy500⟩ := gy_ (x4_1 ++ y497 : List Int)
       rw [← hy500] at H
       (try with_reducible replace H := bso_ H)
       have Ny500 := mkA hy500
       clear hy500
       obtain ⟨y503, hy503⟩ := gy_ ([t492] : List (List (S105)))
       rw [← hy503] at H
       (try with_reducible replace H := bso_ H)
       have Ny503 := mkA hy503
       clear hy503
       revert H
       refine ng_ fun c26 => ?_
       intro H
       have LMc26 := mkA c26
       clear c26
       obtain ⟨y506, hy506⟩ := gy_ (x5_1 ++ y503 : List (List (S105)))
       rw [← hy506] at H
       (try with_reducible replace H := bso_ H)
       have Ny506 := mkA hy506
       clear hy506
       have H' := mkA H
       clear H
       obtain ⟨hcz27_0, hcz27_1, hcz27_2, hcz27_3, hfz27_0, hfz27_1, hfz27_2, hfz27_3⟩ := z4_ BK482.out
       try go_wp2_with (first | ((with_reducible refine gk_ 79 ?_); refine gl_ (some 22) Try.func79 #[.agg #[.string a0_0, .slice A0_1 l0_1.length c0_1, .int .i64 a0_2, .bool a0_3], .int .i64 x6_1] ?_; (with_reducible refine (impl_turnedCells.calls kj10 a0_0 _ _ l0_1 a0_2 a0_3 x6_1 t492 _ ?side1 ?side2 A15.out).mono ?_); (case side1 => exact cb_ HR0_1.out HB.out); (case side2 => exact HC0_1.out); rintro e w28 ⟨v493, rfl, ho0, hb⟩; refine ⟨_, rfl, ?_⟩; replace HO_4 := mkA (Kd.R_below (r_ HO_4.out) hb); replace HO_5 := mkA (Kd.N_elder' (n_ HO_5.out) (Kd.R_base ho0) hb); have HO494 := mkA (Kd.R_lower (Kd.R_newM (M := fun k_ => (w.heap.size ≤ k_)) ho0 (below_size (bs1_ HB.out GE482.out)) (fun k_ h_ => h_)) (below_size (bs1_ HB.out GE482.out))); replace BK482 := mkA (blk_below (bl_ BK482.out) hb); replace HB := mkA (below_step (bs1_ HB.out GE482.out) hb); (try clear hb); (try clear hb2); (try clear hk); (try clear hi); (try clear ho0)) | ((with_reducible refine gt_ 7 ?_); refine bx_ 7 #[.slice none 0 0] 51 fun gb495 hg w29 hbox hb => ?_; replace HO_4 := mkA (Kd.R_below (r_ HO_4.out) hb); replace HO_5 := mkA (Kd.N_below (Kd.N_elderB (n_ HO_5.out) gb495 (Nat.le_of_eq hg.symm)) hb); replace HO494 := mkA (Kd.R_below (r_ HO494.out) hb); have BK495 := mkA (hbox); have GW495 := gs_ hg (bs1_ HB.out GE482.out); have GE495 := GW495; replace HB := mkA (below_step (bs1_ HB.out GE482.out) hb); have NB482_495 := nl_ hg (bl_ BK482.out); have NB495_482 := nr_ hg (bl_ BK482.out); replace BK482 := mkA (blk_below (bl_ BK482.out) hb); clear hb hbox hg; obtain ⟨Ao30, co30, eo30⟩ := Kd.R_slice HO494.out; subst eo30; have hnb31 := NB495_482.out; have hnc31 := NB482_495.out; obtain ⟨hcz32_0, hfz32_0⟩ := z1_ BK495.out; obtain ⟨Ao33, co33, eo33⟩ := Kd.N_slice HO_5.out; subst eo33) | ((with_reducible refine gk_ 97 ?_); refine gl_ (some 25) Try.func97 #[.slice Ao33 x5_1.length co33, .func (.func 98) #[] #[.pointer (some ⟨gb495, 0, none⟩)]] ?_; (with_reducible refine (fi97_98.calls kj10 _ _ x5_1 _ [t492] false _ ?side1 ?side2 ?side3 A16.out).mono ?_); (case side1 => refine (Kd.N_reads' (e := 51) (base := w.heap.size) (ok := fun k_ => ((((w.heap.size ≤ k_) ∧ (some k_ ≠ (u4 : Value).ownBlock ∧ k_ ≠ gb482)) ∧ some k_ ≠ (.slice Ao30 t492.length co30 : Value).ownBlock) ∧ k_ ≠ gb495)) (n := x5_1.length) (c := co33) ?_).2.2; exact (by refine n_ ?_; exact (Kd.N_mono (Kd.N_far (p := ⟨gb495, 0, none⟩) (Kd.N_mono HO_5.out (fun k_ hk => (⟨hk, hk.2⟩ : _ ∧ k_ ≠ gb495))) (fun _ hk => hk.2) (.slice Ao30 t492.length co30)) (fun _ h_ => h_.1)))); (case side2 => exact (Kd.N_reads' HO_5.out).2.1); (case side3 => exact Go.Proofs.YtakagkflgkoiiaaX.rp_box (t := 51) (fr := (0, 0)) (by refine bl_ ?_; refine blk_put (cs := #[.slice none 0 0]) ?_ 0 _ rfl; refine bl_ ?_; exact BK495.out) ⟨_, _, rfl, (by exact (Kd.R_reads' HO494.out).2.1), (by refine (Kd.R_reads' (e := 105) (base := w.heap.size) (ok := fun k_ => ((w.heap.size ≤ k_) ∧ True)) (n := t492.length) (c := co30) ?_).2.2; exact (by refine r_ ?_; exact (Kd.R_mono (Kd.R_far (p := ⟨gb495, 0, none⟩) (Kd.R_types HO494.out BK495.out (by decide)) (fun _ hk => hk.2) (.slice Ao30 t492.length co30)) (fun _ h_ => h_.1))))⟩); rintro e w' ⟨rfl, ⟨nd, rfl⟩⟩; refine ⟨_, rfl, ?_⟩; obtain ⟨Ao34, co34, eo34⟩ := Kd.R_slice HO_4.out; subst eo34))
       have n0_ : Aside0 (Kd.R (Kd.int .i64) 2 (w29.setCell ⟨gb495, 0, none⟩ (.slice Ao30 t492.length co30)) w.heap.size (fun k_ => (w.heap.size ≤ k_)) (.slice Ao34 x4_1.length co34) x4_1) := ⟨by refine r_ ?_; exact Kd.R_mono (Kd.R_far (p := ⟨gb495, 0, none⟩) (Kd.R_types HO_4.out BK495.out (by decide)) (fun _ hk => hk.2) (.slice Ao30 t492.length co30)) (fun _ hk => hk.1)⟩
       have n1_ : Aside0 (Kd.N (Kd.slice 105 k105) 51 (w29.setCell ⟨gb495, 0, none⟩ (.slice Ao30 t492.length co30)) w.heap.size (fun k_ => (w.heap.size ≤ k_) ∧ some k_ ≠ (.slice Ao34 x4_1.length co34 : Value).ownBlock ∧ some k_ ≠ (.slice Ao30 t492.length co30 : Value).ownBlock ∧ k_ ≠ gb482 ∧ k_ ≠ gb495) (.slice Ao33 x5_1.length co33) x5_1) := ⟨by refine n_ ?_; exact Kd.N_mono (Kd.N_far (p := ⟨gb495, 0, none⟩) (Kd.N_mono HO_5.out (fun k_ hk => (⟨hk, hk.2⟩ : _ ∧ k_ ≠ gb495))) (fun _ hk => hk.2) (.slice Ao30 t492.length co30)) (fun _ hk => ⟨hk.1.1.1.1, ⟨hk.1.1.1.2.1, ⟨hk.1.1.2, ⟨hk.1.1.1.2.2, hk.1.2⟩⟩⟩⟩)⟩
       have n2_ : Aside0 (Kd.R k105 105 (w29.setCell ⟨gb495, 0, none⟩ (.slice Ao30 t492.length co30)) w.heap.size (fun k_ => (w.heap.size ≤ k_)) (.slice Ao30 t492.length co30) t492) := ⟨by refine r_ ?_; exact Kd.R_mono (Kd.R_far (p := ⟨gb495, 0, none⟩) (Kd.R_types HO494.out BK495.out (by decide)) (fun _ hk => hk.2) (.slice Ao30 t492.length co30)) (fun _ hk => hk.1.1)⟩
       have n3_ : Aside0 ((w29.setCell ⟨gb495, 0, none⟩ (.slice Ao30 t492.length co30)).heap[gb482]? = some (.cells #[.string a0_0, .slice A0_1 l0_1.length c0_1, .int .i64 a0_2, .bool a0_3] 53 (0, 0))) := ⟨by refine bl_ ?_; refine blk_far ?_ NB482_495.out _; refine bl_ ?_; exact BK482.out⟩
       have n4_ : Aside0 ((w29.setCell ⟨gb495, 0, none⟩ (.slice Ao30 t492.length co30)).heap[gb495]? = some (.cells #[.slice Ao30 t492.length co30] 51 (0, 0))) := ⟨by refine bl_ ?_; refine blk_put (cs := #[.slice none 0 0]) ?_ 0 _ rfl; refine bl_ ?_; exact BK495.out⟩
       have n5_ : Aside0 (Below w.heap.size w (w29.setCell ⟨gb495, 0, none⟩ (.slice Ao30 t492.length co30))) := ⟨bs2_ HB.out GE482.out GE495.out⟩
       (try clear HO_4)
       (try clear HO_5)
       (try clear HO494)
       (try clear BK482)
       (try clear BK495)
       (try clear HB)
       generalize (w29.setCell ⟨gb495, 0, none⟩ (.slice Ao30 t492.length co30)) = w35 at n0_ n1_ n2_ n3_ n4_ n5_ ⊢
       have HO_4 := n0_
       have HO_5 := n1_
       have HO494 := n2_
       have BK482 := n3_
       have BK495 := n4_
       have HB := n5_
       clear n0_ n1_ n2_ n3_ n4_ n5_
       (try (rw [drewN_self w35]; generalize hq_ : World.drewN w35 _ = w35; have n0_ : Aside0 (Kd.R k105 105 w35 w.heap.size (fun k_ => (w.heap.size ≤ k_)) (.slice Ao30 t492.length co30) t492) := ⟨by rw [← hq_]; exact (r_ HO494.out)⟩; have n1_ : Aside0 (Kd.R (Kd.int .i64) 2 w35 w.heap.size (fun k_ => (w.heap.size ≤ k_)) (.slice Ao34 x4_1.length co34) x4_1) := ⟨by rw [← hq_]; exact (r_ HO_4.out)⟩; have n2_ : Aside0 (Kd.N (Kd.slice 105 k105) 51 w35 w.heap.size (fun k_ => (((w.heap.size ≤ k_)) ∧ (some k_ ≠ (.slice Ao34 x4_1.length co34 : Value).ownBlock ∧ (some k_ ≠ (.slice Ao30 t492.length co30 : Value).ownBlock ∧ (k_ ≠ gb482 ∧ k_ ≠ gb495))))) (.slice Ao33 x5_1.length co33) x5_1) := ⟨by rw [← hq_]; exact (n_ HO_5.out)⟩; have n3_ : Aside0 (w35.heap[gb482]? = some (.cells #[.string a0_0, .slice A0_1 l0_1.length c0_1, .int .i64 a0_2, .bool a0_3] 53 (0, 0))) := ⟨by rw [← hq_]; exact (bl_ BK482.out)⟩; have n4_ : Aside0 (w35.heap[gb495]? = some (.cells #[.slice Ao30 t492.length co30] 51 (0, 0))) := ⟨by rw [← hq_]; exact (bl_ BK495.out)⟩; have n5_ : Aside0 (Below w.heap.size w w35) := ⟨by rw [← hq_]; exact (bs2_ HB.out GE482.out GE495.out)⟩; clear HO494 HO_4 HO_5 BK482 BK495 HB hq_; have HO494 := n0_; have HO_4 := n1_; have HO_5 := n2_; have BK482 := n3_; have BK495 := n4_; have HB := n5_; clear n0_ n1_ n2_ n3_ n4_ n5_))
       replace HO_4 := mkA (Kd.R_drew HO_4.out)
       replace HO_5 := mkA (Kd.N_drew HO_5.out)
       replace HO494 := mkA (Kd.R_drew HO494.out)
       replace BK482 := mkA (blk_drew BK482.out)
       replace BK495 := mkA (blk_drew BK495.out)
       replace HB := mkA (below_drew1 HB.out)
       refine st_ 10 (fun w' => w'.cell? ⟨gb495, 0, none⟩ = some (.slice Ao30 t492.length co30)) [] impl_pieceTurns.tab7 impl_pieceTurns.bits7 ((blk_cell BK495.out 0).trans rfl) fun hHeld HT_ HW_ => ?_
       generalize w35.drew = w36 at HO_4 HO_5 HO494 BK482 BK495 HB hHeld ⊢
       refine a1_ 0 27 (h := a1_ 1 28 (h := a1_ 4 31 (h := ?_)))
       refine take_ (i := 5) (N := some 32) (v := ?_) (a' := ?_) (fA 10 51) rfl rfl (take_ofW HT_.out HW_.out (by kernel_rfl)) (fun _ _ _ h => h) (Or.inl ⟨by rfl, ?_⟩) hHeld ?_ ?_
       rotate_left
       · intro w' s0
         go_simp
         with_reducible rfl
       rotate_left
       · simp only [Act.put, sA, sB, sC, i64_w, i32_w]
         rfl
       refine join_ (σ := Value × Value × Value) 3 (fA 10 127) (fun s_ => [(29, s_.1), (30, s_.2.1), (33, s_.2.2)]) (fun s_ w' => (w'.cell? ⟨gb495, 0, none⟩ = some (.slice Ao30 t492.length co30)) ∧ (Kd.R (Kd.int .i64) 2 w' w.heap.size (fun k_ => (w.heap.size ≤ k_) ∧ some k_ ≠ (s_.2.1 : Value).ownBlock) s_.1 y497) ∧ (Kd.R (Kd.int .i64) 2 w' w.heap.size (fun k_ => (w.heap.size ≤ k_) ∧ some k_ ≠ (s_.1 : Value).ownBlock) s_.2.1 y500) ∧ (Kd.N (Kd.slice 105 k105) 51 w' w.heap.size (fun k_ => (w.heap.size ≤ k_) ∧ some k_ ≠ (s_.1 : Value).ownBlock ∧ some k_ ≠ (s_.2.1 : Value).ownBlock ∧ some k_ ≠ (.slice Ao33 x5_1.length co33 : Value).ownBlock ∧ k_ ≠ gb482 ∧ k_ ≠ gb495) s_.2.2 y503) ∧ (Kd.N (Kd.slice 105 k105) 51 w' w.heap.size (fun k_ => (w.heap.size ≤ k_) ∧ some k_ ≠ (s_.1 : Value).ownBlock ∧ some k_ ≠ (s_.2.1 : Value).ownBlock ∧ some k_ ≠ (s_.2.2 : Value).ownBlock ∧ k_ ≠ gb482 ∧ k_ ≠ gb495) (.slice Ao33 x5_1.length co33) x5_1) ∧ (w'.heap[gb482]? = some (.cells #[.string a0_0, .slice A0_1 l0_1.length c0_1, .int .i64 a0_2, .bool a0_3] 53 (0, 0))) ∧ (w'.heap[gb495]? = some (.cells #[.slice Ao30 t492.length co30] 51 (0, 0))) ∧ (Below w.heap.size w w')) ?_ ?_
       rotate_left
       · intro hCont
         refine two_ (i := 2) (j := 6) (Ni := some 29) (Nj := some 33) (fA 10 55) (fA 10 115) rfl rfl rfl rfl (two_of HT_.out (by kernel_rfl)) (by decide) (by decide) (fun K hK => ?_) (fun K hK => ?_)
         · skip
           refine Kd.R_lit_step (Kd.int .i64) _ 2 ?hg (N := 29) ?hd (xs := ([x6_1] : List Int)) (inner := [.int .i64 x6_1]) (ok := fun _ => True) (okp := fun _ => True) ?hr ?hp (fun _ hk => hk) trivial (Below.refl _ _) (Nat.le_refl _) (by simp) ?_; (case hd => rfl); (case hg => rfl); (case hr => first | (go_simp; done) | (go_simp; rfl)); (case hp => exact (Reps.one (show Kd.M (Kd.int .i64) _ _ _ x6_1 [.int .i64 x6_1] from rfl) (Reps.none _ _)))
           intro v498 w37 ho38 hb hg_ hnew_
           clear hg_ hnew_
           (first | rw [← Ny497.out] at ho38 | (simp only [Int.reduceToNat] at ho38; rw [← Ny497.out] at ho38))
           replace HO_5 := mkA (Kd.N_elder' (n_ HO_5.out) (Kd.R_base ho38) hb)
           replace HO494 := mkA (Kd.R_below (r_ HO494.out) hb)
           have HO499 := mkA (Kd.R_lower (Kd.R_new' (Kd.R_newM (M := fun k_ => (w.heap.size ≤ k_)) ho38 (below_size (bs2_ HB.out GE482.out GE495.out)) (fun k_ h_ => h_)) (Kd.R_lt (r_ HO_4.out))) (below_size (bs2_ HB.out GE482.out GE495.out)))
           replace HO_4 := mkA (Kd.R_elder' (r_ HO_4.out) (Kd.R_base ho38) hb)
           replace BK482 := mkA (blk_below (bl_ BK482.out) hb)
           replace BK495 := mkA (blk_below (bl_ BK495.out) hb)
           replace HB := mkA (below_step (bs2_ HB.out GE482.out GE495.out) hb)
           clear hb ho38
           obtain ⟨Ao40, co40, eo40⟩ := Kd.R_slice HO499.out
           (first | subst eo40 | (injection eo40 with f1_ f2_ f3_; have f4_ := f1_.symm; have f5_ := f3_.symm; clear f1_ f2_ f3_; subst f4_; subst f5_))
           refine hK.out _ _ sp_ fun hHeld => ?_
           clear hK K
           refine nm_ 29 ?_
           refine two_ (i := 3) (j := 6) (Ni := some 30) (Nj := some 33) (fA 10 63) (fA 10 119) rfl rfl rfl rfl (two_of HT_.out (by kernel_rfl)) (by decide) (by decide) (fun K hK => ?_) (fun K hK => ?_)
           · skip
             refine Kd.R_append_rows_step (Kd.int .i64) (w0 := w) w.heap.size (by rfl) (.tmp 27) (.tmp 29) 22 2 (.int .i64 0) 8 rfl Try.underlying22 info2 rfl (by decide) (by omega) (.slice Ao34 x4_1.length co34) x4_1 y497 _ _ _ (fun k_ => (w.heap.size ≤ k_) ∧ some k_ ≠ (.slice Ao40 y497.length co40 : Value).ownBlock) (fun _ => False) rfl rfl ?aO ?aR (fun _ _ h => h) (fun _ h => h.elim) ?aF ?aB ?aS ?aL ?_
             (case aR => repeat (first | exact (Kd.R_reads' HO499.out).2.2 | (with_reducible refine Kd.C_alloc ?_ _) | (with_reducible refine Kd.C_drewN ?_ _) | (with_reducible refine Kd.C_drew ?_)))
             (case aB => exact (bs2_ HB.out GE482.out GE495.out))
             (case aF => exact (fun k_ hk => ⟨(Nat.le_trans (below_size (bs2_ HB.out GE482.out GE495.out)) hk), Kd.fresh' (Kd.R_lt (r_ HO499.out)) k_ hk⟩))
             (case aO => exact (r_ HO_4.out))
             (case aS => exact (below_size (bs2_ HB.out GE482.out GE495.out)))
             (case aL => have := LMc25.out; omega)
             intro v501 w39 ho hb hg hat
             rw [← Ny500.out] at ho
             replace HO_5 := mkA (Kd.N_afterv (ok := (fun k_ => (w.heap.size ≤ k_) ∧ some k_ ≠ (.slice Ao30 t492.length co30 : Value).ownBlock ∧ some k_ ≠ (.slice Ao40 y497.length co40 : Value).ownBlock ∧ k_ ≠ gb482 ∧ k_ ≠ gb495)) (by refine n_ ?_; exact Kd.N_mono HO_5.out (fun _ hk => ⟨⟨hk.1.1, ⟨hk.1.2.2.1, ⟨hk.2, ⟨hk.1.2.2.2.1, hk.1.2.2.2.2⟩⟩⟩⟩, hk.1.2.1⟩)) hg hat)
             replace BK482 := mkA (blk_grown (g := gb482) (o := .cells #[.string a0_0, .slice A0_1 l0_1.length c0_1, .int .i64 a0_2, .bool a0_3] 53 (0, 0)) (bl_ BK482.out) hg (Kd.R_ne HO_4.out BK482.out (by decide)))
             replace HO494 := mkA (Kd.R_over' (r_ HO494.out) (Kd.R_typed (r_ HO_4.out)) (by decide) hg)
             replace BK495 := mkA (blk_grown (g := gb495) (o := .cells #[.slice Ao30 t492.length co30] 51 (0, 0)) (bl_ BK495.out) hg (Kd.R_ne HO_4.out BK495.out (by decide)))
             replace HO499 := mkA (Kd.R_after (ok := (fun k_ => (w.heap.size ≤ k_))) (by refine r_ ?_; exact Kd.R_mono HO499.out (fun _ hk => ⟨hk.1.1, hk.2⟩)) hg hat)
             replace HB := mkA (hb)
             have HO502 := mkA (ho)
             clear HO_4
             clear ho hb hg hat
             refine hK.out _ _ sp_ fun hHeld => ?_
             clear hK K
             refine nm_ 30 ?_
             refine on_ 6 33 fun K hK => ?_
             refine Kd.N_lit_step (Kd.slice 105 k105) _ 51 ?hg (N' := 33) ?hd (xs := ([t492] : List (List (S105)))) (inner := [.slice Ao30 t492.length co30]) (ok := (fun k_ => (w.heap.size ≤ k_) ∧ some k_ ≠ (.slice Ao33 x5_1.length co33 : Value).ownBlock ∧ some k_ ≠ (.slice Ao40 y497.length co40 : Value).ownBlock ∧ some k_ ≠ (v501 : Value).ownBlock ∧ k_ ≠ gb482 ∧ k_ ≠ gb495)) (okp := (fun k_ => (w.heap.size ≤ k_) ∧ some k_ ≠ (.slice Ao33 x5_1.length co33 : Value).ownBlock ∧ some k_ ≠ (.slice Ao40 y497.length co40 : Value).ownBlock ∧ some k_ ≠ (v501 : Value).ownBlock ∧ k_ ≠ gb482 ∧ k_ ≠ gb495)) ?hr ?hp (fun _ hk => hk) ((show ∀ k_, w39.heap.size ≤ k_ → (fun k_ => (w.heap.size ≤ k_) ∧ some k_ ≠ (.slice Ao33 x5_1.length co33 : Value).ownBlock ∧ some k_ ≠ (.slice Ao40 y497.length co40 : Value).ownBlock ∧ some k_ ≠ (v501 : Value).ownBlock ∧ k_ ≠ gb482 ∧ k_ ≠ gb495) k_ from fun k_ hk => ⟨(Nat.le_trans (below_size (bs2_ HB.out GE482.out GE495.out)) hk), Kd.fresh' (Kd.N_lt (n_ HO_5.out)) k_ hk, Kd.fresh' (Kd.R_lt (r_ HO499.out)) k_ hk, Kd.fresh' (Kd.R_lt (r_ HO502.out)) k_ hk, Kd.freshB (g := gb482) (o := .cells #[.string a0_0, .slice A0_1 l0_1.length c0_1, .int .i64 a0_2, .bool a0_3] 53 (0, 0)) (bl_ BK482.out) k_ hk, Kd.freshB (g := gb495) (o := .cells #[.slice Ao30 t492.length co30] 51 (0, 0)) (bl_ BK495.out) k_ hk⟩) _ (Nat.le_refl _)) (Below.refl _ _) (Nat.le_refl _) (by simp) ?_; (case hd => rfl); (case hg => rfl); (case hr => first | (go_simp; done) | (go_simp; rfl)); (case hp => exact (Reps.one (show Kd.FK (Kd.slice 105 k105) _ _ t492 [.slice Ao30 t492.length co30] from (Kd.FK_slice_mk (Kd.R_reads' (Kd.R_mono (ok' := (fun k_ => (w.heap.size ≤ k_) ∧ some k_ ≠ (.slice Ao33 x5_1.length co33 : Value).ownBlock ∧ some k_ ≠ (.slice Ao40 y497.length co40 : Value).ownBlock ∧ some k_ ≠ (v501 : Value).ownBlock ∧ k_ ≠ gb482 ∧ k_ ≠ gb495)) (Kd.R_types (Kd.R_types (Kd.R_apart' (Kd.R_apart' (Kd.R_apart' (HO494.out) (Kd.N_typed HO_5.out) (by decide)) (Kd.R_typed HO499.out) (by decide)) (Kd.R_typed HO502.out) (by decide)) BK482.out (by decide)) BK495.out (by decide)) (fun k_ hk => ⟨hk.1.1.1.1.1, ⟨hk.1.1.1.1.2, ⟨hk.1.1.1.2, ⟨hk.1.1.2, ⟨hk.1.2, hk.2⟩⟩⟩⟩⟩))).2.1 (Kd.R_F (Kd.R_mono (ok' := (fun k_ => (w.heap.size ≤ k_) ∧ some k_ ≠ (.slice Ao33 x5_1.length co33 : Value).ownBlock ∧ some k_ ≠ (.slice Ao40 y497.length co40 : Value).ownBlock ∧ some k_ ≠ (v501 : Value).ownBlock ∧ k_ ≠ gb482 ∧ k_ ≠ gb495)) (Kd.R_types (Kd.R_types (Kd.R_apart' (Kd.R_apart' (Kd.R_apart' (HO494.out) (Kd.N_typed HO_5.out) (by decide)) (Kd.R_typed HO499.out) (by decide)) (Kd.R_typed HO502.out) (by decide)) BK482.out (by decide)) BK495.out (by decide)) (fun k_ hk => ⟨hk.1.1.1.1.1, ⟨hk.1.1.1.1.2, ⟨hk.1.1.1.2, ⟨hk.1.1.2, ⟨hk.1.2, hk.2⟩⟩⟩⟩⟩))))) (Reps.none _ _)))
             intro v504 w41 ho42 hb hg_ hnew_
             clear hg_ hnew_
             (first | rw [← Ny503.out] at ho42 | (simp only [Int.reduceToNat] at ho42; rw [← Ny503.out] at ho42))
             replace HO_5 := mkA (Kd.N_elder' (n_ HO_5.out) (Kd.N_base ho42) hb)
             replace HO499 := mkA (Kd.R_below (r_ HO499.out) hb)
             replace HO502 := mkA (Kd.R_below (r_ HO502.out) hb)
             have HO505 := mkA (Kd.N_lower ho42 (below_size (bs2_ HB.out GE482.out GE495.out)))
             replace BK482 := mkA (blk_below (bl_ BK482.out) hb)
             replace BK495 := mkA (blk_below (bl_ BK495.out) hb)
             replace HB := mkA (below_step (bs2_ HB.out GE482.out GE495.out) hb)
             clear HO494
             clear hb ho42
             refine hK.out _ _ sp_ fun hHeld => ?_
             clear hK K
             refine nm_ 33 ?_
             exact norm_ (by simp only [putAll, Act.put, sA, sB, sC]) (hCont (.slice Ao40 y497.length co40, v501, v504) _ ⟨hHeld, (r_ HO499.out), (r_ HO502.out), (by refine n_ ?_; exact Kd.N_mono HO505.out (fun _ hk => ⟨hk.1, ⟨hk.2.2.1, ⟨hk.2.2.2.1, ⟨hk.2.1, ⟨hk.2.2.2.2.1, hk.2.2.2.2.2⟩⟩⟩⟩⟩)), (by refine n_ ?_; exact Kd.N_mono HO_5.out (fun _ hk => ⟨hk.1.1.1, ⟨hk.1.1.2.2.1, ⟨hk.1.2, ⟨hk.2, ⟨hk.1.1.2.2.2.1, hk.1.1.2.2.2.2⟩⟩⟩⟩⟩)), (bl_ BK482.out), (bl_ BK495.out), (bs2_ HB.out GE482.out GE495.out)⟩)
           · skip
             refine Kd.N_lit_step (Kd.slice 105 k105) _ 51 ?hg (N' := 33) ?hd (xs := ([t492] : List (List (S105)))) (inner := [.slice Ao30 t492.length co30]) (ok := (fun k_ => (w.heap.size ≤ k_) ∧ some k_ ≠ (.slice Ao34 x4_1.length co34 : Value).ownBlock ∧ some k_ ≠ (.slice Ao33 x5_1.length co33 : Value).ownBlock ∧ some k_ ≠ (.slice Ao40 y497.length co40 : Value).ownBlock ∧ k_ ≠ gb482 ∧ k_ ≠ gb495)) (okp := (fun k_ => (w.heap.size ≤ k_) ∧ some k_ ≠ (.slice Ao34 x4_1.length co34 : Value).ownBlock ∧ some k_ ≠ (.slice Ao33 x5_1.length co33 : Value).ownBlock ∧ some k_ ≠ (.slice Ao40 y497.length co40 : Value).ownBlock ∧ k_ ≠ gb482 ∧ k_ ≠ gb495)) ?hr ?hp (fun _ hk => hk) ((show ∀ k_, w37.heap.size ≤ k_ → (fun k_ => (w.heap.size ≤ k_) ∧ some k_ ≠ (.slice Ao34 x4_1.length co34 : Value).ownBlock ∧ some k_ ≠ (.slice Ao33 x5_1.length co33 : Value).ownBlock ∧ some k_ ≠ (.slice Ao40 y497.length co40 : Value).ownBlock ∧ k_ ≠ gb482 ∧ k_ ≠ gb495) k_ from fun k_ hk => ⟨(Nat.le_trans (below_size (bs2_ HB.out GE482.out GE495.out)) hk), Kd.fresh' (Kd.R_lt (r_ HO_4.out)) k_ hk, Kd.fresh' (Kd.N_lt (n_ HO_5.out)) k_ hk, Kd.fresh' (Kd.R_lt (r_ HO499.out)) k_ hk, Kd.freshB (g := gb482) (o := .cells #[.string a0_0, .slice A0_1 l0_1.length c0_1, .int .i64 a0_2, .bool a0_3] 53 (0, 0)) (bl_ BK482.out) k_ hk, Kd.freshB (g := gb495) (o := .cells #[.slice Ao30 t492.length co30] 51 (0, 0)) (bl_ BK495.out) k_ hk⟩) _ (Nat.le_refl _)) (Below.refl _ _) (Nat.le_refl _) (by simp) ?_; (case hd => rfl); (case hg => rfl); (case hr => first | (go_simp; done) | (go_simp; rfl)); (case hp => exact (Reps.one (show Kd.FK (Kd.slice 105 k105) _ _ t492 [.slice Ao30 t492.length co30] from (Kd.FK_slice_mk (Kd.R_reads' (Kd.R_mono (ok' := (fun k_ => (w.heap.size ≤ k_) ∧ some k_ ≠ (.slice Ao34 x4_1.length co34 : Value).ownBlock ∧ some k_ ≠ (.slice Ao33 x5_1.length co33 : Value).ownBlock ∧ some k_ ≠ (.slice Ao40 y497.length co40 : Value).ownBlock ∧ k_ ≠ gb482 ∧ k_ ≠ gb495)) (Kd.R_types (Kd.R_types (Kd.R_apart' (Kd.R_apart' (Kd.R_apart' (HO494.out) (Kd.R_typed HO_4.out) (by decide)) (Kd.N_typed HO_5.out) (by decide)) (Kd.R_typed HO499.out) (by decide)) BK482.out (by decide)) BK495.out (by decide)) (fun k_ hk => ⟨hk.1.1.1.1.1, ⟨hk.1.1.1.1.2, ⟨hk.1.1.1.2, ⟨hk.1.1.2, ⟨hk.1.2, hk.2⟩⟩⟩⟩⟩))).2.1 (Kd.R_F (Kd.R_mono (ok' := (fun k_ => (w.heap.size ≤ k_) ∧ some k_ ≠ (.slice Ao34 x4_1.length co34 : Value).ownBlock ∧ some k_ ≠ (.slice Ao33 x5_1.length co33 : Value).ownBlock ∧ some k_ ≠ (.slice Ao40 y497.length co40 : Value).ownBlock ∧ k_ ≠ gb482 ∧ k_ ≠ gb495)) (Kd.R_types (Kd.R_types (Kd.R_apart' (Kd.R_apart' (Kd.R_apart' (HO494.out) (Kd.R_typed HO_4.out) (by decide)) (Kd.N_typed HO_5.out) (by decide)) (Kd.R_typed HO499.out) (by decide)) BK482.out (by decide)) BK495.out (by decide)) (fun k_ hk => ⟨hk.1.1.1.1.1, ⟨hk.1.1.1.1.2, ⟨hk.1.1.1.2, ⟨hk.1.1.2, ⟨hk.1.2, hk.2⟩⟩⟩⟩⟩))))) (Reps.none _ _)))
             intro v504 w39 ho40 hb hg_ hnew_
             clear hg_ hnew_
             (first | rw [← Ny503.out] at ho40 | (simp only [Int.reduceToNat] at ho40; rw [← Ny503.out] at ho40))
             replace HO_4 := mkA (Kd.R_below (r_ HO_4.out) hb)
             replace HO_5 := mkA (Kd.N_elder' (n_ HO_5.out) (Kd.N_base ho40) hb)
             replace HO499 := mkA (Kd.R_below (r_ HO499.out) hb)
             have HO505 := mkA (Kd.N_lower ho40 (below_size (bs2_ HB.out GE482.out GE495.out)))
             replace BK482 := mkA (blk_below (bl_ BK482.out) hb)
             replace BK495 := mkA (blk_below (bl_ BK495.out) hb)
             replace HB := mkA (below_step (bs2_ HB.out GE482.out GE495.out) hb)
             clear HO494
             clear hb ho40
             obtain ⟨Ao42, co42, eo42⟩ := Kd.R_slice HO499.out
             (first | subst eo42 | (injection eo42 with f1_ f2_ f3_; have f4_ := f1_.symm; have f5_ := f3_.symm; clear f1_ f2_ f3_; subst f4_; subst f5_))
             refine hK.out _ _ sp_ fun hHeld => ?_
             clear hK K
             refine nm_ 33 ?_
             refine on_ 3 30 fun K hK => ?_
             refine Kd.R_append_rows_step (Kd.int .i64) (w0 := w) w.heap.size (by rfl) (.tmp 27) (.tmp 29) 22 2 (.int .i64 0) 8 rfl Try.underlying22 info2 rfl (by decide) (by omega) (.slice Ao34 x4_1.length co34) x4_1 y497 _ _ _ (fun k_ => (w.heap.size ≤ k_) ∧ some k_ ≠ (.slice Ao42 y497.length co42 : Value).ownBlock) (fun _ => False) rfl rfl ?aO ?aR (fun _ _ h => h) (fun _ h => h.elim) ?aF ?aB ?aS ?aL ?_
             (case aR => repeat (first | exact (Kd.R_reads' HO499.out).2.2 | (with_reducible refine Kd.C_alloc ?_ _) | (with_reducible refine Kd.C_drewN ?_ _) | (with_reducible refine Kd.C_drew ?_)))
             (case aB => exact (bs2_ HB.out GE482.out GE495.out))
             (case aF => exact (fun k_ hk => ⟨(Nat.le_trans (below_size (bs2_ HB.out GE482.out GE495.out)) hk), Kd.fresh' (Kd.R_lt (r_ HO499.out)) k_ hk⟩))
             (case aO => exact (r_ HO_4.out))
             (case aS => exact (below_size (bs2_ HB.out GE482.out GE495.out)))
             (case aL => have := LMc25.out; omega)
             intro v501 w41 ho hb hg hat
             rw [← Ny500.out] at ho
             replace HO_5 := mkA (Kd.N_afterv (ok := (fun k_ => (w.heap.size ≤ k_) ∧ some k_ ≠ (.slice Ao42 y497.length co42 : Value).ownBlock ∧ some k_ ≠ (v504 : Value).ownBlock ∧ k_ ≠ gb482 ∧ k_ ≠ gb495)) (by refine n_ ?_; exact Kd.N_mono HO_5.out (fun _ hk => ⟨⟨hk.1.1.1, ⟨hk.1.2, ⟨hk.2, ⟨hk.1.1.2.2.2.1, hk.1.1.2.2.2.2⟩⟩⟩⟩, hk.1.1.2.1⟩)) hg hat)
             replace BK482 := mkA (blk_grown (g := gb482) (o := .cells #[.string a0_0, .slice A0_1 l0_1.length c0_1, .int .i64 a0_2, .bool a0_3] 53 (0, 0)) (bl_ BK482.out) hg (Kd.R_ne HO_4.out BK482.out (by decide)))
             replace BK495 := mkA (blk_grown (g := gb495) (o := .cells #[.slice Ao30 t492.length co30] 51 (0, 0)) (bl_ BK495.out) hg (Kd.R_ne HO_4.out BK495.out (by decide)))
             replace HO499 := mkA (Kd.R_after (ok := (fun k_ => (w.heap.size ≤ k_))) (by refine r_ ?_; exact Kd.R_mono HO499.out (fun _ hk => ⟨hk.1.1, hk.2⟩)) hg hat)
             replace HO505 := mkA (Kd.N_afterv (ok := (fun k_ => (w.heap.size ≤ k_) ∧ some k_ ≠ (.slice Ao33 x5_1.length co33 : Value).ownBlock ∧ some k_ ≠ (.slice Ao42 y497.length co42 : Value).ownBlock ∧ k_ ≠ gb482 ∧ k_ ≠ gb495)) (by refine n_ ?_; exact Kd.N_mono HO505.out (fun _ hk => ⟨⟨hk.1, ⟨hk.2.2.1, ⟨hk.2.2.2.1, ⟨hk.2.2.2.2.1, hk.2.2.2.2.2⟩⟩⟩⟩, hk.2.1⟩)) hg hat)
             replace HB := mkA (hb)
             have HO502 := mkA (ho)
             clear HO_4
             clear ho hb hg hat
             refine hK.out _ _ sp_ fun hHeld => ?_
             clear hK K
             refine nm_ 30 ?_
             exact norm_ (by simp only [putAll, Act.put, sA, sB, sC]) (hCont (.slice Ao42 y497.length co42, v501, v504) _ ⟨hHeld, (r_ HO499.out), (r_ HO502.out), (by refine n_ ?_; exact Kd.N_mono HO505.out (fun _ hk => ⟨hk.1.1, ⟨hk.1.2.2.1, ⟨hk.2, ⟨hk.1.2.1, ⟨hk.1.2.2.2.1, hk.1.2.2.2.2⟩⟩⟩⟩⟩)), (by refine n_ ?_; exact Kd.N_mono HO_5.out (fun _ hk => ⟨hk.1.1, ⟨hk.1.2.1, ⟨hk.2, ⟨hk.1.2.2.1, ⟨hk.1.2.2.2.1, hk.1.2.2.2.2⟩⟩⟩⟩⟩)), (bl_ BK482.out), (bl_ BK495.out), (bs2_ HB.out GE482.out GE495.out)⟩)
         · skip
           refine Kd.N_lit_step (Kd.slice 105 k105) _ 51 ?hg (N' := 33) ?hd (xs := ([t492] : List (List (S105)))) (inner := [.slice Ao30 t492.length co30]) (ok := (fun k_ => (w.heap.size ≤ k_) ∧ some k_ ≠ (.slice Ao34 x4_1.length co34 : Value).ownBlock ∧ some k_ ≠ (.slice Ao33 x5_1.length co33 : Value).ownBlock ∧ k_ ≠ gb482 ∧ k_ ≠ gb495)) (okp := (fun k_ => (w.heap.size ≤ k_) ∧ some k_ ≠ (.slice Ao34 x4_1.length co34 : Value).ownBlock ∧ some k_ ≠ (.slice Ao33 x5_1.length co33 : Value).ownBlock ∧ k_ ≠ gb482 ∧ k_ ≠ gb495)) ?hr ?hp (fun _ hk => hk) ((show ∀ k_, w36.heap.size ≤ k_ → (fun k_ => (w.heap.size ≤ k_) ∧ some k_ ≠ (.slice Ao34 x4_1.length co34 : Value).ownBlock ∧ some k_ ≠ (.slice Ao33 x5_1.length co33 : Value).ownBlock ∧ k_ ≠ gb482 ∧ k_ ≠ gb495) k_ from fun k_ hk => ⟨(Nat.le_trans (below_size (bs2_ HB.out GE482.out GE495.out)) hk), Kd.fresh' (Kd.R_lt (r_ HO_4.out)) k_ hk, Kd.fresh' (Kd.N_lt (n_ HO_5.out)) k_ hk, Kd.freshB (g := gb482) (o := .cells #[.string a0_0, .slice A0_1 l0_1.length c0_1, .int .i64 a0_2, .bool a0_3] 53 (0, 0)) (bl_ BK482.out) k_ hk, Kd.freshB (g := gb495) (o := .cells #[.slice Ao30 t492.length co30] 51 (0, 0)) (bl_ BK495.out) k_ hk⟩) _ (Nat.le_refl _)) (Below.refl _ _) (Nat.le_refl _) (by simp) ?_; (case hd => rfl); (case hg => rfl); (case hr => first | (go_simp; done) | (go_simp; rfl)); (case hp => exact (Reps.one (show Kd.FK (Kd.slice 105 k105) _ _ t492 [.slice Ao30 t492.length co30] from (Kd.FK_slice_mk (Kd.R_reads' (Kd.R_mono (ok' := (fun k_ => (w.heap.size ≤ k_) ∧ some k_ ≠ (.slice Ao34 x4_1.length co34 : Value).ownBlock ∧ some k_ ≠ (.slice Ao33 x5_1.length co33 : Value).ownBlock ∧ k_ ≠ gb482 ∧ k_ ≠ gb495)) (Kd.R_types (Kd.R_types (Kd.R_apart' (Kd.R_apart' (HO494.out) (Kd.R_typed HO_4.out) (by decide)) (Kd.N_typed HO_5.out) (by decide)) BK482.out (by decide)) BK495.out (by decide)) (fun k_ hk => ⟨hk.1.1.1.1, ⟨hk.1.1.1.2, ⟨hk.1.1.2, ⟨hk.1.2, hk.2⟩⟩⟩⟩))).2.1 (Kd.R_F (Kd.R_mono (ok' := (fun k_ => (w.heap.size ≤ k_) ∧ some k_ ≠ (.slice Ao34 x4_1.length co34 : Value).ownBlock ∧ some k_ ≠ (.slice Ao33 x5_1.length co33 : Value).ownBlock ∧ k_ ≠ gb482 ∧ k_ ≠ gb495)) (Kd.R_types (Kd.R_types (Kd.R_apart' (Kd.R_apart' (HO494.out) (Kd.R_typed HO_4.out) (by decide)) (Kd.N_typed HO_5.out) (by decide)) BK482.out (by decide)) BK495.out (by decide)) (fun k_ hk => ⟨hk.1.1.1.1, ⟨hk.1.1.1.2, ⟨hk.1.1.2, ⟨hk.1.2, hk.2⟩⟩⟩⟩))))) (Reps.none _ _)))
           intro v504 w37 ho38 hb hg_ hnew_
           clear hg_ hnew_
           (first | rw [← Ny503.out] at ho38 | (simp only [Int.reduceToNat] at ho38; rw [← Ny503.out] at ho38))
           replace HO_4 := mkA (Kd.R_below (r_ HO_4.out) hb)
           replace HO_5 := mkA (Kd.N_elder' (n_ HO_5.out) (Kd.N_base ho38) hb)
           have HO505 := mkA (Kd.N_lower ho38 (below_size (bs2_ HB.out GE482.out GE495.out)))
           replace BK482 := mkA (blk_below (bl_ BK482.out) hb)
           replace BK495 := mkA (blk_below (bl_ BK495.out) hb)
           replace HB := mkA (below_step (bs2_ HB.out GE482.out GE495.out) hb)
           clear HO494
           clear hb ho38
           refine hK.out _ _ sp_ fun hHeld => ?_
           clear hK K
           refine nm_ 33 ?_
           refine on_ 2 29 fun K hK => ?_
           refine Kd.R_lit_step (Kd.int .i64) _ 2 ?hg (N := 29) ?hd (xs := ([x6_1] : List Int)) (inner := [.int .i64 x6_1]) (ok := fun _ => True) (okp := fun _ => True) ?hr ?hp (fun _ hk => hk) trivial (Below.refl _ _) (Nat.le_refl _) (by simp) ?_; (case hd => rfl); (case hg => rfl); (case hr => first | (go_simp; done) | (go_simp; rfl)); (case hp => exact (Reps.one (show Kd.M (Kd.int .i64) _ _ _ x6_1 [.int .i64 x6_1] from rfl) (Reps.none _ _)))
           intro v498 w39 ho40 hb hg_ hnew_
           clear hg_ hnew_
           (first | rw [← Ny497.out] at ho40 | (simp only [Int.reduceToNat] at ho40; rw [← Ny497.out] at ho40))
           replace HO_5 := mkA (Kd.N_elder' (n_ HO_5.out) (Kd.R_base ho40) hb)
           replace HO505 := mkA (Kd.N_elder' (n_ HO505.out) (Kd.R_base ho40) hb)
           have HO499 := mkA (Kd.R_lower (Kd.R_new' (Kd.R_newM (M := fun k_ => (w.heap.size ≤ k_)) ho40 (below_size (bs2_ HB.out GE482.out GE495.out)) (fun k_ h_ => h_)) (Kd.R_lt (r_ HO_4.out))) (below_size (bs2_ HB.out GE482.out GE495.out)))
           replace HO_4 := mkA (Kd.R_elder' (r_ HO_4.out) (Kd.R_base ho40) hb)
           replace BK482 := mkA (blk_below (bl_ BK482.out) hb)
           replace BK495 := mkA (blk_below (bl_ BK495.out) hb)
           replace HB := mkA (below_step (bs2_ HB.out GE482.out GE495.out) hb)
           clear hb ho40
           obtain ⟨Ao42, co42, eo42⟩ := Kd.R_slice HO499.out
           (first | subst eo42 | (injection eo42 with f1_ f2_ f3_; have f4_ := f1_.symm; have f5_ := f3_.symm; clear f1_ f2_ f3_; subst f4_; subst f5_))
           refine hK.out _ _ sp_ fun hHeld => ?_
           clear hK K
           refine nm_ 29 ?_
           refine on_ 3 30 fun K hK => ?_
           refine Kd.R_append_rows_step (Kd.int .i64) (w0 := w) w.heap.size (by rfl) (.tmp 27) (.tmp 29) 22 2 (.int .i64 0) 8 rfl Try.underlying22 info2 rfl (by decide) (by omega) (.slice Ao34 x4_1.length co34) x4_1 y497 _ _ _ (fun k_ => (w.heap.size ≤ k_) ∧ some k_ ≠ (.slice Ao42 y497.length co42 : Value).ownBlock) (fun _ => False) rfl rfl ?aO ?aR (fun _ _ h => h) (fun _ h => h.elim) ?aF ?aB ?aS ?aL ?_
           (case aR => repeat (first | exact (Kd.R_reads' HO499.out).2.2 | (with_reducible refine Kd.C_alloc ?_ _) | (with_reducible refine Kd.C_drewN ?_ _) | (with_reducible refine Kd.C_drew ?_)))
           (case aB => exact (bs2_ HB.out GE482.out GE495.out))
           (case aF => exact (fun k_ hk => ⟨(Nat.le_trans (below_size (bs2_ HB.out GE482.out GE495.out)) hk), Kd.fresh' (Kd.R_lt (r_ HO499.out)) k_ hk⟩))
           (case aO => exact (r_ HO_4.out))
           (case aS => exact (below_size (bs2_ HB.out GE482.out GE495.out)))
           (case aL => have := LMc25.out; omega)
           intro v501 w41 ho hb hg hat
           rw [← Ny500.out] at ho
           replace HO_5 := mkA (Kd.N_afterv (ok := (fun k_ => (w.heap.size ≤ k_) ∧ some k_ ≠ (v504 : Value).ownBlock ∧ some k_ ≠ (.slice Ao42 y497.length co42 : Value).ownBlock ∧ k_ ≠ gb482 ∧ k_ ≠ gb495)) (by refine n_ ?_; exact Kd.N_mono HO_5.out (fun _ hk => ⟨⟨hk.1.1.1, ⟨hk.1.2, ⟨hk.2, ⟨hk.1.1.2.2.2.1, hk.1.1.2.2.2.2⟩⟩⟩⟩, hk.1.1.2.1⟩)) hg hat)
           replace BK482 := mkA (blk_grown (g := gb482) (o := .cells #[.string a0_0, .slice A0_1 l0_1.length c0_1, .int .i64 a0_2, .bool a0_3] 53 (0, 0)) (bl_ BK482.out) hg (Kd.R_ne HO_4.out BK482.out (by decide)))
           replace BK495 := mkA (blk_grown (g := gb495) (o := .cells #[.slice Ao30 t492.length co30] 51 (0, 0)) (bl_ BK495.out) hg (Kd.R_ne HO_4.out BK495.out (by decide)))
           replace HO505 := mkA (Kd.N_afterv (ok := (fun k_ => (w.heap.size ≤ k_) ∧ some k_ ≠ (.slice Ao33 x5_1.length co33 : Value).ownBlock ∧ some k_ ≠ (.slice Ao42 y497.length co42 : Value).ownBlock ∧ k_ ≠ gb482 ∧ k_ ≠ gb495)) (by refine n_ ?_; exact Kd.N_mono HO505.out (fun _ hk => ⟨⟨hk.1.1, ⟨hk.1.2.2.1, ⟨hk.2, ⟨hk.1.2.2.2.1, hk.1.2.2.2.2⟩⟩⟩⟩, hk.1.2.1⟩)) hg hat)
           replace HO499 := mkA (Kd.R_after (ok := (fun k_ => (w.heap.size ≤ k_))) (by refine r_ ?_; exact Kd.R_mono HO499.out (fun _ hk => ⟨hk.1.1, hk.2⟩)) hg hat)
           replace HB := mkA (hb)
           have HO502 := mkA (ho)
           clear HO_4
           clear ho hb hg hat
           refine hK.out _ _ sp_ fun hHeld => ?_
           clear hK K
           refine nm_ 30 ?_
           exact norm_ (by simp only [putAll, Act.put, sA, sB, sC]) (hCont (.slice Ao42 y497.length co42, v501, v504) _ ⟨hHeld, (r_ HO499.out), (r_ HO502.out), (by refine n_ ?_; exact Kd.N_mono HO505.out (fun _ hk => ⟨hk.1.1, ⟨hk.1.2.2.1, ⟨hk.2, ⟨hk.1.2.1, ⟨hk.1.2.2.2.1, hk.1.2.2.2.2⟩⟩⟩⟩⟩)), (by refine n_ ?_; exact Kd.N_mono HO_5.out (fun _ hk => ⟨hk.1.1, ⟨hk.1.2.2.1, ⟨hk.2, ⟨hk.1.2.1, ⟨hk.1.2.2.2.1, hk.1.2.2.2.2⟩⟩⟩⟩⟩)), (bl_ BK482.out), (bl_ BK495.out), (bs2_ HB.out GE482.out GE495.out)⟩)
       rintro ⟨v498, v501, v504⟩ w43 ⟨hS_, h0_, h1_, h2_, h3_, h4_, h5_, h6_⟩
       have HO499 : Aside0 (Kd.R (Kd.int .i64) 2 w43 w.heap.size (fun k_ => (w.heap.size ≤ k_) ∧ some k_ ≠ (v501 : Value).ownBlock) v498 y497) := ⟨h0_⟩
       have HO502 : Aside0 (Kd.R (Kd.int .i64) 2 w43 w.heap.size (fun k_ => (w.heap.size ≤ k_) ∧ some k_ ≠ (v498 : Value).ownBlock) v501 y500) := ⟨h1_⟩
       have HO505 : Aside0 (Kd.N (Kd.slice 105 k105) 51 w43 w.heap.size (fun k_ => (w.heap.size ≤ k_) ∧ some k_ ≠ (v498 : Value).ownBlock ∧ some k_ ≠ (v501 : Value).ownBlock ∧ some k_ ≠ (.slice Ao33 x5_1.length co33 : Value).ownBlock ∧ k_ ≠ gb482 ∧ k_ ≠ gb495) v504 y503) := ⟨h2_⟩
       replace HO_5 : Aside0 (Kd.N (Kd.slice 105 k105) 51 w43 w.heap.size (fun k_ => (w.heap.size ≤ k_) ∧ some k_ ≠ (v498 : Value).ownBlock ∧ some k_ ≠ (v501 : Value).ownBlock ∧ some k_ ≠ (v504 : Value).ownBlock ∧ k_ ≠ gb482 ∧ k_ ≠ gb495) (.slice Ao33 x5_1.length co33) x5_1) := ⟨h3_⟩
       replace BK482 : Aside0 (w43.heap[gb482]? = some (.cells #[.string a0_0, .slice A0_1 l0_1.length c0_1, .int .i64 a0_2, .bool a0_3] 53 (0, 0))) := ⟨h4_⟩
       replace BK495 : Aside0 (w43.heap[gb495]? = some (.cells #[.slice Ao30 t492.length co30] 51 (0, 0))) := ⟨h5_⟩
       replace HB : Aside0 (Below w.heap.size w w43) := ⟨h6_⟩
       clear HO_4 HO494 h0_ h1_ h2_ h3_ h4_ h5_ h6_
       have hHeld : w43.cell? ⟨gb495, 0, none⟩ = some (.slice Ao30 t492.length co30) := hS_
       obtain ⟨Ao45, co45, eo45⟩ := Kd.N_slice HO505.out
       (first | subst eo45 | (injection eo45 with f1_ f2_ f3_; have f4_ := f1_.symm; have f5_ := f3_.symm; clear f1_ f2_ f3_; subst f4_; subst f5_))
       refine norm_ (a' := ?_) ?_ ?_
       rotate_left
       · simp only [putAll, Act.put, sA, sB, sC]
         rfl
       refine on_ 7 34 fun K hK => ?_
       refine Kd.N_append_rows_step (Kd.slice 105 k105) (w0 := w) w.heap.size (by rfl) (.tmp 31) (.tmp 33) 97 51 (.slice none 0 0) 24 rfl Try.underlying97 info51 rfl (by decide) (by omega) (.slice Ao33 x5_1.length co33) x5_1 y503 _ _ _ (fun k_ => (w.heap.size ≤ k_) ∧ some k_ ≠ (v498 : Value).ownBlock ∧ some k_ ≠ (v501 : Value).ownBlock ∧ k_ ≠ gb482 ∧ k_ ≠ gb495) (fun k_ => ((fun k_ => (w.heap.size ≤ k_) ∧ some k_ ≠ (v498 : Value).ownBlock ∧ some k_ ≠ (v501 : Value).ownBlock ∧ k_ ≠ gb482 ∧ k_ ≠ gb495)) k_ ∧ some k_ ≠ (.slice Ao33 x5_1.length co33 : Value).ownBlock) rfl rfl ?aO ?aR (fun _ hk => hk) ?aF ?aB ?aS ?aL ?_
       (case aR => exact (by skip; exact Kd.N_F (Kd.N_mono (ok' := (fun k_ => ((fun k_ => (w.heap.size ≤ k_) ∧ some k_ ≠ (v498 : Value).ownBlock ∧ some k_ ≠ (v501 : Value).ownBlock ∧ k_ ≠ gb482 ∧ k_ ≠ gb495)) k_ ∧ some k_ ≠ (.slice Ao33 x5_1.length co33 : Value).ownBlock)) (HO505.out) (fun k_ hk => ⟨⟨hk.1, ⟨hk.2.1, ⟨hk.2.2.1, ⟨hk.2.2.2.2.1, hk.2.2.2.2.2⟩⟩⟩⟩, hk.2.2.2.1⟩))))
       (case aB => exact (bs2_ HB.out GE482.out GE495.out))
       (case aF => exact (fun k_ hk => ⟨(Nat.le_trans (below_size (bs2_ HB.out GE482.out GE495.out)) hk), Kd.fresh' (Kd.R_lt (r_ HO499.out)) k_ hk, Kd.fresh' (Kd.R_lt (r_ HO502.out)) k_ hk, Kd.freshB (g := gb482) (o := .cells #[.string a0_0, .slice A0_1 l0_1.length c0_1, .int .i64 a0_2, .bool a0_3] 53 (0, 0)) (bl_ BK482.out) k_ hk, Kd.freshB (g := gb495) (o := .cells #[.slice Ao30 t492.length co30] 51 (0, 0)) (bl_ BK495.out) k_ hk⟩))
       (case aO => exact (by refine n_ ?_; exact Kd.N_mono HO_5.out (fun _ hk => ⟨hk.1, ⟨hk.2.1, ⟨hk.2.2.1, ⟨hk.2.2.2.2.1, hk.2.2.2.2.2⟩⟩⟩⟩)))
       (case aS => exact (below_size (bs2_ HB.out GE482.out GE495.out)))
       (case aL => have := LMc26.out; omega)
       intro v507 w44 ho hb hg hat
       rw [← Ny506.out] at ho
       replace BK482 := mkA (blk_grown (g := gb482) (o := .cells #[.string a0_0, .slice A0_1 l0_1.length c0_1, .int .i64 a0_2, .bool a0_3] 53 (0, 0)) (bl_ BK482.out) hg (Kd.N_ne HO_5.out BK482.out (by decide)))
       replace BK495 := mkA (blk_grown (g := gb495) (o := .cells #[.slice Ao30 t492.length co30] 51 (0, 0)) (bl_ BK495.out) hg (Kd.N_away HO_5.out (fun _ hk => hk.2.2.2.2.2)))
       replace HO499 := mkA (Kd.R_over' (r_ HO499.out) (Kd.N_typed (n_ HO_5.out)) (by decide) hg)
       replace HO502 := mkA (Kd.R_over' (r_ HO502.out) (Kd.N_typed (n_ HO_5.out)) (by decide) hg)
       replace HO505 := mkA (Kd.N_afterv (ok := (fun k_ => (w.heap.size ≤ k_) ∧ some k_ ≠ (v498 : Value).ownBlock ∧ some k_ ≠ (v501 : Value).ownBlock ∧ k_ ≠ gb482 ∧ k_ ≠ gb495)) (by refine n_ ?_; exact Kd.N_mono HO505.out (fun _ hk => ⟨⟨hk.1, ⟨hk.2.1, ⟨hk.2.2.1, ⟨hk.2.2.2.2.1, hk.2.2.2.2.2⟩⟩⟩⟩, hk.2.2.2.1⟩)) hg hat)
       replace HB := mkA (hb)
       have HO508 := mkA (ho)
       clear HO_5
       clear ho hb hg hat
       refine hK.out _ _ sp_ fun hHeld => ?_
       clear hK K
       refine nm_ 34 ?_
       refine a1_ 8 4 (h := a1_ 9 5 (h := ?_))
       refine dn_ ?_
       try go_wp2
       go_roundg kj10
       case measure => have := HK1.out; have := HJ10.out; omega
       case rel => exact ⟨(y500), (y506), (wrap64 (x6_1 + 1)), rf_, H', ⟨on2_ HK1.out HJ10.out⟩, ⟨by refine r_ ?_; exact Kd.R_mono HO502.out (fun _ hk => hk.1)⟩, ⟨by refine n_ ?_; exact Kd.N_mono HO508.out (fun _ hk => ⟨hk.1, ⟨hk.2.2.1, hk.2.2.2.1⟩⟩)⟩, ⟨bl_ BK482.out⟩, ⟨bs2_ HB.out GE482.out GE495.out⟩⟩
/-! ### slices_Index_int64_int64: function 114 -/
def slices_Index_int64_int64.l0 : Nat → List Int → Int → Int → Int → Option (Int)
  | 0, _, _, _, _ => none
  | k + 1, x0, x1, x7, x8 => if x8 < x7 then (if 0 ≤ x8 then (if x8 < (x0.length : Int) then (if x1 = (rd x0 x8) then (some x8) else (slices_Index_int64_int64.l0 k x0 x1 x7 (wrap64 (x8 + 1)))) else (none)) else (none)) else (some (-1))
def slices_Index_int64_int64.f (k : Nat) (l0 : List Int) (a1 : Int) : Option (Int) := slices_Index_int64_int64.l0 k l0 a1 (l0.length : Int) 0
set_option maxHeartbeats 8000000 in
set_option maxRecDepth 100000 in
theorem slices_Index_int64_int64.calls (k : Nat) (A0 : Option Addr) (c0 : Nat) (l0 : List Int) (a1 : Int) (r : Int) (w : World) (hr0 : Kd.C (Kd.int .i64) w A0 l0.length l0) (hc0 : l0.length ≤ c0) (h : slices_Index_int64_int64.f k l0 a1 = some r) :
 Calls Try.prog 114 #[.slice A0 l0.length c0, .int .i64 a1] w fun e w' => e = .returned (.int .i64 r) ∧ Drawn0 w w' := by
 have HR0 := mkA hr0
 have HC0 := mkA hc0
 clear hr0 hc0
 unfold slices_Index_int64_int64.f at h
 have H := h
 clear h
 have H' := mkA H
 clear H
 go_enter Try.func114, Try.ntmps114
 go_wp2
 go_loopg [8] k (fun kq v8 w' => ∃ (x8_1 : Int), v8 = .int .i64 x8_1 ∧ Aside0 (slices_Index_int64_int64.l0 kq l0 a1 (l0.length : Int) x8_1 = some r) ∧ Aside0 (kq ≤ k) ∧ Drawn0 w w')
 case atStart => exact ⟨(0), rf_, H', ⟨Nat.le_refl _⟩, by repeat (first | exact Drawn0.refl _ | apply Drawn0.step)⟩
 case round =>
  clear H'
  obtain ⟨x8_1, rfl, HA, HK1, ⟨m1, rfl⟩⟩ := hrel
  cases gk with
  | zero => exact absurd HA.out (by simp [slices_Index_int64_int64.l0])
  | succ k1 =>
   have H := HA.out
   clear HA
   simp only [slices_Index_int64_int64.l0] at H
   by_cases c3 : x8_1 < (l0.length : Int)
   rotate_left
   · rw [if_neg c3] at H
     have c3b0 := decide_eq_false c3
     clear c3
     obtain rfl := Option.some.inj H
     go_wp2
     go_ret
     exact ⟨by first | rfl | (simp; done) | (simp [*]; done) | (simp [i64_w, i32_w]; done), by repeat (first | exact Drawn0.refl _ | apply Drawn0.step)⟩
   rw [if_pos c3] at H
   have c3b0 := decide_eq_true c3
   clear c3
   revert H
   refine ng_ fun c4 => ng_ fun c5 => ?_
   intro H
   have c4b0 := decide_eq_true c4
   clear c4
   have c5b0 := decide_eq_true c5
   clear c5
   by_cases c6 : a1 = (rd l0 x8_1)
   · rw [if_pos c6] at H
     have c6b0 : (a1 == (rd l0 x8_1)) = true := beq_iff_eq.mpr c6
     have c6b1 : (a1 != (rd l0 x8_1)) = false := bne_eq_false_iff_eq.mpr c6
     clear c6
     obtain rfl := Option.some.inj H
     obtain ⟨ad509, e509, hx509_0⟩ := Kd.at_int HR0.out x8_1 dt_ dt_
     cases e509
     have p509 : (0 ≤ (x8_1 : Int)) = True := eq_true dt_
     have q509 : (x8_1 < (l0.length : Int)) = True := eq_true dt_
     go_wp2
     go_ret
     exact ⟨by first | rfl | (simp; done) | (simp [*]; done) | (simp [i64_w, i32_w]; done), by repeat (first | exact Drawn0.refl _ | apply Drawn0.step)⟩
   · rw [if_neg c6] at H
     have c6b0 : (a1 == (rd l0 x8_1)) = false := beq_eq_false_iff_ne.mpr c6
     have c6b1 : (a1 != (rd l0 x8_1)) = true := bne_iff_ne.mpr c6
     have H' := mkA H
     clear H
     obtain ⟨ad509, e509, hx509_0⟩ := Kd.at_int HR0.out x8_1 dt_ dt_
     cases e509
     have p509 : (0 ≤ (x8_1 : Int)) = True := eq_true dt_
     have q509 : (x8_1 < (l0.length : Int)) = True := eq_true dt_
     go_wp2
     go_roundg k1
     case measure => have := HK1.out; omega
     case rel => exact ⟨(wrap64 (x8_1 + 1)), rf_, H', ⟨om_ HK1.out⟩, by repeat (first | exact Drawn0.refl _ | apply Drawn0.step)⟩
/-! ### slices_Contains_int64_int64: function 104 -/
def slices_Contains_int64_int64.f (k : Nat) (l0 : List Int) (a1 : Int) : Option (Bool) := (slices_Index_int64_int64.f k l0 a1).bind fun t510 => (some (decide (t510 ≥ 0)))
set_option maxHeartbeats 8000000 in
set_option maxRecDepth 100000 in
theorem slices_Contains_int64_int64.calls (k : Nat) (A0 : Option Addr) (c0 : Nat) (l0 : List Int) (a1 : Int) (r : Bool) (w : World) (hr0 : Kd.C (Kd.int .i64) w A0 l0.length l0) (hc0 : l0.length ≤ c0) (h : slices_Contains_int64_int64.f k l0 a1 = some r) :
 Calls Try.prog 104 #[.slice A0 l0.length c0, .int .i64 a1] w fun e w' => e = .returned (.bool r) ∧ Drawn0 w w' := by
 have HR0 := mkA hr0
 have HC0 := mkA hc0
 clear hr0 hc0
 unfold slices_Contains_int64_int64.f at h
 have H := h
 clear h
 revert H
 refine ob_ fun t510 A3 => ?_
 intro H
 obtain rfl := Option.some.inj H
 go_enter Try.func104, Try.ntmps104
 go_wp2_with (first | ((with_reducible refine gk_ 114 ?_); refine gl_ (some 7) Try.func114 #[.slice A0 l0.length c0, .int .i64 a1] ?_; (with_reducible refine (slices_Index_int64_int64.calls k _ _ l0 a1 t510 _ ?side1 ?side2 A3.out).mono ?_); (case side1 => repeat (first | exact HR0.out | (with_reducible refine Kd.C_alloc ?_ _) | (with_reducible refine Kd.C_drewN ?_ _) | (with_reducible refine Kd.C_drew ?_))); (case side2 => exact HC0.out); rintro e w' ⟨rfl, ⟨nd, rfl⟩⟩; refine ⟨_, rfl, ?_⟩))
 go_ret
 exact ⟨by first | rfl | (simp; done) | (simp [*]; done) | (simp [i64_w, i32_w]; done), by repeat (first | exact Drawn0.refl _ | apply Drawn0.step)⟩
end Go.Proofs.Ytakagkflgkoiiaa.GFnExactIsCover

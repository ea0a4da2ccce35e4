-- Written by the session's own program (gen.py) out of the translation's print. Lean checks it.
import Derived.Test.YtakagkflgkoiiaaGFnExactTurnsOfPiecex0
import Derived.Test.YtakagkflgkoiiaaGFnExactTurnsOfPiecex10
import Derived.Test.YtakagkflgkoiiaaGFnExactTurnsOfPiecex13
namespace Go.Proofs.Ytakagkflgkoiiaa.GFnExactTurnsOfPiece
open Go.RowKit Go.Proofs.YtakagkflgkoiiaaW.PrintWords Go.Proofs.YtakagkflgkoiiaaW.PrintLast Go.Proofs.YtakagkflgkoiiaaW.PrintMore
attribute [local go_sem] max2_int min2_int max_two min_two max_three min_three max_four min_four   -- for this text's walks alone
set_option linter.unusedVariables false
set_option linter.unusedSimpArgs false

/-! ### impl_pieceTurns: function 75 -/
mutual
def impl_pieceTurns.l0 : Nat → List Int → List (List (S105)) → Int → ByteArray → List (S105) → Int → Bool → Option (List Int × (List (List (S105))))
  | 0, _, _, _, _, _, _, _ => none
  | k + 1, x4, x5, x6, x330000, x330001, x330002, x330003 => if x6 < 8 then (impl_pieceTurns.j1 k x4 x5 x6 x330003 x330000 x330001 x330002 x330003) else (impl_pieceTurns.j1 k x4 x5 x6 false x330000 x330001 x330002 x330003)
def impl_pieceTurns.j1 : Nat → List Int → List (List (S105)) → Int → Bool → ByteArray → List (S105) → Int → Bool → Option (List Int × (List (List (S105))))
  | 0, _, _, _, _, _, _, _, _ => none
  | k + 1, x4, x5, x6, x17, x330000, x330001, x330002, x330003 => if x17 = true then ((impl_turnedCells.f k x330000 x330001 x330002 x330003 x6).bind fun t339 => ((fi97_98.f k x5 [t339]).bind fun t343 => (if t343 = true then (impl_pieceTurns.l0 k x4 x5 (wrap64 (x6 + 1)) x330000 x330001 x330002 x330003) else ((some (([x6] : List Int) : List Int)).bind fun y344 => (if x4.length + y344.length < 17592186044416 then ((some (([t339] : List (List (S105))) : List (List (S105)))).bind fun y350 => (if x5.length + y350.length < 5864062014805 then (impl_pieceTurns.l0 k (x4 ++ y344) (x5 ++ y350) (wrap64 (x6 + 1)) x330000 x330001 x330002 x330003) else (none))) else (none)))))) else (some (x4, x5))
end
def impl_pieceTurns.f (k : Nat) (a0_0 : ByteArray) (l0_1 : List (S105)) (a0_2 : Int) (a0_3 : Bool) : Option (List Int × (List (List (S105)))) := (impl_turnedCells.f k a0_0 l0_1 a0_2 a0_3 0).bind fun t333 => (impl_pieceTurns.l0 k (([0] : List Int)) (([t333] : List (List (S105)))) 1 a0_0 l0_1 a0_2 a0_3)
def impl_pieceTurns.T7 : Bool × List (List Nat × List Nat) := (true, [([], []), ([], []), ([1], [1]), ([0, 2], [0, 2]), ([], []), ([], []), ([5], [5]), ([4, 6, 3], [4, 6]), ([3, 7, 0, 1, 2, 3], [0, 3]), ([7, 8, 0, 1, 2, 3, 4, 5, 6, 7, 8], [4, 7])])
def impl_pieceTurns.B7 : List Nat := [0, 0, 2, 7, 0, 0, 32, 127, 255, 511]
theorem impl_pieceTurns.tab7 : rtab .any (opsOf Try.f75 7) = impl_pieceTurns.T7 := by kernel_rfl
theorem impl_pieceTurns.bits7 : waitsOk impl_pieceTurns.T7.2 impl_pieceTurns.B7 = true := by kernel_rfl
open List renaming setIfInBounds_toArray → sA, set_cons_zero → sB, set_cons_succ → sC
open Go.Proofs.YtakagkflgkoiiaaW.PrintWords.Aside0 renaming mk → mkA
open Go.Proofs.YtakagkflgkoiiaaX (dt_ bc_ p0_ p1_ bl_ cb_ bs0_ bs1_ bs2_ bs3_ bs4_ bs5_ bs6_ bs7_ bs8_ bs9_ bs10_ bs11_ bs12_)
abbrev impl_pieceTurns.d0 : Array Bool := #[false, false, false, false, false, false, false, false, false, false]
abbrev impl_pieceTurns.d1 : Array Bool := #[true, false, false, false, false, false, false, false, false, false]
abbrev impl_pieceTurns.d2 : Array Bool := #[true, true, false, false, false, false, false, false, false, false]
abbrev impl_pieceTurns.d3 : Array Bool := #[true, true, false, false, true, false, false, false, false, false]
abbrev impl_pieceTurns.d4 : Array Bool := #[true, true, false, false, true, true, false, false, false, false]
abbrev impl_pieceTurns.d5 : Array Bool := #[true, true, true, true, true, true, true, false, false, false]
abbrev impl_pieceTurns.d6 : Array Bool := #[true, true, true, false, true, true, false, false, false, false]
abbrev impl_pieceTurns.d7 : Array Bool := #[true, true, false, false, true, true, true, false, false, false]
abbrev impl_pieceTurns.d8 : Array Bool := #[true, true, true, true, true, true, false, false, false, false]
abbrev impl_pieceTurns.d9 : Array Bool := #[true, true, true, false, true, true, true, false, false, false]
abbrev impl_pieceTurns.d10 : Array Bool := #[true, true, true, true, true, true, true, true, false, false]
abbrev impl_pieceTurns.d11 : Array Bool := #[true, true, true, true, true, true, true, true, true, false]
abbrev impl_pieceTurns.d12 : Array Bool := #[true, true, true, true, true, true, true, true, true, true]
set_option maxHeartbeats 8000000 in
set_option maxRecDepth 100000 in
theorem impl_pieceTurns.calls (k : Nat) (a0_0 : ByteArray) (A0_1 : Option Addr) (c0_1 : Nat) (l0_1 : List (S105)) (a0_2 : Int) (a0_3 : Bool) (r1 : List Int) (r2 : List (List (S105))) (w : World) (hr0_1 : Kd.C k105 w A0_1 l0_1.length l0_1) (hc0_1 : l0_1.length ≤ c0_1) (h : impl_pieceTurns.f k a0_0 l0_1 a0_2 a0_3 = some (r1, r2)) :
 Calls Try.prog 75 #[.agg #[.string a0_0, .slice A0_1 l0_1.length c0_1, .int .i64 a0_2, .bool a0_3]] w fun e w' => ∃ v0_ v1_ : Value, e = .returned (.tuple #[v0_, v1_]) ∧ Kd.R (Kd.int .i64) 2 w' w.heap.size (fun k_ => (w.heap.size ≤ k_)) v0_ r1 ∧ Kd.N (Kd.slice 105 k105) 51 w' w.heap.size (fun k_ => (w.heap.size ≤ k_) ∧ some k_ ≠ (v0_ : Value).ownBlock) v1_ r2 ∧ Below w.heap.size w w' := by
 have hu53 := Try.underlying53
 have HR0_1 := mkA hr0_1
 have HC0_1 := mkA hc0_1
 clear hr0_1 hc0_1
 have HB := mkA (Below.refl w.heap.size w)
 have H : ((impl_turnedCells.f k a0_0 l0_1 a0_2 a0_3 0).bind fun t333 => (impl_pieceTurns.l0 k (([0] : List Int)) (([t333] : List (List (S105)))) 1 a0_0 l0_1 a0_2 a0_3)) = some (r1, r2) := h
 clear h
 obtain ⟨y330, hy330⟩ : ∃ y_ : List Int, y_ = (([0] : List Int)) := ⟨_, rfl⟩
 replace H : ((impl_turnedCells.f k a0_0 l0_1 a0_2 a0_3 0).bind fun t333 => (impl_pieceTurns.l0 k y330 (([t333] : List (List (S105)))) 1 a0_0 l0_1 a0_2 a0_3)) = some (r1, r2) := by first | (rw [hy330]; with_reducible exact H) | (have H2_ := (Option.bind_some _ _).symm.trans H; rw [hy330]; with_reducible exact H2_) | (have H2_ := (Option.bind_some _ _).symm.trans H; with_reducible exact H2_) | with_reducible exact H | (rw [hy330]; exact H) | exact H
 have Ny330 := mkA hy330
 clear hy330
 replace H := Option.bind_eq_some_iff.mp H
 obtain ⟨t333, A20, H⟩ := H
 replace H : (impl_pieceTurns.l0 k y330 (([t333] : List (List (S105)))) 1 a0_0 l0_1 a0_2 a0_3) = some (r1, r2) := H
 have A2 := mkA A20
 clear A20
 obtain ⟨y336, hy336⟩ : ∃ y_ : List (List (S105)), y_ = (([t333] : List (List (S105)))) := ⟨_, rfl⟩
 replace H : (impl_pieceTurns.l0 k y330 y336 1 a0_0 l0_1 a0_2 a0_3) = some (r1, r2) := by first | (rw [hy336]; with_reducible exact H) | (have H2_ := (Option.bind_some _ _).symm.trans H; rw [hy336]; with_reducible exact H2_) | (have H2_ := (Option.bind_some _ _).symm.trans H; with_reducible exact H2_) | with_reducible exact H | (rw [hy336]; exact H) | exact H
 have Ny336 := mkA hy336
 clear hy336
 have H' := mkA H
 clear H
 go_enter Try.func75, Try.ntmps75
 go_wp2_with (first | ((with_reducible refine gate_dst (N := 1) rfl ?_); refine box_event ?hg (N := 1) ?hd (cs := #[.string a0_0, .slice A0_1 l0_1.length c0_1, .int .i64 a0_2, .bool a0_3]) (t := 53) ?hr ?_; (case hd => rfl); (case hg => rfl); (case hr => first | (go_simp; done) | (go_simp; rfl)); intro gb329 hg w3 hbox hb; have n0_ := mkA (below_step (bs0_ HB.out) hb); have n1_ := mkA (hbox); have n2_ := mkA ((by rw [hg]; exact (below_size (bs0_ HB.out)) : w.heap.size ≤ gb329)); have n3_ := mkA ((by rw [hg]; exact (below_size (bs0_ HB.out)) : w.heap.size ≤ gb329)); clear HB; have HB := n0_; have BK329 := n1_; have GW329 := n2_; have GE329 := n3_; clear n0_ n1_ n2_ n3_; clear hb hbox hg) | ((with_reducible refine gate_dst (N := 8) rfl ?_); refine Kd.R_lit (Kd.int .i64) _ 2 ?hg (N := 8) ?hd (xs := ([0] : List Int)) (inner := [.int .i64 0]) (ok := fun _ => True) (okp := fun _ => True) ?hr ?hp (fun _ hk => hk) trivial (Below.refl _ _) (Nat.le_refl _) (by simp) ?_; (case hd => rfl); (case hg => rfl); (case hr => first | (go_simp; done) | (go_simp; rfl)); (case hp => exact (Reps.one (show Kd.M (Kd.int .i64) _ _ _ 0 [.int .i64 0] from rfl) (Reps.none _ _))); intro v331 w4 ho5 hb hg_ hnew_; clear hg_ hnew_; (first | rw [← Ny330.out] at ho5 | (simp only [Int.reduceToNat] at ho5; rw [← Ny330.out] at ho5)); have n0_ := mkA (Kd.R_lower (Kd.R_newM (M := fun k_ => (w.heap.size ≤ k_)) ho5 (below_size (bs1_ HB.out GE329.out)) (fun k_ h_ => h_)) (below_size (bs1_ HB.out GE329.out))); have n1_ := mkA (blk_below (g := gb329) (o := .cells #[.string a0_0, .slice A0_1 l0_1.length c0_1, .int .i64 a0_2, .bool a0_3] 53 (0, 0)) (bl_ BK329.out) hb); have n2_ := mkA (below_step (bs1_ HB.out GE329.out) hb); clear BK329; clear HB; have HO332 := n0_; have BK329 := n1_; have HB := n2_; clear n0_ n1_ n2_; clear hb ho5; have hcz6_0 : w4.cell? ⟨gb329, 0, none⟩ = some (.string a0_0) := (blk_cell BK329.out 0).trans rfl; have hcz6_1 : w4.cell? ⟨gb329, 1, none⟩ = some (.slice A0_1 l0_1.length c0_1) := (blk_cell BK329.out 1).trans rfl; have hcz6_2 : w4.cell? ⟨gb329, 2, none⟩ = some (.int .i64 a0_2) := (blk_cell BK329.out 2).trans rfl; have hcz6_3 : w4.cell? ⟨gb329, 3, none⟩ = some (.bool a0_3) := (blk_cell BK329.out 3).trans rfl; have hfz6_0 := blk_frozen BK329.out 0; have hfz6_1 := blk_frozen BK329.out 1; have hfz6_2 := blk_frozen BK329.out 2; have hfz6_3 := blk_frozen BK329.out 3) | ((with_reducible refine gate_callee (f := 79) rfl ?_); refine goesL_ (some 10) rfl rfl Try.func79 (by kernel_rfl) rfl #[.agg #[.string a0_0, .slice A0_1 l0_1.length c0_1, .int .i64 a0_2, .bool a0_3], .int .i64 0] rfl (by (try simp only [List.map_toArray, List.map_cons, List.map_nil]); first | done | rfl | (simp only [List.length_drop, List.length_take]; rfl)) ?_; (with_reducible refine (impl_turnedCells.calls k a0_0 _ _ l0_1 a0_2 a0_3 0 t333 _ ?side1 ?side2 A2.out).mono ?_); (case side1 => exact cb_ HR0_1.out HB.out); (case side2 => exact HC0_1.out); rintro e w7 ⟨v334, rfl, ho0, hb⟩; refine ⟨_, rfl, ?_⟩; have n0_ := mkA (Kd.R_below (by (with_reducible repeat (first | apply Kd.R_alloc | apply Kd.R_drewN | apply Kd.R_drew)); exact HO332.out) hb); have n1_ := mkA (Kd.R_lower (Kd.R_newM (M := fun k_ => (w.heap.size ≤ k_)) ho0 (below_size (bs1_ HB.out GE329.out)) (fun k_ h_ => h_)) (below_size (bs1_ HB.out GE329.out))); have n2_ := mkA (blk_below (g := gb329) (o := .cells #[.string a0_0, .slice A0_1 l0_1.length c0_1, .int .i64 a0_2, .bool a0_3] 53 (0, 0)) (bl_ BK329.out) hb); have n3_ := mkA (below_step (bs1_ HB.out GE329.out) hb); clear HO332; clear BK329; clear HB; have HO332 := n0_; have HO335 := n1_; have BK329 := n2_; have HB := n3_; clear n0_ n1_ n2_ n3_; (try clear hb); (try clear hb2); (try clear hk); (try clear hi); (try clear ho0); obtain ⟨Ao8, co8, eo8⟩ := Kd.R_slice HO335.out; subst eo8) | ((with_reducible refine gate_dst (N := 11) rfl ?_); refine Kd.N_lit (Kd.slice 105 k105) _ 51 ?hg (N' := 11) ?hd (xs := ([t333] : List (List (S105)))) (inner := [.slice Ao8 t333.length co8]) (ok := (fun k_ => (w.heap.size ≤ k_) ∧ some k_ ≠ (v331 : Value).ownBlock ∧ k_ ≠ gb329)) (okp := (fun k_ => (w.heap.size ≤ k_) ∧ some k_ ≠ (v331 : Value).ownBlock ∧ k_ ≠ gb329)) ?hr ?hp (fun _ hk => hk) ((show ∀ k_, w7.heap.size ≤ k_ → (fun k_ => (w.heap.size ≤ k_) ∧ some k_ ≠ (v331 : Value).ownBlock ∧ k_ ≠ gb329) k_ from fun k_ hk => ⟨(Nat.le_trans (below_size (bs1_ HB.out GE329.out)) hk), Kd.fresh' (Kd.R_lt (by (with_reducible repeat (first | apply Kd.R_alloc | apply Kd.R_drewN | apply Kd.R_drew)); exact HO332.out)) k_ hk, Kd.freshB (g := gb329) (o := .cells #[.string a0_0, .slice A0_1 l0_1.length c0_1, .int .i64 a0_2, .bool a0_3] 53 (0, 0)) (bl_ BK329.out) k_ hk⟩) _ (Nat.le_refl _)) (Below.refl _ _) (Nat.le_refl _) (by simp) ?_; (case hd => rfl); (case hg => rfl); (case hr => first | (go_simp; done) | (go_simp; rfl)); (case hp => exact (Reps.one (show Kd.FK (Kd.slice 105 k105) _ _ t333 [.slice Ao8 t333.length co8] from (Kd.FK_slice_mk (Kd.R_reads' (Kd.R_mono (ok' := (fun k_ => (w.heap.size ≤ k_) ∧ some k_ ≠ (v331 : Value).ownBlock ∧ k_ ≠ gb329)) (Kd.R_types (Kd.R_apart' (HO335.out) (Kd.R_typed HO332.out) (by decide)) BK329.out (by decide)) (fun k_ hk => ⟨hk.1.1.1, ⟨hk.1.2, hk.2⟩⟩))).2.1 (Kd.R_F (Kd.R_mono (ok' := (fun k_ => (w.heap.size ≤ k_) ∧ some k_ ≠ (v331 : Value).ownBlock ∧ k_ ≠ gb329)) (Kd.R_types (Kd.R_apart' (HO335.out) (Kd.R_typed HO332.out) (by decide)) BK329.out (by decide)) (fun k_ hk => ⟨hk.1.1.1, ⟨hk.1.2, hk.2⟩⟩))))) (Reps.none _ _))); intro v337 w9 ho10 hb hg_ hnew_; clear hg_ hnew_; (first | rw [← Ny336.out] at ho10 | (simp only [Int.reduceToNat] at ho10; rw [← Ny336.out] at ho10)); have n0_ := mkA (Kd.R_below (by (with_reducible repeat (first | apply Kd.R_alloc | apply Kd.R_drewN | apply Kd.R_drew)); exact HO332.out) hb); have n1_ := mkA (Kd.N_lower ho10 (below_size (bs1_ HB.out GE329.out))); have n2_ := mkA (blk_below (g := gb329) (o := .cells #[.string a0_0, .slice A0_1 l0_1.length c0_1, .int .i64 a0_2, .bool a0_3] 53 (0, 0)) (bl_ BK329.out) hb); have n3_ := mkA (below_step (bs1_ HB.out GE329.out) hb); clear HO332; clear BK329; clear HB; clear HO335; have HO332 := n0_; have HO338 := n1_; have BK329 := n2_; have HB := n3_; clear n0_ n1_ n2_ n3_; clear hb ho10))
 go_loopg [4, 5, 6] k (fun kq v4 v5 v6 w' => ∃ (x4_1 : List Int) (x5_1 : List (List (S105))) (x6_1 : Int), v6 = .int .i64 x6_1 ∧ Aside0 (impl_pieceTurns.l0 kq x4_1 x5_1 x6_1 a0_0 l0_1 a0_2 a0_3 = some (r1, r2)) ∧ Aside0 (kq ≤ k) ∧ Aside0 (Kd.R (Kd.int .i64) 2 w' w.heap.size (fun k_ => (w.heap.size ≤ k_)) v4 x4_1) ∧ Aside0 (Kd.N (Kd.slice 105 k105) 51 w' w.heap.size (fun k_ => (w.heap.size ≤ k_) ∧ some k_ ≠ (v4 : Value).ownBlock ∧ k_ ≠ gb329) v5 x5_1) ∧ Aside0 (w'.heap[gb329]? = some (.cells #[.string a0_0, (.slice A0_1 l0_1.length c0_1), .int .i64 a0_2, .bool a0_3] 53 (0, 0))) ∧ Aside0 (Below w.heap.size w w'))
 case atStart => exact ⟨(y330), (y336), (1), (by first | rfl | (simp; done) | (simp [*]; done) | (simp [i64_w, i32_w]; done)), H', ⟨Nat.le_refl _⟩, ⟨by (with_reducible repeat (first | apply Kd.R_alloc | apply Kd.R_drewN | apply Kd.R_drew)); exact Kd.R_mono HO332.out (fun _ hk => hk.1)⟩, ⟨by (with_reducible repeat (first | apply Kd.N_alloc | apply Kd.N_drewN | apply Kd.N_drew)); exact HO338.out⟩, ⟨by (with_reducible repeat (first | refine blk_drewN ?_ _ | refine blk_drew ?_ | refine blk_alloc ?_ _)); exact BK329.out⟩, ⟨by repeat (first | (with_reducible first | exact HB.out | apply below_alloc | apply pw_below_drewN | apply below_drew1 | refine below_set ?_ GE329.out) | exact HB.out)⟩⟩
 case round =>
  clear H'
  try clear p2
  try clear c7
  try clear hcz6_0
  try clear hcz6_1
  try clear hcz6_2
  try clear hcz6_3
  try clear hfz6_0
  try clear hfz6_1
  try clear hfz6_2
  try clear hfz6_3
  obtain ⟨x4_1, x5_1, x6_1, rfl, HA, HK1, HO_4, HO_5, BK329, HB⟩ := hrel
  cases gk with
  | zero => exact absurd HA.out (by simp [impl_pieceTurns.l0])
  | succ k1 =>
   have H := HA.out
   clear HA
   simp only [impl_pieceTurns.l0] at H
   have HC11 := mkA H
   clear H
   go_upto_region 3 with (fail)
   go_cut [17] (fun v17 wc => ∃ (kq : Nat) (x17_10 : Bool), v17 = .bool x17_10 ∧ Aside0 (impl_pieceTurns.j1 kq x4_1 x5_1 x6_1 x17_10 a0_0 l0_1 a0_2 a0_3 = some (r1, r2)) ∧ Aside0 (kq ≤ k1) ∧ Aside0 (Kd.R (Kd.int .i64) 2 wc w.heap.size (fun k_ => (w.heap.size ≤ k_)) u4 x4_1) ∧ Aside0 (Kd.N (Kd.slice 105 k105) 51 wc w.heap.size (fun k_ => (w.heap.size ≤ k_) ∧ some k_ ≠ (u4 : Value).ownBlock ∧ k_ ≠ gb329) u5 x5_1) ∧ Aside0 (wc.heap[gb329]? = some (.cells #[.string a0_0, (.slice A0_1 l0_1.length c0_1), .int .i64 a0_2, .bool a0_3] 53 (0, 0))) ∧ Aside0 (Below w.heap.size w wc))
   case first =>
    have H := HC11.out
    clear HC11
    by_cases c12 : x6_1 < 8
    rotate_left
    · rw [if_neg c12] at H
      have c12b0 : decide (x6_1 < 8) = false := decide_eq_false c12
      clear c12
      (first | rw [c12b0] | (simp only [i64_w, i32_w]; rw [c12b0]) | skip)
      have H' := mkA H
      clear H
      go_wp2
      go_meet
      case rel => exact ⟨_, (false), (by first | rfl | (simp; done) | (simp [*]; done) | (simp [i64_w, i32_w]; done)), H', ⟨by have := HK1.out; first | omega | exact Nat.le_refl _⟩, ⟨by (with_reducible repeat (first | apply Kd.R_alloc | apply Kd.R_drewN | apply Kd.R_drew)); exact HO_4.out⟩, ⟨by (with_reducible repeat (first | apply Kd.N_alloc | apply Kd.N_drewN | apply Kd.N_drew)); exact HO_5.out⟩, ⟨by (with_reducible repeat (first | refine blk_drewN ?_ _ | refine blk_drew ?_ | refine blk_alloc ?_ _)); exact BK329.out⟩, ⟨by repeat (first | (with_reducible first | exact HB.out | apply below_alloc | apply pw_below_drewN | apply below_drew1 | refine below_set ?_ GE329.out) | exact HB.out)⟩⟩
    rw [if_pos c12] at H
    have c12b0 : decide (x6_1 < 8) = true := decide_eq_true c12
    clear c12
    (first | rw [c12b0] | (simp only [i64_w, i32_w]; rw [c12b0]) | skip)
    have H' := mkA H
    clear H
    have hcz13_0 : wr.cell? ⟨gb329, 0, none⟩ = some (.string a0_0) := (blk_cell BK329.out 0).trans rfl
    have hcz13_1 : wr.cell? ⟨gb329, 1, none⟩ = some (.slice A0_1 l0_1.length c0_1) := (blk_cell BK329.out 1).trans rfl
    have hcz13_2 : wr.cell? ⟨gb329, 2, none⟩ = some (.int .i64 a0_2) := (blk_cell BK329.out 2).trans rfl
    have hcz13_3 : wr.cell? ⟨gb329, 3, none⟩ = some (.bool a0_3) := (blk_cell BK329.out 3).trans rfl
    have hfz13_0 := blk_frozen BK329.out 0
    have hfz13_1 := blk_frozen BK329.out 1
    have hfz13_2 := blk_frozen BK329.out 2
    have hfz13_3 := blk_frozen BK329.out 3
    go_wp2
    go_meet
    case rel => exact ⟨_, (a0_3), (by first | rfl | (simp; done) | (simp [*]; done) | (simp [i64_w, i32_w]; done)), H', ⟨by have := HK1.out; first | omega | exact Nat.le_refl _⟩, ⟨by (with_reducible repeat (first | apply Kd.R_alloc | apply Kd.R_drewN | apply Kd.R_drew)); exact HO_4.out⟩, ⟨by (with_reducible repeat (first | apply Kd.N_alloc | apply Kd.N_drewN | apply Kd.N_drew)); exact HO_5.out⟩, ⟨by (with_reducible repeat (first | refine blk_drewN ?_ _ | refine blk_drew ?_ | refine blk_alloc ?_ _)); exact BK329.out⟩, ⟨by repeat (first | (with_reducible first | exact HB.out | apply below_alloc | apply pw_below_drewN | apply below_drew1 | refine below_set ?_ GE329.out) | exact HB.out)⟩⟩
   case rest =>
    clear HC11
    try clear c1
    try clear p2
    try clear c7
    try clear c12
    try clear c12b0
    try clear hcz13_0
    try clear hcz13_1
    try clear hcz13_2
    try clear hcz13_3
    try clear hcz6_0
    try clear hcz6_1
    try clear hcz6_2
    try clear hcz6_3
    try clear hfz13_0
    try clear hfz13_1
    try clear hfz13_2
    try clear hfz13_3
    try clear hfz6_0
    try clear hfz6_1
    try clear hfz6_2
    try clear hfz6_3
    try clear p2
    obtain ⟨kq, x17_10, rfl, HA, HJ10, HO_4, HO_5, BK329, HB⟩ := hcut
    cases kq with
    | zero => exact absurd HA.out (by simp [impl_pieceTurns.j1])
    | succ kj10 =>
     have H := HA.out
     clear HA
     simp only [impl_pieceTurns.j1] at H
     by_cases c14 : x17_10 = true
     rotate_left
     · replace c14 := Bool.eq_false_iff.mpr c14
       subst c14
       have H1 : (some (x4_1, x5_1)) = some (r1, r2) := by rw [if_neg (show ¬ (false = true) by decide)] at H; exact H
       clear H
       have H := H1
       clear H1
       simp only [Option.some.injEq, Prod.mk.injEq] at H
       obtain ⟨rfl, rfl⟩ := H
       go_wp2
       go_ret2
       exact ⟨_, _, by first | rfl | (simp [errW_none, errW_some] <;> rfl) | (simp [*, errW_none, errW_some] <;> rfl), by (with_reducible repeat (first | apply Kd.R_alloc | apply Kd.R_drewN | apply Kd.R_drew)); exact HO_4.out, by (with_reducible repeat (first | apply Kd.N_alloc | apply Kd.N_drewN | apply Kd.N_drew)); exact Kd.N_mono HO_5.out (fun _ hk => ⟨hk.1, hk.2.1⟩), by repeat (first | (with_reducible first | exact HB.out | apply below_alloc | apply pw_below_drewN | apply below_drew1 | refine below_set ?_ GE329.out) | exact HB.out)⟩

     subst c14
     have H1 : ((impl_turnedCells.f kj10 a0_0 l0_1 a0_2 a0_3 x6_1).bind fun t339 => ((fi97_98.f kj10 x5_1 [t339]).bind fun t343 => (if t343 = true then (impl_pieceTurns.l0 kj10 x4_1 x5_1 (wrap64 (x6_1 + 1)) a0_0 l0_1 a0_2 a0_3) else ((some (([x6_1] : List Int) : List Int)).bind fun y344 => (if x4_1.length + y344.length < 17592186044416 then ((some (([t339] : List (List (S105))) : List (List (S105)))).bind fun y350 => (if x5_1.length + y350.length < 5864062014805 then (impl_pieceTurns.l0 kj10 (x4_1 ++ y344) (x5_1 ++ y350) (wrap64 (x6_1 + 1)) a0_0 l0_1 a0_2 a0_3) else (none))) else (none)))))) = some (r1, r2) := by rw [if_pos rfl] at H; exact H
     clear H
     have H := H1
     clear H1
     replace H := Option.bind_eq_some_iff.mp H
     obtain ⟨t339, A150, H⟩ := H
     replace H : ((fi97_98.f kj10 x5_1 [t339]).bind fun t343 => (if t343 = true then (impl_pieceTurns.l0 kj10 x4_1 x5_1 (wrap64 (x6_1 + 1)) a0_0 l0_1 a0_2 a0_3) else ((some (([x6_1] : List Int) : List Int)).bind fun y344 => (if x4_1.length + y344.length < 17592186044416 then ((some (([t339] : List (List (S105))) : List (List (S105)))).bind fun y350 => (if x5_1.length + y350.length < 5864062014805 then (impl_pieceTurns.l0 kj10 (x4_1 ++ y344) (x5_1 ++ y350) (wrap64 (x6_1 + 1)) a0_0 l0_1 a0_2 a0_3) else (none))) else (none))))) = some (r1, r2) := H
     have A15 := mkA A150
     clear A150
     replace H := Option.bind_eq_some_iff.mp H
     obtain ⟨t343, A160, H⟩ := H
     replace H : (if t343 = true then (impl_pieceTurns.l0 kj10 x4_1 x5_1 (wrap64 (x6_1 + 1)) a0_0 l0_1 a0_2 a0_3) else ((some (([x6_1] : List Int) : List Int)).bind fun y344 => (if x4_1.length + y344.length < 17592186044416 then ((some (([t339] : List (List (S105))) : List (List (S105)))).bind fun y350 => (if x5_1.length + y350.length < 5864062014805 then (impl_pieceTurns.l0 kj10 (x4_1 ++ y344) (x5_1 ++ y350) (wrap64 (x6_1 + 1)) a0_0 l0_1 a0_2 a0_3) else (none))) else (none)))) = some (r1, r2) := H
     have A16 := mkA A160
     clear A160
     by_cases c17 : t343 = true
     · subst c17
       have H1 : (impl_pieceTurns.l0 kj10 x4_1 x5_1 (wrap64 (x6_1 + 1)) a0_0 l0_1 a0_2 a0_3) = some (r1, r2) := by rw [if_pos rfl] at H; exact H
       clear H
       have H := H1
       clear H1
       have H' := mkA H
       clear H
       have hcz18_0 : wc.cell? ⟨gb329, 0, none⟩ = some (.string a0_0) := (blk_cell BK329.out 0).trans rfl
       have hcz18_1 : wc.cell? ⟨gb329, 1, none⟩ = some (.slice A0_1 l0_1.length c0_1) := (blk_cell BK329.out 1).trans rfl
       have hcz18_2 : wc.cell? ⟨gb329, 2, none⟩ = some (.int .i64 a0_2) := (blk_cell BK329.out 2).trans rfl
       have hcz18_3 : wc.cell? ⟨gb329, 3, none⟩ = some (.bool a0_3) := (blk_cell BK329.out 3).trans rfl
       have hfz18_0 := blk_frozen BK329.out 0
       have hfz18_1 := blk_frozen BK329.out 1
       have hfz18_2 := blk_frozen BK329.out 2
       have hfz18_3 := blk_frozen BK329.out 3
       go_wp2_with (first | ((with_reducible refine gate_callee (f := 79) rfl ?_); refine goesL_ (some 22) rfl rfl Try.func79 (by kernel_rfl) rfl #[.agg #[.string a0_0, .slice A0_1 l0_1.length c0_1, .int .i64 a0_2, .bool a0_3], .int .i64 x6_1] rfl (by (try simp only [List.map_toArray, List.map_cons, List.map_nil]); first | done | rfl | (simp only [List.length_drop, List.length_take]; rfl)) ?_; (with_reducible refine (impl_turnedCells.calls kj10 a0_0 _ _ l0_1 a0_2 a0_3 x6_1 t339 _ ?side1 ?side2 A15.out).mono ?_); (case side1 => exact cb_ HR0_1.out HB.out); (case side2 => exact HC0_1.out); rintro e w19 ⟨v340, rfl, ho0, hb⟩; refine ⟨_, rfl, ?_⟩; have n0_ := mkA (Kd.R_below (by (with_reducible repeat (first | apply Kd.R_alloc | apply Kd.R_drewN | apply Kd.R_drew)); exact HO_4.out) hb); have n1_ := mkA (Kd.N_elder' (by (with_reducible repeat (first | apply Kd.N_alloc | apply Kd.N_drewN | apply Kd.N_drew)); exact HO_5.out) (Kd.R_base ho0) hb); have n2_ := mkA (Kd.R_lower (Kd.R_newM (M := fun k_ => (w.heap.size ≤ k_)) ho0 (below_size (bs1_ HB.out GE329.out)) (fun k_ h_ => h_)) (below_size (bs1_ HB.out GE329.out))); have n3_ := mkA (blk_below (g := gb329) (o := .cells #[.string a0_0, .slice A0_1 l0_1.length c0_1, .int .i64 a0_2, .bool a0_3] 53 (0, 0)) (bl_ BK329.out) hb); have n4_ := mkA (below_step (bs1_ HB.out GE329.out) hb); clear HO_4; clear HO_5; clear BK329; clear HB; have HO_4 := n0_; have HO_5 := n1_; have HO341 := n2_; have BK329 := n3_; have HB := n4_; clear n0_ n1_ n2_ n3_ n4_; (try clear hb); (try clear hb2); (try clear hk); (try clear hi); (try clear ho0)) | ((with_reducible refine gate_dst (N := 7) rfl ?_); refine box_event ?hg (N := 7) ?hd (cs := #[.slice none 0 0]) (t := 51) ?hr ?_; (case hd => rfl); (case hg => rfl); (case hr => first | (go_simp; done) | (go_simp; rfl)); intro gb342 hg w20 hbox hb; have n0_ := mkA (Kd.R_below (by (with_reducible repeat (first | apply Kd.R_alloc | apply Kd.R_drewN | apply Kd.R_drew)); exact HO_4.out) hb); have n1_ := mkA (Kd.N_below (Kd.N_elderB (by (with_reducible repeat (first | apply Kd.N_alloc | apply Kd.N_drewN | apply Kd.N_drew)); exact HO_5.out) gb342 (Nat.le_of_eq hg.symm)) hb); have n2_ := mkA (Kd.R_below (by (with_reducible repeat (first | apply Kd.R_alloc | apply Kd.R_drewN | apply Kd.R_drew)); exact HO341.out) hb); have n3_ := mkA (blk_below (g := gb329) (o := .cells #[.string a0_0, .slice A0_1 l0_1.length c0_1, .int .i64 a0_2, .bool a0_3] 53 (0, 0)) (bl_ BK329.out) hb); have n4_ := mkA (below_step (bs1_ HB.out GE329.out) hb); have n5_ := mkA (hbox); have n6_ := mkA ((by rw [hg]; exact (below_size (bs1_ HB.out GE329.out)) : w.heap.size ≤ gb342)); have n7_ := mkA ((by rw [hg]; exact (below_size (bs1_ HB.out GE329.out)) : w.heap.size ≤ gb342)); have n8_ := mkA ((by rw [hg]; exact Nat.ne_of_lt (blk_lt (g := gb329) (o := .cells #[.string a0_0, .slice A0_1 l0_1.length c0_1, .int .i64 a0_2, .bool a0_3] 53 (0, 0)) (bl_ BK329.out)) : gb329 ≠ gb342)); have n9_ := mkA ((by rw [hg]; exact Nat.ne_of_gt (blk_lt (g := gb329) (o := .cells #[.string a0_0, .slice A0_1 l0_1.length c0_1, .int .i64 a0_2, .bool a0_3] 53 (0, 0)) (bl_ BK329.out)) : gb342 ≠ gb329)); clear HO_4; clear HO_5; clear HO341; clear BK329; clear HB; have HO_4 := n0_; have HO_5 := n1_; have HO341 := n2_; have BK329 := n3_; have HB := n4_; have BK342 := n5_; have GW342 := n6_; have GE342 := n7_; have NB329_342 := n8_; have NB342_329 := n9_; clear n0_ n1_ n2_ n3_ n4_ n5_ n6_ n7_ n8_ n9_; clear hb hbox hg; obtain ⟨Ao21, co21, eo21⟩ := Kd.R_slice HO341.out; subst eo21; have hnb22 := NB342_329.out; have hnc22 := NB329_342.out; have hcz23_0 : w20.cell? ⟨gb342, 0, none⟩ = some (.slice none 0 0) := (blk_cell BK342.out 0).trans rfl; have hfz23_0 := blk_frozen BK342.out 0; obtain ⟨Ao24, co24, eo24⟩ := Kd.N_slice HO_5.out; subst eo24) | ((with_reducible refine gate_callee (f := 97) rfl ?_); refine goesL_ (some 25) rfl rfl Try.func97 (by kernel_rfl) rfl #[.slice Ao24 x5_1.length co24, .func (.func 98) #[] #[.pointer (some ⟨gb342, 0, none⟩)]] rfl (by (try simp only [List.map_toArray, List.map_cons, List.map_nil]); first | done | rfl | (simp only [List.length_drop, List.length_take]; rfl)) ?_; (with_reducible refine (fi97_98.calls kj10 _ _ x5_1 _ [t339] true _ ?side1 ?side2 ?side3 A16.out).mono ?_); (case side1 => refine (Kd.N_reads' (e := 51) (base := w.heap.size) (ok := fun k_ => ((((w.heap.size ≤ k_) ∧ (some k_ ≠ (u4 : Value).ownBlock ∧ k_ ≠ gb329)) ∧ some k_ ≠ (.slice Ao21 t339.length co21 : Value).ownBlock) ∧ k_ ≠ gb342)) (n := x5_1.length) (c := co24) ?_).2.2; exact (by (with_reducible repeat (first | apply Kd.N_alloc | apply Kd.N_drewN | apply Kd.N_drew)); exact (Kd.N_mono (Kd.N_far (p := ⟨gb342, 0, none⟩) (Kd.N_mono HO_5.out (fun k_ hk => (⟨hk, hk.2⟩ : _ ∧ k_ ≠ gb342))) (fun _ hk => hk.2) (.slice Ao21 t339.length co21)) (fun _ h_ => h_.1)))); (case side2 => exact (Kd.N_reads' HO_5.out).2.1); (case side3 => exact Go.Proofs.YtakagkflgkoiiaaX.rp_box (t := 51) (fr := (0, 0)) (by (with_reducible repeat (first | refine blk_drewN ?_ _ | refine blk_drew ?_ | refine blk_alloc ?_ _)); refine blk_put (cs := #[.slice none 0 0]) ?_ 0 _ rfl; (with_reducible repeat (first | refine blk_drewN ?_ _ | refine blk_drew ?_ | refine blk_alloc ?_ _)); exact BK342.out) ⟨_, _, rfl, (by exact (Kd.R_reads' HO341.out).2.1), (by refine (Kd.R_reads' (e := 105) (base := w.heap.size) (ok := fun k_ => ((w.heap.size ≤ k_) ∧ True)) (n := t339.length) (c := co21) ?_).2.2; exact (by (with_reducible repeat (first | apply Kd.R_alloc | apply Kd.R_drewN | apply Kd.R_drew)); exact (Kd.R_mono (Kd.R_far (p := ⟨gb342, 0, none⟩) (Kd.R_types HO341.out BK342.out (by decide)) (fun _ hk => hk.2) (.slice Ao21 t339.length co21)) (fun _ h_ => h_.1))))⟩); rintro e w' ⟨rfl, ⟨nd, rfl⟩⟩; refine ⟨_, rfl, ?_⟩))
       go_roundg kj10
       case measure => have := HK1.out; have := HJ10.out; omega
       case rel => exact ⟨(x4_1), (x5_1), (wrap64 (x6_1 + 1)), (by first | rfl | (simp; done) | (simp [*]; done) | (simp [i64_w, i32_w]; done)), H', ⟨by have := HK1.out; have := HJ10.out; omega⟩, ⟨by (with_reducible repeat (first | apply Kd.R_alloc | apply Kd.R_drewN | apply Kd.R_drew)); exact Kd.R_mono (Kd.R_far (p := ⟨gb342, 0, none⟩) (Kd.R_types HO_4.out BK342.out (by decide)) (fun _ hk => hk.2) (.slice Ao21 t339.length co21)) (fun _ hk => hk.1)⟩, ⟨by (with_reducible repeat (first | apply Kd.N_alloc | apply Kd.N_drewN | apply Kd.N_drew)); exact Kd.N_mono (Kd.N_far (p := ⟨gb342, 0, none⟩) (Kd.N_mono HO_5.out (fun k_ hk => (⟨hk, hk.2⟩ : _ ∧ k_ ≠ gb342))) (fun _ hk => hk.2) (.slice Ao21 t339.length co21)) (fun _ hk => ⟨hk.1.1.1.1, ⟨hk.1.1.1.2.1, hk.1.1.1.2.2⟩⟩)⟩, ⟨by (with_reducible repeat (first | refine blk_drewN ?_ _ | refine blk_drew ?_ | refine blk_alloc ?_ _)); refine blk_far ?_ NB329_342.out _; (with_reducible repeat (first | refine blk_drewN ?_ _ | refine blk_drew ?_ | refine blk_alloc ?_ _)); exact BK329.out⟩, ⟨by repeat (first | (with_reducible first | exact HB.out | apply below_alloc | apply pw_below_drewN | apply below_drew1 | refine below_set ?_ GE329.out | refine below_set ?_ GE342.out) | exact HB.out)⟩⟩
     · replace c17 := Bool.eq_false_iff.mpr c17
       subst c17
       have H1 : ((some (([x6_1] : List Int) : List Int)).bind fun y344 => (if x4_1.length + y344.length < 17592186044416 then ((some (([t339] : List (List (S105))) : List (List (S105)))).bind fun y350 => (if x5_1.length + y350.length < 5864062014805 then (impl_pieceTurns.l0 kj10 (x4_1 ++ y344) (x5_1 ++ y350) (wrap64 (x6_1 + 1)) a0_0 l0_1 a0_2 a0_3) else (none))) else (none))) = some (r1, r2) := by rw [if_neg (show ¬ (false = true) by decide)] at H; exact H
       clear H
       have H := H1
       clear H1
       obtain ⟨y344, hy344⟩ : ∃ y_ : List Int, y_ = (([x6_1] : List Int)) := ⟨_, rfl⟩
       replace H : (if x4_1.length + y344.length < 17592186044416 then ((some (([t339] : List (List (S105))) : List (List (S105)))).bind fun y350 => (if x5_1.length + y350.length < 5864062014805 then (impl_pieceTurns.l0 kj10 (x4_1 ++ y344) (x5_1 ++ y350) (wrap64 (x6_1 + 1)) a0_0 l0_1 a0_2 a0_3) else (none))) else (none)) = some (r1, r2) := by first | (rw [hy344]; with_reducible exact H) | (have H2_ := (Option.bind_some _ _).symm.trans H; rw [hy344]; with_reducible exact H2_) | (have H2_ := (Option.bind_some _ _).symm.trans H; with_reducible exact H2_) | with_reducible exact H | (rw [hy344]; exact H) | exact H
       have Ny344 := mkA hy344
       clear hy344
       by_cases c25 : x4_1.length + y344.length < 17592186044416
       rotate_left
       · rw [if_neg c25] at H
         exact absurd H (by simp)
       rw [if_pos c25] at H
       have LMc25 := mkA c25
       clear c25
       obtain ⟨y347, hy347⟩ : ∃ y_ : List Int, y_ = (x4_1 ++ y344) := ⟨_, rfl⟩
       replace H : ((some (([t339] : List (List (S105))) : List (List (S105)))).bind fun y350 => (if x5_1.length + y350.length < 5864062014805 then (impl_pieceTurns.l0 kj10 y347 (x5_1 ++ y350) (wrap64 (x6_1 + 1)) a0_0 l0_1 a0_2 a0_3) else (none))) = some (r1, r2) := by first | (rw [hy347]; with_reducible exact H) | (have H2_ := (Option.bind_some _ _).symm.trans H; rw [hy347]; with_reducible exact H2_) | (have H2_ := (Option.bind_some _ _).symm.trans H; with_reducible exact H2_) | with_reducible exact H | (rw [hy347]; exact H) | exact H
       have Ny347 := mkA hy347
       clear hy347
       obtain ⟨y350, hy350⟩ : ∃ y_ : List (List (S105)), y_ = (([t339] : List (List (S105)))) := ⟨_, rfl⟩
       replace H : (if x5_1.length + y350.length < 5864062014805 then (impl_pieceTurns.l0 kj10 y347 (x5_1 ++ y350) (wrap64 (x6_1 + 1)) a0_0 l0_1 a0_2 a0_3) else (none)) = some (r1, r2) := by first | (rw [hy350]; with_reducible exact H) | (have H2_ := (Option.bind_some _ _).symm.trans H; rw [hy350]; with_reducible exact H2_) | (have H2_ := (Option.bind_some _ _).symm.trans H; with_reducible exact H2_) | with_reducible exact H | (rw [hy350]; exact H) | exact H
       have Ny350 := mkA hy350
       clear hy350
       by_cases c26 : x5_1.length + y350.length < 5864062014805
       rotate_left
       · rw [if_neg c26] at H
         exact absurd H (by simp)
       rw [if_pos c26] at H
       have LMc26 := mkA c26
       clear c26
       obtain ⟨y353, hy353⟩ : ∃ y_ : List (List (S105)), y_ = (x5_1 ++ y350) := ⟨_, rfl⟩
       replace H : (impl_pieceTurns.l0 kj10 y347 y353 (wrap64 (x6_1 + 1)) a0_0 l0_1 a0_2 a0_3) = some (r1, r2) := by first | (rw [hy353]; with_reducible exact H) | (have H2_ := (Option.bind_some _ _).symm.trans H; rw [hy353]; with_reducible exact H2_) | (have H2_ := (Option.bind_some _ _).symm.trans H; with_reducible exact H2_) | with_reducible exact H | (rw [hy353]; exact H) | exact H
       have Ny353 := mkA hy353
       clear hy353
       have H' := mkA H
       clear H
       have hcz27_0 : wc.cell? ⟨gb329, 0, none⟩ = some (.string a0_0) := (blk_cell BK329.out 0).trans rfl
       have hcz27_1 : wc.cell? ⟨gb329, 1, none⟩ = some (.slice A0_1 l0_1.length c0_1) := (blk_cell BK329.out 1).trans rfl
       have hcz27_2 : wc.cell? ⟨gb329, 2, none⟩ = some (.int .i64 a0_2) := (blk_cell BK329.out 2).trans rfl
       have hcz27_3 : wc.cell? ⟨gb329, 3, none⟩ = some (.bool a0_3) := (blk_cell BK329.out 3).trans rfl
       have hfz27_0 := blk_frozen BK329.out 0
       have hfz27_1 := blk_frozen BK329.out 1
       have hfz27_2 := blk_frozen BK329.out 2
       have hfz27_3 := blk_frozen BK329.out 3
       try go_wp2_with (first | ((with_reducible refine gate_callee (f := 79) rfl ?_); refine goesL_ (some 22) rfl rfl Try.func79 (by kernel_rfl) rfl #[.agg #[.string a0_0, .slice A0_1 l0_1.length c0_1, .int .i64 a0_2, .bool a0_3], .int .i64 x6_1] rfl (by (try simp only [List.map_toArray, List.map_cons, List.map_nil]); first | done | rfl | (simp only [List.length_drop, List.length_take]; rfl)) ?_; (with_reducible refine (impl_turnedCells.calls kj10 a0_0 _ _ l0_1 a0_2 a0_3 x6_1 t339 _ ?side1 ?side2 A15.out).mono ?_); (case side1 => exact cb_ HR0_1.out HB.out); (case side2 => exact HC0_1.out); rintro e w28 ⟨v340, rfl, ho0, hb⟩; refine ⟨_, rfl, ?_⟩; have n0_ := mkA (Kd.R_below (by (with_reducible repeat (first | apply Kd.R_alloc | apply Kd.R_drewN | apply Kd.R_drew)); exact HO_4.out) hb); have n1_ := mkA (Kd.N_elder' (by (with_reducible repeat (first | apply Kd.N_alloc | apply Kd.N_drewN | apply Kd.N_drew)); exact HO_5.out) (Kd.R_base ho0) hb); have n2_ := mkA (Kd.R_lower (Kd.R_newM (M := fun k_ => (w.heap.size ≤ k_)) ho0 (below_size (bs1_ HB.out GE329.out)) (fun k_ h_ => h_)) (below_size (bs1_ HB.out GE329.out))); have n3_ := mkA (blk_below (g := gb329) (o := .cells #[.string a0_0, .slice A0_1 l0_1.length c0_1, .int .i64 a0_2, .bool a0_3] 53 (0, 0)) (bl_ BK329.out) hb); have n4_ := mkA (below_step (bs1_ HB.out GE329.out) hb); clear HO_4; clear HO_5; clear BK329; clear HB; have HO_4 := n0_; have HO_5 := n1_; have HO341 := n2_; have BK329 := n3_; have HB := n4_; clear n0_ n1_ n2_ n3_ n4_; (try clear hb); (try clear hb2); (try clear hk); (try clear hi); (try clear ho0)) | ((with_reducible refine gate_dst (N := 7) rfl ?_); refine box_event ?hg (N := 7) ?hd (cs := #[.slice none 0 0]) (t := 51) ?hr ?_; (case hd => rfl); (case hg => rfl); (case hr => first | (go_simp; done) | (go_simp; rfl)); intro gb342 hg w29 hbox hb; have n0_ := mkA (Kd.R_below (by (with_reducible repeat (first | apply Kd.R_alloc | apply Kd.R_drewN | apply Kd.R_drew)); exact HO_4.out) hb); have n1_ := mkA (Kd.N_below (Kd.N_elderB (by (with_reducible repeat (first | apply Kd.N_alloc | apply Kd.N_drewN | apply Kd.N_drew)); exact HO_5.out) gb342 (Nat.le_of_eq hg.symm)) hb); have n2_ := mkA (Kd.R_below (by (with_reducible repeat (first | apply Kd.R_alloc | apply Kd.R_drewN | apply Kd.R_drew)); exact HO341.out) hb); have n3_ := mkA (blk_below (g := gb329) (o := .cells #[.string a0_0, .slice A0_1 l0_1.length c0_1, .int .i64 a0_2, .bool a0_3] 53 (0, 0)) (bl_ BK329.out) hb); have n4_ := mkA (below_step (bs1_ HB.out GE329.out) hb); have n5_ := mkA (hbox); have n6_ := mkA ((by rw [hg]; exact (below_size (bs1_ HB.out GE329.out)) : w.heap.size ≤ gb342)); have n7_ := mkA ((by rw [hg]; exact (below_size (bs1_ HB.out GE329.out)) : w.heap.size ≤ gb342)); have n8_ := mkA ((by rw [hg]; exact Nat.ne_of_lt (blk_lt (g := gb329) (o := .cells #[.string a0_0, .slice A0_1 l0_1.length c0_1, .int .i64 a0_2, .bool a0_3] 53 (0, 0)) (bl_ BK329.out)) : gb329 ≠ gb342)); have n9_ := mkA ((by rw [hg]; exact Nat.ne_of_gt (blk_lt (g := gb329) (o := .cells #[.string a0_0, .slice A0_1 l0_1.length c0_1, .int .i64 a0_2, .bool a0_3] 53 (0, 0)) (bl_ BK329.out)) : gb342 ≠ gb329)); clear HO_4; clear HO_5; clear HO341; clear BK329; clear HB; have HO_4 := n0_; have HO_5 := n1_; have HO341 := n2_; have BK329 := n3_; have HB := n4_; have BK342 := n5_; have GW342 := n6_; have GE342 := n7_; have NB329_342 := n8_; have NB342_329 := n9_; clear n0_ n1_ n2_ n3_ n4_ n5_ n6_ n7_ n8_ n9_; clear hb hbox hg; obtain ⟨Ao30, co30, eo30⟩ := Kd.R_slice HO341.out; subst eo30; have hnb31 := NB342_329.out; have hnc31 := NB329_342.out; have hcz32_0 : w29.cell? ⟨gb342, 0, none⟩ = some (.slice none 0 0) := (blk_cell BK342.out 0).trans rfl; have hfz32_0 := blk_frozen BK342.out 0; obtain ⟨Ao33, co33, eo33⟩ := Kd.N_slice HO_5.out; subst eo33) | ((with_reducible refine gate_callee (f := 97) rfl ?_); refine goesL_ (some 25) rfl rfl Try.func97 (by kernel_rfl) rfl #[.slice Ao33 x5_1.length co33, .func (.func 98) #[] #[.pointer (some ⟨gb342, 0, none⟩)]] rfl (by (try simp only [List.map_toArray, List.map_cons, List.map_nil]); first | done | rfl | (simp only [List.length_drop, List.length_take]; rfl)) ?_; (with_reducible refine (fi97_98.calls kj10 _ _ x5_1 _ [t339] false _ ?side1 ?side2 ?side3 A16.out).mono ?_); (case side1 => refine (Kd.N_reads' (e := 51) (base := w.heap.size) (ok := fun k_ => ((((w.heap.size ≤ k_) ∧ (some k_ ≠ (u4 : Value).ownBlock ∧ k_ ≠ gb329)) ∧ some k_ ≠ (.slice Ao30 t339.length co30 : Value).ownBlock) ∧ k_ ≠ gb342)) (n := x5_1.length) (c := co33) ?_).2.2; exact (by (with_reducible repeat (first | apply Kd.N_alloc | apply Kd.N_drewN | apply Kd.N_drew)); exact (Kd.N_mono (Kd.N_far (p := ⟨gb342, 0, none⟩) (Kd.N_mono HO_5.out (fun k_ hk => (⟨hk, hk.2⟩ : _ ∧ k_ ≠ gb342))) (fun _ hk => hk.2) (.slice Ao30 t339.length co30)) (fun _ h_ => h_.1)))); (case side2 => exact (Kd.N_reads' HO_5.out).2.1); (case side3 => exact Go.Proofs.YtakagkflgkoiiaaX.rp_box (t := 51) (fr := (0, 0)) (by (with_reducible repeat (first | refine blk_drewN ?_ _ | refine blk_drew ?_ | refine blk_alloc ?_ _)); refine blk_put (cs := #[.slice none 0 0]) ?_ 0 _ rfl; (with_reducible repeat (first | refine blk_drewN ?_ _ | refine blk_drew ?_ | refine blk_alloc ?_ _)); exact BK342.out) ⟨_, _, rfl, (by exact (Kd.R_reads' HO341.out).2.1), (by refine (Kd.R_reads' (e := 105) (base := w.heap.size) (ok := fun k_ => ((w.heap.size ≤ k_) ∧ True)) (n := t339.length) (c := co30) ?_).2.2; exact (by (with_reducible repeat (first | apply Kd.R_alloc | apply Kd.R_drewN | apply Kd.R_drew)); exact (Kd.R_mono (Kd.R_far (p := ⟨gb342, 0, none⟩) (Kd.R_types HO341.out BK342.out (by decide)) (fun _ hk => hk.2) (.slice Ao30 t339.length co30)) (fun _ h_ => h_.1))))⟩); rintro e w' ⟨rfl, ⟨nd, rfl⟩⟩; refine ⟨_, rfl, ?_⟩; obtain ⟨Ao34, co34, eo34⟩ := Kd.R_slice HO_4.out; subst eo34))
       have n0_ : Aside0 (Kd.R (Kd.int .i64) 2 (w29.setCell ⟨gb342, 0, none⟩ (.slice Ao30 t339.length co30)) w.heap.size (fun k_ => (w.heap.size ≤ k_)) (.slice Ao34 x4_1.length co34) x4_1) := ⟨by (with_reducible repeat (first | apply Kd.R_alloc | apply Kd.R_drewN | apply Kd.R_drew)); exact Kd.R_mono (Kd.R_far (p := ⟨gb342, 0, none⟩) (Kd.R_types HO_4.out BK342.out (by decide)) (fun _ hk => hk.2) (.slice Ao30 t339.length co30)) (fun _ hk => hk.1)⟩
       have n1_ : Aside0 (Kd.N (Kd.slice 105 k105) 51 (w29.setCell ⟨gb342, 0, none⟩ (.slice Ao30 t339.length co30)) w.heap.size (fun k_ => (w.heap.size ≤ k_) ∧ some k_ ≠ (.slice Ao34 x4_1.length co34 : Value).ownBlock ∧ some k_ ≠ (.slice Ao30 t339.length co30 : Value).ownBlock ∧ k_ ≠ gb329 ∧ k_ ≠ gb342) (.slice Ao33 x5_1.length co33) x5_1) := ⟨by (with_reducible repeat (first | apply Kd.N_alloc | apply Kd.N_drewN | apply Kd.N_drew)); exact Kd.N_mono (Kd.N_far (p := ⟨gb342, 0, none⟩) (Kd.N_mono HO_5.out (fun k_ hk => (⟨hk, hk.2⟩ : _ ∧ k_ ≠ gb342))) (fun _ hk => hk.2) (.slice Ao30 t339.length co30)) (fun _ hk => ⟨hk.1.1.1.1, ⟨hk.1.1.1.2.1, ⟨hk.1.1.2, ⟨hk.1.1.1.2.2, hk.1.2⟩⟩⟩⟩)⟩
       have n2_ : Aside0 (Kd.R k105 105 (w29.setCell ⟨gb342, 0, none⟩ (.slice Ao30 t339.length co30)) w.heap.size (fun k_ => (w.heap.size ≤ k_)) (.slice Ao30 t339.length co30) t339) := ⟨by (with_reducible repeat (first | apply Kd.R_alloc | apply Kd.R_drewN | apply Kd.R_drew)); exact Kd.R_mono (Kd.R_far (p := ⟨gb342, 0, none⟩) (Kd.R_types HO341.out BK342.out (by decide)) (fun _ hk => hk.2) (.slice Ao30 t339.length co30)) (fun _ hk => hk.1.1)⟩
       have n3_ : Aside0 ((w29.setCell ⟨gb342, 0, none⟩ (.slice Ao30 t339.length co30)).heap[gb329]? = some (.cells #[.string a0_0, .slice A0_1 l0_1.length c0_1, .int .i64 a0_2, .bool a0_3] 53 (0, 0))) := ⟨by (with_reducible repeat (first | refine blk_drewN ?_ _ | refine blk_drew ?_ | refine blk_alloc ?_ _)); refine blk_far ?_ NB329_342.out _; (with_reducible repeat (first | refine blk_drewN ?_ _ | refine blk_drew ?_ | refine blk_alloc ?_ _)); exact BK329.out⟩
       have n4_ : Aside0 ((w29.setCell ⟨gb342, 0, none⟩ (.slice Ao30 t339.length co30)).heap[gb342]? = some (.cells #[.slice Ao30 t339.length co30] 51 (0, 0))) := ⟨by (with_reducible repeat (first | refine blk_drewN ?_ _ | refine blk_drew ?_ | refine blk_alloc ?_ _)); refine blk_put (cs := #[.slice none 0 0]) ?_ 0 _ rfl; (with_reducible repeat (first | refine blk_drewN ?_ _ | refine blk_drew ?_ | refine blk_alloc ?_ _)); exact BK342.out⟩
       have n5_ : Aside0 (Below w.heap.size w (w29.setCell ⟨gb342, 0, none⟩ (.slice Ao30 t339.length co30))) := ⟨by repeat (first | (with_reducible first | exact HB.out | apply below_alloc | apply pw_below_drewN | apply below_drew1 | refine below_set ?_ GE329.out | refine below_set ?_ GE342.out) | exact HB.out)⟩
       (try clear HO_4)
       (try clear HO_5)
       (try clear HO341)
       (try clear BK329)
       (try clear BK342)
       (try clear HB)
       generalize (w29.setCell ⟨gb342, 0, none⟩ (.slice Ao30 t339.length co30)) = w35 at n0_ n1_ n2_ n3_ n4_ n5_ ⊢
       have HO_4 := n0_
       have HO_5 := n1_
       have HO341 := n2_
       have BK329 := n3_
       have BK342 := n4_
       have HB := n5_
       clear n0_ n1_ n2_ n3_ n4_ n5_
       (try (rw [drewN_self w35]; generalize hq_ : World.drewN w35 _ = w35; have n0_ : Aside0 (Kd.R k105 105 w35 w.heap.size (fun k_ => (w.heap.size ≤ k_)) (.slice Ao30 t339.length co30) t339) := ⟨by rw [← hq_]; exact (by (with_reducible repeat (first | apply Kd.R_alloc | apply Kd.R_drewN | apply Kd.R_drew)); exact HO341.out)⟩; have n1_ : Aside0 (Kd.R (Kd.int .i64) 2 w35 w.heap.size (fun k_ => (w.heap.size ≤ k_)) (.slice Ao34 x4_1.length co34) x4_1) := ⟨by rw [← hq_]; exact (by (with_reducible repeat (first | apply Kd.R_alloc | apply Kd.R_drewN | apply Kd.R_drew)); exact HO_4.out)⟩; have n2_ : Aside0 (Kd.N (Kd.slice 105 k105) 51 w35 w.heap.size (fun k_ => (((w.heap.size ≤ k_)) ∧ (some k_ ≠ (.slice Ao34 x4_1.length co34 : Value).ownBlock ∧ (some k_ ≠ (.slice Ao30 t339.length co30 : Value).ownBlock ∧ (k_ ≠ gb329 ∧ k_ ≠ gb342))))) (.slice Ao33 x5_1.length co33) x5_1) := ⟨by rw [← hq_]; exact (by (with_reducible repeat (first | apply Kd.N_alloc | apply Kd.N_drewN | apply Kd.N_drew)); exact HO_5.out)⟩; have n3_ : Aside0 (w35.heap[gb329]? = some (.cells #[.string a0_0, .slice A0_1 l0_1.length c0_1, .int .i64 a0_2, .bool a0_3] 53 (0, 0))) := ⟨by rw [← hq_]; exact (bl_ BK329.out)⟩; have n4_ : Aside0 (w35.heap[gb342]? = some (.cells #[.slice Ao30 t339.length co30] 51 (0, 0))) := ⟨by rw [← hq_]; exact (bl_ BK342.out)⟩; have n5_ : Aside0 (Below w.heap.size w w35) := ⟨by rw [← hq_]; exact (bs2_ HB.out GE329.out GE342.out)⟩; clear HO341 HO_4 HO_5 BK329 BK342 HB hq_; have HO341 := n0_; have HO_4 := n1_; have HO_5 := n2_; have BK329 := n3_; have BK342 := n4_; have HB := n5_; clear n0_ n1_ n2_ n3_ n4_ n5_))
       have n0_ := mkA (Kd.R_drew HO_4.out)
       have n1_ := mkA (Kd.N_drew HO_5.out)
       have n2_ := mkA (Kd.R_drew HO341.out)
       have n3_ := mkA (blk_drew BK329.out)
       have n4_ := mkA (blk_drew BK342.out)
       have n5_ := mkA (below_drew1 HB.out)
       clear HO_4
       clear HO_5
       clear HO341
       clear BK329
       clear BK342
       clear HB
       have HO_4 := n0_
       have HO_5 := n1_
       have HO341 := n2_
       have BK329 := n3_
       have BK342 := n4_
       have HB := n5_
       clear n0_ n1_ n2_ n3_ n4_ n5_
       refine start_ (n := 10) (S := fun w' => w'.cell? ⟨gb342, 0, none⟩ = some (.slice Ao30 t339.length co30)) (ds := []) impl_pieceTurns.d0 (by kernel_rfl) rfl rfl ((blk_cell BK342.out 0).trans rfl) (fun hHeld => ?_); refine with_tabW impl_pieceTurns.tab7 impl_pieceTurns.bits7 (fun HT_ HW_ => ?_)
       generalize w35.drew = w36 at HO_4 HO_5 HO341 BK329 BK342 HB hHeld ⊢
       refine p1_ HT_.out 0 27 impl_pieceTurns.d1 ?_
       refine p1_ HT_.out 1 28 impl_pieceTurns.d2 ?_
       refine p1_ HT_.out 4 31 impl_pieceTurns.d3 ?_
       refine take_ (i := 5) (N := some 32) (v := ?_) (a' := ?_) impl_pieceTurns.d4 rfl rfl (take_ofW HT_.out HW_.out (by kernel_rfl)) (fun _ _ _ h => h) (Or.inl ⟨by rfl, ?_⟩) hHeld ?_ ?_
       rotate_left
       · intro w' s0
         go_simp
         with_reducible rfl
       rotate_left
       · simp only [Act.put, sA, sB, sC, i64_w, i32_w]
         rfl
       refine join_ (σ := Value × Value × Value) 3 impl_pieceTurns.d5 (fun s_ => [(29, s_.1), (30, s_.2.1), (33, s_.2.2)]) (fun s_ w' => (w'.cell? ⟨gb342, 0, none⟩ = some (.slice Ao30 t339.length co30)) ∧ (Kd.R (Kd.int .i64) 2 w' w.heap.size (fun k_ => (w.heap.size ≤ k_) ∧ some k_ ≠ (s_.2.1 : Value).ownBlock) s_.1 y344) ∧ (Kd.R (Kd.int .i64) 2 w' w.heap.size (fun k_ => (w.heap.size ≤ k_) ∧ some k_ ≠ (s_.1 : Value).ownBlock) s_.2.1 y347) ∧ (Kd.N (Kd.slice 105 k105) 51 w' w.heap.size (fun k_ => (w.heap.size ≤ k_) ∧ some k_ ≠ (s_.1 : Value).ownBlock ∧ some k_ ≠ (s_.2.1 : Value).ownBlock ∧ some k_ ≠ (.slice Ao33 x5_1.length co33 : Value).ownBlock ∧ k_ ≠ gb329 ∧ k_ ≠ gb342) s_.2.2 y350) ∧ (Kd.N (Kd.slice 105 k105) 51 w' w.heap.size (fun k_ => (w.heap.size ≤ k_) ∧ some k_ ≠ (s_.1 : Value).ownBlock ∧ some k_ ≠ (s_.2.1 : Value).ownBlock ∧ some k_ ≠ (s_.2.2 : Value).ownBlock ∧ k_ ≠ gb329 ∧ k_ ≠ gb342) (.slice Ao33 x5_1.length co33) x5_1) ∧ (w'.heap[gb329]? = some (.cells #[.string a0_0, .slice A0_1 l0_1.length c0_1, .int .i64 a0_2, .bool a0_3] 53 (0, 0))) ∧ (w'.heap[gb342]? = some (.cells #[.slice Ao30 t339.length co30] 51 (0, 0))) ∧ (Below w.heap.size w w')) ?_ ?_
       rotate_left
       · intro hCont
         refine two_ (i := 2) (j := 6) (Ni := some 29) (Nj := some 33) impl_pieceTurns.d6 impl_pieceTurns.d7 rfl rfl rfl rfl (two_of HT_.out (by kernel_rfl)) (by decide) (by decide) (fun K hK => ?_) (fun K hK => ?_)
         · skip
           refine Kd.R_lit_step (Kd.int .i64) _ 2 ?hg (N := 29) ?hd (xs := ([x6_1] : List Int)) (inner := [.int .i64 x6_1]) (ok := fun _ => True) (okp := fun _ => True) ?hr ?hp (fun _ hk => hk) trivial (Below.refl _ _) (Nat.le_refl _) (by simp) ?_; (case hd => rfl); (case hg => rfl); (case hr => first | (go_simp; done) | (go_simp; rfl)); (case hp => exact (Reps.one (show Kd.M (Kd.int .i64) _ _ _ x6_1 [.int .i64 x6_1] from rfl) (Reps.none _ _)))
           intro v345 w37 ho38 hb hg_ hnew_
           clear hg_ hnew_
           (first | rw [← Ny344.out] at ho38 | (simp only [Int.reduceToNat] at ho38; rw [← Ny344.out] at ho38))
           have n0_ := mkA (Kd.R_elder' (by (with_reducible repeat (first | apply Kd.R_alloc | apply Kd.R_drewN | apply Kd.R_drew)); exact HO_4.out) (Kd.R_base ho38) hb)
           have n1_ := mkA (Kd.N_elder' (by (with_reducible repeat (first | apply Kd.N_alloc | apply Kd.N_drewN | apply Kd.N_drew)); exact HO_5.out) (Kd.R_base ho38) hb)
           have n2_ := mkA (Kd.R_below (by (with_reducible repeat (first | apply Kd.R_alloc | apply Kd.R_drewN | apply Kd.R_drew)); exact HO341.out) hb)
           have n3_ := mkA (Kd.R_lower (Kd.R_new' (Kd.R_newM (M := fun k_ => (w.heap.size ≤ k_)) ho38 (below_size (bs2_ HB.out GE329.out GE342.out)) (fun k_ h_ => h_)) (Kd.R_lt (by (with_reducible repeat (first | apply Kd.R_alloc | apply Kd.R_drewN | apply Kd.R_drew)); exact HO_4.out))) (below_size (bs2_ HB.out GE329.out GE342.out)))
           have n4_ := mkA (blk_below (g := gb329) (o := .cells #[.string a0_0, .slice A0_1 l0_1.length c0_1, .int .i64 a0_2, .bool a0_3] 53 (0, 0)) (bl_ BK329.out) hb)
           have n5_ := mkA (blk_below (g := gb342) (o := .cells #[.slice Ao30 t339.length co30] 51 (0, 0)) (bl_ BK342.out) hb)
           have n6_ := mkA (below_step (bs2_ HB.out GE329.out GE342.out) hb)
           clear HO_4
           clear HO_5
           clear HO341
           clear BK329
           clear BK342
           clear HB
           have HO_4 := n0_
           have HO_5 := n1_
           have HO341 := n2_
           have HO346 := n3_
           have BK329 := n4_
           have BK342 := n5_
           have HB := n6_
           clear n0_ n1_ n2_ n3_ n4_ n5_ n6_
           clear hb ho38
           obtain ⟨Ao40, co40, eo40⟩ := Kd.R_slice HO346.out
           (first | subst eo40 | (injection eo40 with f1_ f2_ f3_; have f4_ := f1_.symm; have f5_ := f3_.symm; clear f1_ f2_ f3_; subst f4_; subst f5_))
           refine hK.out _ _ ((blk_cell BK342.out 0).trans rfl) (fun hHeld => ?_)
           clear hK K
           refine norm_ (a' := ?_) ?_ ?_
           rotate_left
           · show Act.put _ (some 29) _ = _
             simp only [Act.put, sA, sB, sC, i64_w, i32_w]
             rfl
           refine two_ (i := 3) (j := 6) (Ni := some 30) (Nj := some 33) impl_pieceTurns.d8 impl_pieceTurns.d9 rfl rfl rfl rfl (two_of HT_.out (by kernel_rfl)) (by decide) (by decide) (fun K hK => ?_) (fun K hK => ?_)
           · skip
             refine Kd.R_append_rows_step (Kd.int .i64) (w0 := w) w.heap.size (by rfl) (.tmp 27) (.tmp 29) 22 2 (.int .i64 0) 8 rfl Try.underlying22 info2 rfl (by decide) (by omega) (.slice Ao34 x4_1.length co34) x4_1 y344 _ _ _ (fun k_ => (w.heap.size ≤ k_) ∧ some k_ ≠ (.slice Ao40 y344.length co40 : Value).ownBlock) (fun _ => False) rfl rfl ?aO ?aR (fun _ _ h => h) (fun _ h => h.elim) ?aF ?aB ?aS ?aL ?_
             (case aR => repeat (first | exact (Kd.R_reads' HO346.out).2.2 | (with_reducible refine Kd.C_alloc ?_ _) | (with_reducible refine Kd.C_drewN ?_ _) | (with_reducible refine Kd.C_drew ?_)))
             (case aB => exact (bs2_ HB.out GE329.out GE342.out))
             (case aF => exact (fun k_ hk => ⟨(Nat.le_trans (below_size (bs2_ HB.out GE329.out GE342.out)) hk), Kd.fresh' (Kd.R_lt (by (with_reducible repeat (first | apply Kd.R_alloc | apply Kd.R_drewN | apply Kd.R_drew)); exact HO346.out)) k_ hk⟩))
             (case aO => exact (by (with_reducible repeat (first | apply Kd.R_alloc | apply Kd.R_drewN | apply Kd.R_drew)); exact HO_4.out))
             (case aS => exact (below_size (bs2_ HB.out GE329.out GE342.out)))
             (case aL => have := LMc25.out; omega)
             intro v348 w39 ho hb hg hat
             rw [← Ny347.out] at ho
             have n0_ := mkA (Kd.N_afterv (ok := (fun k_ => (w.heap.size ≤ k_) ∧ some k_ ≠ (.slice Ao30 t339.length co30 : Value).ownBlock ∧ some k_ ≠ (.slice Ao40 y344.length co40 : Value).ownBlock ∧ k_ ≠ gb329 ∧ k_ ≠ gb342)) (by (with_reducible repeat (first | apply Kd.N_alloc | apply Kd.N_drewN | apply Kd.N_drew)); exact Kd.N_mono HO_5.out (fun _ hk => ⟨⟨hk.1.1, ⟨hk.1.2.2.1, ⟨hk.2, ⟨hk.1.2.2.2.1, hk.1.2.2.2.2⟩⟩⟩⟩, hk.1.2.1⟩)) hg hat)
             have n1_ := mkA (blk_grown (g := gb329) (o := .cells #[.string a0_0, .slice A0_1 l0_1.length c0_1, .int .i64 a0_2, .bool a0_3] 53 (0, 0)) (bl_ BK329.out) hg (Kd.R_ne HO_4.out BK329.out (by decide)))
             have n2_ := mkA (Kd.R_over' (by (with_reducible repeat (first | apply Kd.R_alloc | apply Kd.R_drewN | apply Kd.R_drew)); exact HO341.out) (Kd.R_typed (by (with_reducible repeat (first | apply Kd.R_alloc | apply Kd.R_drewN | apply Kd.R_drew)); exact HO_4.out)) (by decide) hg)
             have n3_ := mkA (blk_grown (g := gb342) (o := .cells #[.slice Ao30 t339.length co30] 51 (0, 0)) (bl_ BK342.out) hg (Kd.R_ne HO_4.out BK342.out (by decide)))
             have n4_ := mkA (Kd.R_after (ok := (fun k_ => (w.heap.size ≤ k_))) (by (with_reducible repeat (first | apply Kd.R_alloc | apply Kd.R_drewN | apply Kd.R_drew)); exact Kd.R_mono HO346.out (fun _ hk => ⟨hk.1.1, hk.2⟩)) hg hat)
             have n5_ := mkA (hb)
             have n6_ := mkA (ho)
             clear HO_5
             clear BK329
             clear HO341
             clear BK342
             clear HO346
             clear HB
             clear HO_4
             have HO_5 := n0_
             have BK329 := n1_
             have HO341 := n2_
             have BK342 := n3_
             have HO346 := n4_
             have HB := n5_
             have HO349 := n6_
             clear n0_ n1_ n2_ n3_ n4_ n5_ n6_
             clear ho hb hg hat
             refine hK.out _ _ ((blk_cell BK342.out 0).trans rfl) (fun hHeld => ?_)
             clear hK K
             refine norm_ (a' := ?_) ?_ ?_
             rotate_left
             · show Act.put _ (some 30) _ = _
               simp only [Act.put, sA, sB, sC, i64_w, i32_w]
               rfl
             refine one_ (i := 6) (N := some 33) impl_pieceTurns.d5 rfl rfl (one_of HT_.out (by kernel_rfl)) (by decide) (fun K hK => ?_)
             refine Kd.N_lit_step (Kd.slice 105 k105) _ 51 ?hg (N' := 33) ?hd (xs := ([t339] : List (List (S105)))) (inner := [.slice Ao30 t339.length co30]) (ok := (fun k_ => (w.heap.size ≤ k_) ∧ some k_ ≠ (.slice Ao33 x5_1.length co33 : Value).ownBlock ∧ some k_ ≠ (.slice Ao40 y344.length co40 : Value).ownBlock ∧ some k_ ≠ (v348 : Value).ownBlock ∧ k_ ≠ gb329 ∧ k_ ≠ gb342)) (okp := (fun k_ => (w.heap.size ≤ k_) ∧ some k_ ≠ (.slice Ao33 x5_1.length co33 : Value).ownBlock ∧ some k_ ≠ (.slice Ao40 y344.length co40 : Value).ownBlock ∧ some k_ ≠ (v348 : Value).ownBlock ∧ k_ ≠ gb329 ∧ k_ ≠ gb342)) ?hr ?hp (fun _ hk => hk) ((show ∀ k_, w39.heap.size ≤ k_ → (fun k_ => (w.heap.size ≤ k_) ∧ some k_ ≠ (.slice Ao33 x5_1.length co33 : Value).ownBlock ∧ some k_ ≠ (.slice Ao40 y344.length co40 : Value).ownBlock ∧ some k_ ≠ (v348 : Value).ownBlock ∧ k_ ≠ gb329 ∧ k_ ≠ gb342) k_ from fun k_ hk => ⟨(Nat.le_trans (below_size (bs2_ HB.out GE329.out GE342.out)) hk), Kd.fresh' (Kd.N_lt (by (with_reducible repeat (first | apply Kd.N_alloc | apply Kd.N_drewN | apply Kd.N_drew)); exact HO_5.out)) k_ hk, Kd.fresh' (Kd.R_lt (by (with_reducible repeat (first | apply Kd.R_alloc | apply Kd.R_drewN | apply Kd.R_drew)); exact HO346.out)) k_ hk, Kd.fresh' (Kd.R_lt (by (with_reducible repeat (first | apply Kd.R_alloc | apply Kd.R_drewN | apply Kd.R_drew)); exact HO349.out)) k_ hk, Kd.freshB (g := gb329) (o := .cells #[.string a0_0, .slice A0_1 l0_1.length c0_1, .int .i64 a0_2, .bool a0_3] 53 (0, 0)) (bl_ BK329.out) k_ hk, Kd.freshB (g := gb342) (o := .cells #[.slice Ao30 t339.length co30] 51 (0, 0)) (bl_ BK342.out) k_ hk⟩) _ (Nat.le_refl _)) (Below.refl _ _) (Nat.le_refl _) (by simp) ?_; (case hd => rfl); (case hg => rfl); (case hr => first | (go_simp; done) | (go_simp; rfl)); (case hp => exact (Reps.one (show Kd.FK (Kd.slice 105 k105) _ _ t339 [.slice Ao30 t339.length co30] from (Kd.FK_slice_mk (Kd.R_reads' (Kd.R_mono (ok' := (fun k_ => (w.heap.size ≤ k_) ∧ some k_ ≠ (.slice Ao33 x5_1.length co33 : Value).ownBlock ∧ some k_ ≠ (.slice Ao40 y344.length co40 : Value).ownBlock ∧ some k_ ≠ (v348 : Value).ownBlock ∧ k_ ≠ gb329 ∧ k_ ≠ gb342)) (Kd.R_types (Kd.R_types (Kd.R_apart' (Kd.R_apart' (Kd.R_apart' (HO341.out) (Kd.N_typed HO_5.out) (by decide)) (Kd.R_typed HO346.out) (by decide)) (Kd.R_typed HO349.out) (by decide)) BK329.out (by decide)) BK342.out (by decide)) (fun k_ hk => ⟨hk.1.1.1.1.1, ⟨hk.1.1.1.1.2, ⟨hk.1.1.1.2, ⟨hk.1.1.2, ⟨hk.1.2, hk.2⟩⟩⟩⟩⟩))).2.1 (Kd.R_F (Kd.R_mono (ok' := (fun k_ => (w.heap.size ≤ k_) ∧ some k_ ≠ (.slice Ao33 x5_1.length co33 : Value).ownBlock ∧ some k_ ≠ (.slice Ao40 y344.length co40 : Value).ownBlock ∧ some k_ ≠ (v348 : Value).ownBlock ∧ k_ ≠ gb329 ∧ k_ ≠ gb342)) (Kd.R_types (Kd.R_types (Kd.R_apart' (Kd.R_apart' (Kd.R_apart' (HO341.out) (Kd.N_typed HO_5.out) (by decide)) (Kd.R_typed HO346.out) (by decide)) (Kd.R_typed HO349.out) (by decide)) BK329.out (by decide)) BK342.out (by decide)) (fun k_ hk => ⟨hk.1.1.1.1.1, ⟨hk.1.1.1.1.2, ⟨hk.1.1.1.2, ⟨hk.1.1.2, ⟨hk.1.2, hk.2⟩⟩⟩⟩⟩))))) (Reps.none _ _)))
             intro v351 w41 ho42 hb hg_ hnew_
             clear hg_ hnew_
             (first | rw [← Ny350.out] at ho42 | (simp only [Int.reduceToNat] at ho42; rw [← Ny350.out] at ho42))
             have n0_ := mkA (Kd.N_elder' (by (with_reducible repeat (first | apply Kd.N_alloc | apply Kd.N_drewN | apply Kd.N_drew)); exact HO_5.out) (Kd.N_base ho42) hb)
             have n1_ := mkA (Kd.R_below (by (with_reducible repeat (first | apply Kd.R_alloc | apply Kd.R_drewN | apply Kd.R_drew)); exact HO346.out) hb)
             have n2_ := mkA (Kd.R_below (by (with_reducible repeat (first | apply Kd.R_alloc | apply Kd.R_drewN | apply Kd.R_drew)); exact HO349.out) hb)
             have n3_ := mkA (Kd.N_lower ho42 (below_size (bs2_ HB.out GE329.out GE342.out)))
             have n4_ := mkA (blk_below (g := gb329) (o := .cells #[.string a0_0, .slice A0_1 l0_1.length c0_1, .int .i64 a0_2, .bool a0_3] 53 (0, 0)) (bl_ BK329.out) hb)
             have n5_ := mkA (blk_below (g := gb342) (o := .cells #[.slice Ao30 t339.length co30] 51 (0, 0)) (bl_ BK342.out) hb)
             have n6_ := mkA (below_step (bs2_ HB.out GE329.out GE342.out) hb)
             clear HO_5
             clear HO346
             clear HO349
             clear BK329
             clear BK342
             clear HB
             clear HO341
             have HO_5 := n0_
             have HO346 := n1_
             have HO349 := n2_
             have HO352 := n3_
             have BK329 := n4_
             have BK342 := n5_
             have HB := n6_
             clear n0_ n1_ n2_ n3_ n4_ n5_ n6_
             clear hb ho42
             refine hK.out _ _ ((blk_cell BK342.out 0).trans rfl) (fun hHeld => ?_)
             clear hK K
             refine norm_ (a' := ?_) ?_ ?_
             rotate_left
             · show Act.put _ (some 33) _ = _
               simp only [Act.put, sA, sB, sC, i64_w, i32_w]
               rfl
             exact norm_ (by simp only [putAll, Act.put, sA, sB, sC]) (hCont (.slice Ao40 y344.length co40, v348, v351) _ ⟨hHeld, (by (with_reducible repeat (first | apply Kd.R_alloc | apply Kd.R_drewN | apply Kd.R_drew)); exact HO346.out), (by (with_reducible repeat (first | apply Kd.R_alloc | apply Kd.R_drewN | apply Kd.R_drew)); exact HO349.out), (by (with_reducible repeat (first | apply Kd.N_alloc | apply Kd.N_drewN | apply Kd.N_drew)); exact Kd.N_mono HO352.out (fun _ hk => ⟨hk.1, ⟨hk.2.2.1, ⟨hk.2.2.2.1, ⟨hk.2.1, ⟨hk.2.2.2.2.1, hk.2.2.2.2.2⟩⟩⟩⟩⟩)), (by (with_reducible repeat (first | apply Kd.N_alloc | apply Kd.N_drewN | apply Kd.N_drew)); exact Kd.N_mono HO_5.out (fun _ hk => ⟨hk.1.1.1, ⟨hk.1.1.2.2.1, ⟨hk.1.2, ⟨hk.2, ⟨hk.1.1.2.2.2.1, hk.1.1.2.2.2.2⟩⟩⟩⟩⟩)), (bl_ BK329.out), (bl_ BK342.out), (bs2_ HB.out GE329.out GE342.out)⟩)
           · skip
             refine Kd.N_lit_step (Kd.slice 105 k105) _ 51 ?hg (N' := 33) ?hd (xs := ([t339] : List (List (S105)))) (inner := [.slice Ao30 t339.length co30]) (ok := (fun k_ => (w.heap.size ≤ k_) ∧ some k_ ≠ (.slice Ao34 x4_1.length co34 : Value).ownBlock ∧ some k_ ≠ (.slice Ao33 x5_1.length co33 : Value).ownBlock ∧ some k_ ≠ (.slice Ao40 y344.length co40 : Value).ownBlock ∧ k_ ≠ gb329 ∧ k_ ≠ gb342)) (okp := (fun k_ => (w.heap.size ≤ k_) ∧ some k_ ≠ (.slice Ao34 x4_1.length co34 : Value).ownBlock ∧ some k_ ≠ (.slice Ao33 x5_1.length co33 : Value).ownBlock ∧ some k_ ≠ (.slice Ao40 y344.length co40 : Value).ownBlock ∧ k_ ≠ gb329 ∧ k_ ≠ gb342)) ?hr ?hp (fun _ hk => hk) ((show ∀ k_, w37.heap.size ≤ k_ → (fun k_ => (w.heap.size ≤ k_) ∧ some k_ ≠ (.slice Ao34 x4_1.length co34 : Value).ownBlock ∧ some k_ ≠ (.slice Ao33 x5_1.length co33 : Value).ownBlock ∧ some k_ ≠ (.slice Ao40 y344.length co40 : Value).ownBlock ∧ k_ ≠ gb329 ∧ k_ ≠ gb342) k_ from fun k_ hk => ⟨(Nat.le_trans (below_size (bs2_ HB.out GE329.out GE342.out)) hk), Kd.fresh' (Kd.R_lt (by (with_reducible repeat (first | apply Kd.R_alloc | apply Kd.R_drewN | apply Kd.R_drew)); exact HO_4.out)) k_ hk, Kd.fresh' (Kd.N_lt (by (with_reducible repeat (first | apply Kd.N_alloc | apply Kd.N_drewN | apply Kd.N_drew)); exact HO_5.out)) k_ hk, Kd.fresh' (Kd.R_lt (by (with_reducible repeat (first | apply Kd.R_alloc | apply Kd.R_drewN | apply Kd.R_drew)); exact HO346.out)) k_ hk, Kd.freshB (g := gb329) (o := .cells #[.string a0_0, .slice A0_1 l0_1.length c0_1, .int .i64 a0_2, .bool a0_3] 53 (0, 0)) (bl_ BK329.out) k_ hk, Kd.freshB (g := gb342) (o := .cells #[.slice Ao30 t339.length co30] 51 (0, 0)) (bl_ BK342.out) k_ hk⟩) _ (Nat.le_refl _)) (Below.refl _ _) (Nat.le_refl _) (by simp) ?_; (case hd => rfl); (case hg => rfl); (case hr => first | (go_simp; done) | (go_simp; rfl)); (case hp => exact (Reps.one (show Kd.FK (Kd.slice 105 k105) _ _ t339 [.slice Ao30 t339.length co30] from (Kd.FK_slice_mk (Kd.R_reads' (Kd.R_mono (ok' := (fun k_ => (w.heap.size ≤ k_) ∧ some k_ ≠ (.slice Ao34 x4_1.length co34 : Value).ownBlock ∧ some k_ ≠ (.slice Ao33 x5_1.length co33 : Value).ownBlock ∧ some k_ ≠ (.slice Ao40 y344.length co40 : Value).ownBlock ∧ k_ ≠ gb329 ∧ k_ ≠ gb342)) (Kd.R_types (Kd.R_types (Kd.R_apart' (Kd.R_apart' (Kd.R_apart' (HO341.out) (Kd.R_typed HO_4.out) (by decide)) (Kd.N_typed HO_5.out) (by decide)) (Kd.R_typed HO346.out) (by decide)) BK329.out (by decide)) BK342.out (by decide)) (fun k_ hk => ⟨hk.1.1.1.1.1, ⟨hk.1.1.1.1.2, ⟨hk.1.1.1.2, ⟨hk.1.1.2, ⟨hk.1.2, hk.2⟩⟩⟩⟩⟩))).2.1 (Kd.R_F (Kd.R_mono (ok' := (fun k_ => (w.heap.size ≤ k_) ∧ some k_ ≠ (.slice Ao34 x4_1.length co34 : Value).ownBlock ∧ some k_ ≠ (.slice Ao33 x5_1.length co33 : Value).ownBlock ∧ some k_ ≠ (.slice Ao40 y344.length co40 : Value).ownBlock ∧ k_ ≠ gb329 ∧ k_ ≠ gb342)) (Kd.R_types (Kd.R_types (Kd.R_apart' (Kd.R_apart' (Kd.R_apart' (HO341.out) (Kd.R_typed HO_4.out) (by decide)) (Kd.N_typed HO_5.out) (by decide)) (Kd.R_typed HO346.out) (by decide)) BK329.out (by decide)) BK342.out (by decide)) (fun k_ hk => ⟨hk.1.1.1.1.1, ⟨hk.1.1.1.1.2, ⟨hk.1.1.1.2, ⟨hk.1.1.2, ⟨hk.1.2, hk.2⟩⟩⟩⟩⟩))))) (Reps.none _ _)))
             intro v351 w39 ho40 hb hg_ hnew_
             clear hg_ hnew_
             (first | rw [← Ny350.out] at ho40 | (simp only [Int.reduceToNat] at ho40; rw [← Ny350.out] at ho40))
             have n0_ := mkA (Kd.R_below (by (with_reducible repeat (first | apply Kd.R_alloc | apply Kd.R_drewN | apply Kd.R_drew)); exact HO_4.out) hb)
             have n1_ := mkA (Kd.N_elder' (by (with_reducible repeat (first | apply Kd.N_alloc | apply Kd.N_drewN | apply Kd.N_drew)); exact HO_5.out) (Kd.N_base ho40) hb)
             have n2_ := mkA (Kd.R_below (by (with_reducible repeat (first | apply Kd.R_alloc | apply Kd.R_drewN | apply Kd.R_drew)); exact HO346.out) hb)
             have n3_ := mkA (Kd.N_lower ho40 (below_size (bs2_ HB.out GE329.out GE342.out)))
             have n4_ := mkA (blk_below (g := gb329) (o := .cells #[.string a0_0, .slice A0_1 l0_1.length c0_1, .int .i64 a0_2, .bool a0_3] 53 (0, 0)) (bl_ BK329.out) hb)
             have n5_ := mkA (blk_below (g := gb342) (o := .cells #[.slice Ao30 t339.length co30] 51 (0, 0)) (bl_ BK342.out) hb)
             have n6_ := mkA (below_step (bs2_ HB.out GE329.out GE342.out) hb)
             clear HO_4
             clear HO_5
             clear HO346
             clear BK329
             clear BK342
             clear HB
             clear HO341
             have HO_4 := n0_
             have HO_5 := n1_
             have HO346 := n2_
             have HO352 := n3_
             have BK329 := n4_
             have BK342 := n5_
             have HB := n6_
             clear n0_ n1_ n2_ n3_ n4_ n5_ n6_
             clear hb ho40
             obtain ⟨Ao42, co42, eo42⟩ := Kd.R_slice HO346.out
             (first | subst eo42 | (injection eo42 with f1_ f2_ f3_; have f4_ := f1_.symm; have f5_ := f3_.symm; clear f1_ f2_ f3_; subst f4_; subst f5_))
             refine hK.out _ _ ((blk_cell BK342.out 0).trans rfl) (fun hHeld => ?_)
             clear hK K
             refine norm_ (a' := ?_) ?_ ?_
             rotate_left
             · show Act.put _ (some 33) _ = _
               simp only [Act.put, sA, sB, sC, i64_w, i32_w]
               rfl
             refine one_ (i := 3) (N := some 30) impl_pieceTurns.d5 rfl rfl (one_of HT_.out (by kernel_rfl)) (by decide) (fun K hK => ?_)
             refine Kd.R_append_rows_step (Kd.int .i64) (w0 := w) w.heap.size (by rfl) (.tmp 27) (.tmp 29) 22 2 (.int .i64 0) 8 rfl Try.underlying22 info2 rfl (by decide) (by omega) (.slice Ao34 x4_1.length co34) x4_1 y344 _ _ _ (fun k_ => (w.heap.size ≤ k_) ∧ some k_ ≠ (.slice Ao42 y344.length co42 : Value).ownBlock) (fun _ => False) rfl rfl ?aO ?aR (fun _ _ h => h) (fun _ h => h.elim) ?aF ?aB ?aS ?aL ?_
             (case aR => repeat (first | exact (Kd.R_reads' HO346.out).2.2 | (with_reducible refine Kd.C_alloc ?_ _) | (with_reducible refine Kd.C_drewN ?_ _) | (with_reducible refine Kd.C_drew ?_)))
             (case aB => exact (bs2_ HB.out GE329.out GE342.out))
             (case aF => exact (fun k_ hk => ⟨(Nat.le_trans (below_size (bs2_ HB.out GE329.out GE342.out)) hk), Kd.fresh' (Kd.R_lt (by (with_reducible repeat (first | apply Kd.R_alloc | apply Kd.R_drewN | apply Kd.R_drew)); exact HO346.out)) k_ hk⟩))
             (case aO => exact (by (with_reducible repeat (first | apply Kd.R_alloc | apply Kd.R_drewN | apply Kd.R_drew)); exact HO_4.out))
             (case aS => exact (below_size (bs2_ HB.out GE329.out GE342.out)))
             (case aL => have := LMc25.out; omega)
             intro v348 w41 ho hb hg hat
             rw [← Ny347.out] at ho
             have n0_ := mkA (Kd.N_afterv (ok := (fun k_ => (w.heap.size ≤ k_) ∧ some k_ ≠ (.slice Ao42 y344.length co42 : Value).ownBlock ∧ some k_ ≠ (v351 : Value).ownBlock ∧ k_ ≠ gb329 ∧ k_ ≠ gb342)) (by (with_reducible repeat (first | apply Kd.N_alloc | apply Kd.N_drewN | apply Kd.N_drew)); exact Kd.N_mono HO_5.out (fun _ hk => ⟨⟨hk.1.1.1, ⟨hk.1.2, ⟨hk.2, ⟨hk.1.1.2.2.2.1, hk.1.1.2.2.2.2⟩⟩⟩⟩, hk.1.1.2.1⟩)) hg hat)
             have n1_ := mkA (blk_grown (g := gb329) (o := .cells #[.string a0_0, .slice A0_1 l0_1.length c0_1, .int .i64 a0_2, .bool a0_3] 53 (0, 0)) (bl_ BK329.out) hg (Kd.R_ne HO_4.out BK329.out (by decide)))
             have n2_ := mkA (blk_grown (g := gb342) (o := .cells #[.slice Ao30 t339.length co30] 51 (0, 0)) (bl_ BK342.out) hg (Kd.R_ne HO_4.out BK342.out (by decide)))
             have n3_ := mkA (Kd.R_after (ok := (fun k_ => (w.heap.size ≤ k_))) (by (with_reducible repeat (first | apply Kd.R_alloc | apply Kd.R_drewN | apply Kd.R_drew)); exact Kd.R_mono HO346.out (fun _ hk => ⟨hk.1.1, hk.2⟩)) hg hat)
             have n4_ := mkA (Kd.N_afterv (ok := (fun k_ => (w.heap.size ≤ k_) ∧ some k_ ≠ (.slice Ao33 x5_1.length co33 : Value).ownBlock ∧ some k_ ≠ (.slice Ao42 y344.length co42 : Value).ownBlock ∧ k_ ≠ gb329 ∧ k_ ≠ gb342)) (by (with_reducible repeat (first | apply Kd.N_alloc | apply Kd.N_drewN | apply Kd.N_drew)); exact Kd.N_mono HO352.out (fun _ hk => ⟨⟨hk.1, ⟨hk.2.2.1, ⟨hk.2.2.2.1, ⟨hk.2.2.2.2.1, hk.2.2.2.2.2⟩⟩⟩⟩, hk.2.1⟩)) hg hat)
             have n5_ := mkA (hb)
             have n6_ := mkA (ho)
             clear HO_5
             clear BK329
             clear BK342
             clear HO346
             clear HO352
             clear HB
             clear HO_4
             have HO_5 := n0_
             have BK329 := n1_
             have BK342 := n2_
             have HO346 := n3_
             have HO352 := n4_
             have HB := n5_
             have HO349 := n6_
             clear n0_ n1_ n2_ n3_ n4_ n5_ n6_
             clear ho hb hg hat
             refine hK.out _ _ ((blk_cell BK342.out 0).trans rfl) (fun hHeld => ?_)
             clear hK K
             refine norm_ (a' := ?_) ?_ ?_
             rotate_left
             · show Act.put _ (some 30) _ = _
               simp only [Act.put, sA, sB, sC, i64_w, i32_w]
               rfl
             exact norm_ (by simp only [putAll, Act.put, sA, sB, sC]) (hCont (.slice Ao42 y344.length co42, v348, v351) _ ⟨hHeld, (by (with_reducible repeat (first | apply Kd.R_alloc | apply Kd.R_drewN | apply Kd.R_drew)); exact HO346.out), (by (with_reducible repeat (first | apply Kd.R_alloc | apply Kd.R_drewN | apply Kd.R_drew)); exact HO349.out), (by (with_reducible repeat (first | apply Kd.N_alloc | apply Kd.N_drewN | apply Kd.N_drew)); exact Kd.N_mono HO352.out (fun _ hk => ⟨hk.1.1, ⟨hk.1.2.2.1, ⟨hk.2, ⟨hk.1.2.1, ⟨hk.1.2.2.2.1, hk.1.2.2.2.2⟩⟩⟩⟩⟩)), (by (with_reducible repeat (first | apply Kd.N_alloc | apply Kd.N_drewN | apply Kd.N_drew)); exact Kd.N_mono HO_5.out (fun _ hk => ⟨hk.1.1, ⟨hk.1.2.1, ⟨hk.2, ⟨hk.1.2.2.1, ⟨hk.1.2.2.2.1, hk.1.2.2.2.2⟩⟩⟩⟩⟩)), (bl_ BK329.out), (bl_ BK342.out), (bs2_ HB.out GE329.out GE342.out)⟩)
         · skip
           refine Kd.N_lit_step (Kd.slice 105 k105) _ 51 ?hg (N' := 33) ?hd (xs := ([t339] : List (List (S105)))) (inner := [.slice Ao30 t339.length co30]) (ok := (fun k_ => (w.heap.size ≤ k_) ∧ some k_ ≠ (.slice Ao34 x4_1.length co34 : Value).ownBlock ∧ some k_ ≠ (.slice Ao33 x5_1.length co33 : Value).ownBlock ∧ k_ ≠ gb329 ∧ k_ ≠ gb342)) (okp := (fun k_ => (w.heap.size ≤ k_) ∧ some k_ ≠ (.slice Ao34 x4_1.length co34 : Value).ownBlock ∧ some k_ ≠ (.slice Ao33 x5_1.length co33 : Value).ownBlock ∧ k_ ≠ gb329 ∧ k_ ≠ gb342)) ?hr ?hp (fun _ hk => hk) ((show ∀ k_, w36.heap.size ≤ k_ → (fun k_ => (w.heap.size ≤ k_) ∧ some k_ ≠ (.slice Ao34 x4_1.length co34 : Value).ownBlock ∧ some k_ ≠ (.slice Ao33 x5_1.length co33 : Value).ownBlock ∧ k_ ≠ gb329 ∧ k_ ≠ gb342) k_ from fun k_ hk => ⟨(Nat.le_trans (below_size (bs2_ HB.out GE329.out GE342.out)) hk), Kd.fresh' (Kd.R_lt (by (with_reducible repeat (first | apply Kd.R_alloc | apply Kd.R_drewN | apply Kd.R_drew)); exact HO_4.out)) k_ hk, Kd.fresh' (Kd.N_lt (by (with_reducible repeat (first | apply Kd.N_alloc | apply Kd.N_drewN | apply Kd.N_drew)); exact HO_5.out)) k_ hk, Kd.freshB (g := gb329) (o := .cells #[.string a0_0, .slice A0_1 l0_1.length c0_1, .int .i64 a0_2, .bool a0_3] 53 (0, 0)) (bl_ BK329.out) k_ hk, Kd.freshB (g := gb342) (o := .cells #[.slice Ao30 t339.length co30] 51 (0, 0)) (bl_ BK342.out) k_ hk⟩) _ (Nat.le_refl _)) (Below.refl _ _) (Nat.le_refl _) (by simp) ?_; (case hd => rfl); (case hg => rfl); (case hr => first | (go_simp; done) | (go_simp; rfl)); (case hp => exact (Reps.one (show Kd.FK (Kd.slice 105 k105) _ _ t339 [.slice Ao30 t339.length co30] from (Kd.FK_slice_mk (Kd.R_reads' (Kd.R_mono (ok' := (fun k_ => (w.heap.size ≤ k_) ∧ some k_ ≠ (.slice Ao34 x4_1.length co34 : Value).ownBlock ∧ some k_ ≠ (.slice Ao33 x5_1.length co33 : Value).ownBlock ∧ k_ ≠ gb329 ∧ k_ ≠ gb342)) (Kd.R_types (Kd.R_types (Kd.R_apart' (Kd.R_apart' (HO341.out) (Kd.R_typed HO_4.out) (by decide)) (Kd.N_typed HO_5.out) (by decide)) BK329.out (by decide)) BK342.out (by decide)) (fun k_ hk => ⟨hk.1.1.1.1, ⟨hk.1.1.1.2, ⟨hk.1.1.2, ⟨hk.1.2, hk.2⟩⟩⟩⟩))).2.1 (Kd.R_F (Kd.R_mono (ok' := (fun k_ => (w.heap.size ≤ k_) ∧ some k_ ≠ (.slice Ao34 x4_1.length co34 : Value).ownBlock ∧ some k_ ≠ (.slice Ao33 x5_1.length co33 : Value).ownBlock ∧ k_ ≠ gb329 ∧ k_ ≠ gb342)) (Kd.R_types (Kd.R_types (Kd.R_apart' (Kd.R_apart' (HO341.out) (Kd.R_typed HO_4.out) (by decide)) (Kd.N_typed HO_5.out) (by decide)) BK329.out (by decide)) BK342.out (by decide)) (fun k_ hk => ⟨hk.1.1.1.1, ⟨hk.1.1.1.2, ⟨hk.1.1.2, ⟨hk.1.2, hk.2⟩⟩⟩⟩))))) (Reps.none _ _)))
           intro v351 w37 ho38 hb hg_ hnew_
           clear hg_ hnew_
           (first | rw [← Ny350.out] at ho38 | (simp only [Int.reduceToNat] at ho38; rw [← Ny350.out] at ho38))
           have n0_ := mkA (Kd.R_below (by (with_reducible repeat (first | apply Kd.R_alloc | apply Kd.R_drewN | apply Kd.R_drew)); exact HO_4.out) hb)
           have n1_ := mkA (Kd.N_elder' (by (with_reducible repeat (first | apply Kd.N_alloc | apply Kd.N_drewN | apply Kd.N_drew)); exact HO_5.out) (Kd.N_base ho38) hb)
           have n2_ := mkA (Kd.N_lower ho38 (below_size (bs2_ HB.out GE329.out GE342.out)))
           have n3_ := mkA (blk_below (g := gb329) (o := .cells #[.string a0_0, .slice A0_1 l0_1.length c0_1, .int .i64 a0_2, .bool a0_3] 53 (0, 0)) (bl_ BK329.out) hb)
           have n4_ := mkA (blk_below (g := gb342) (o := .cells #[.slice Ao30 t339.length co30] 51 (0, 0)) (bl_ BK342.out) hb)
           have n5_ := mkA (below_step (bs2_ HB.out GE329.out GE342.out) hb)
           clear HO_4
           clear HO_5
           clear BK329
           clear BK342
           clear HB
           clear HO341
           have HO_4 := n0_
           have HO_5 := n1_
           have HO352 := n2_
           have BK329 := n3_
           have BK342 := n4_
           have HB := n5_
           clear n0_ n1_ n2_ n3_ n4_ n5_
           clear hb ho38
           refine hK.out _ _ ((blk_cell BK342.out 0).trans rfl) (fun hHeld => ?_)
           clear hK K
           refine norm_ (a' := ?_) ?_ ?_
           rotate_left
           · show Act.put _ (some 33) _ = _
             simp only [Act.put, sA, sB, sC, i64_w, i32_w]
             rfl
           refine one_ (i := 2) (N := some 29) impl_pieceTurns.d9 rfl rfl (one_of HT_.out (by kernel_rfl)) (by decide) (fun K hK => ?_)
           refine Kd.R_lit_step (Kd.int .i64) _ 2 ?hg (N := 29) ?hd (xs := ([x6_1] : List Int)) (inner := [.int .i64 x6_1]) (ok := fun _ => True) (okp := fun _ => True) ?hr ?hp (fun _ hk => hk) trivial (Below.refl _ _) (Nat.le_refl _) (by simp) ?_; (case hd => rfl); (case hg => rfl); (case hr => first | (go_simp; done) | (go_simp; rfl)); (case hp => exact (Reps.one (show Kd.M (Kd.int .i64) _ _ _ x6_1 [.int .i64 x6_1] from rfl) (Reps.none _ _)))
           intro v345 w39 ho40 hb hg_ hnew_
           clear hg_ hnew_
           (first | rw [← Ny344.out] at ho40 | (simp only [Int.reduceToNat] at ho40; rw [← Ny344.out] at ho40))
           have n0_ := mkA (Kd.R_elder' (by (with_reducible repeat (first | apply Kd.R_alloc | apply Kd.R_drewN | apply Kd.R_drew)); exact HO_4.out) (Kd.R_base ho40) hb)
           have n1_ := mkA (Kd.N_elder' (by (with_reducible repeat (first | apply Kd.N_alloc | apply Kd.N_drewN | apply Kd.N_drew)); exact HO_5.out) (Kd.R_base ho40) hb)
           have n2_ := mkA (Kd.N_elder' (by (with_reducible repeat (first | apply Kd.N_alloc | apply Kd.N_drewN | apply Kd.N_drew)); exact HO352.out) (Kd.R_base ho40) hb)
           have n3_ := mkA (Kd.R_lower (Kd.R_new' (Kd.R_newM (M := fun k_ => (w.heap.size ≤ k_)) ho40 (below_size (bs2_ HB.out GE329.out GE342.out)) (fun k_ h_ => h_)) (Kd.R_lt (by (with_reducible repeat (first | apply Kd.R_alloc | apply Kd.R_drewN | apply Kd.R_drew)); exact HO_4.out))) (below_size (bs2_ HB.out GE329.out GE342.out)))
           have n4_ := mkA (blk_below (g := gb329) (o := .cells #[.string a0_0, .slice A0_1 l0_1.length c0_1, .int .i64 a0_2, .bool a0_3] 53 (0, 0)) (bl_ BK329.out) hb)
           have n5_ := mkA (blk_below (g := gb342) (o := .cells #[.slice Ao30 t339.length co30] 51 (0, 0)) (bl_ BK342.out) hb)
           have n6_ := mkA (below_step (bs2_ HB.out GE329.out GE342.out) hb)
           clear HO_4
           clear HO_5
           clear HO352
           clear BK329
           clear BK342
           clear HB
           have HO_4 := n0_
           have HO_5 := n1_
           have HO352 := n2_
           have HO346 := n3_
           have BK329 := n4_
           have BK342 := n5_
           have HB := n6_
           clear n0_ n1_ n2_ n3_ n4_ n5_ n6_
           clear hb ho40
           obtain ⟨Ao42, co42, eo42⟩ := Kd.R_slice HO346.out
           (first | subst eo42 | (injection eo42 with f1_ f2_ f3_; have f4_ := f1_.symm; have f5_ := f3_.symm; clear f1_ f2_ f3_; subst f4_; subst f5_))
           refine hK.out _ _ ((blk_cell BK342.out 0).trans rfl) (fun hHeld => ?_)
           clear hK K
           refine norm_ (a' := ?_) ?_ ?_
           rotate_left
           · show Act.put _ (some 29) _ = _
             simp only [Act.put, sA, sB, sC, i64_w, i32_w]
             rfl
           refine one_ (i := 3) (N := some 30) impl_pieceTurns.d5 rfl rfl (one_of HT_.out (by kernel_rfl)) (by decide) (fun K hK => ?_)
           refine Kd.R_append_rows_step (Kd.int .i64) (w0 := w) w.heap.size (by rfl) (.tmp 27) (.tmp 29) 22 2 (.int .i64 0) 8 rfl Try.underlying22 info2 rfl (by decide) (by omega) (.slice Ao34 x4_1.length co34) x4_1 y344 _ _ _ (fun k_ => (w.heap.size ≤ k_) ∧ some k_ ≠ (.slice Ao42 y344.length co42 : Value).ownBlock) (fun _ => False) rfl rfl ?aO ?aR (fun _ _ h => h) (fun _ h => h.elim) ?aF ?aB ?aS ?aL ?_
           (case aR => repeat (first | exact (Kd.R_reads' HO346.out).2.2 | (with_reducible refine Kd.C_alloc ?_ _) | (with_reducible refine Kd.C_drewN ?_ _) | (with_reducible refine Kd.C_drew ?_)))
           (case aB => exact (bs2_ HB.out GE329.out GE342.out))
           (case aF => exact (fun k_ hk => ⟨(Nat.le_trans (below_size (bs2_ HB.out GE329.out GE342.out)) hk), Kd.fresh' (Kd.R_lt (by (with_reducible repeat (first | apply Kd.R_alloc | apply Kd.R_drewN | apply Kd.R_drew)); exact HO346.out)) k_ hk⟩))
           (case aO => exact (by (with_reducible repeat (first | apply Kd.R_alloc | apply Kd.R_drewN | apply Kd.R_drew)); exact HO_4.out))
           (case aS => exact (below_size (bs2_ HB.out GE329.out GE342.out)))
           (case aL => have := LMc25.out; omega)
           intro v348 w41 ho hb hg hat
           rw [← Ny347.out] at ho
           have n0_ := mkA (Kd.N_afterv (ok := (fun k_ => (w.heap.size ≤ k_) ∧ some k_ ≠ (v351 : Value).ownBlock ∧ some k_ ≠ (.slice Ao42 y344.length co42 : Value).ownBlock ∧ k_ ≠ gb329 ∧ k_ ≠ gb342)) (by (with_reducible repeat (first | apply Kd.N_alloc | apply Kd.N_drewN | apply Kd.N_drew)); exact Kd.N_mono HO_5.out (fun _ hk => ⟨⟨hk.1.1.1, ⟨hk.1.2, ⟨hk.2, ⟨hk.1.1.2.2.2.1, hk.1.1.2.2.2.2⟩⟩⟩⟩, hk.1.1.2.1⟩)) hg hat)
           have n1_ := mkA (blk_grown (g := gb329) (o := .cells #[.string a0_0, .slice A0_1 l0_1.length c0_1, .int .i64 a0_2, .bool a0_3] 53 (0, 0)) (bl_ BK329.out) hg (Kd.R_ne HO_4.out BK329.out (by decide)))
           have n2_ := mkA (blk_grown (g := gb342) (o := .cells #[.slice Ao30 t339.length co30] 51 (0, 0)) (bl_ BK342.out) hg (Kd.R_ne HO_4.out BK342.out (by decide)))
           have n3_ := mkA (Kd.N_afterv (ok := (fun k_ => (w.heap.size ≤ k_) ∧ some k_ ≠ (.slice Ao33 x5_1.length co33 : Value).ownBlock ∧ some k_ ≠ (.slice Ao42 y344.length co42 : Value).ownBlock ∧ k_ ≠ gb329 ∧ k_ ≠ gb342)) (by (with_reducible repeat (first | apply Kd.N_alloc | apply Kd.N_drewN | apply Kd.N_drew)); exact Kd.N_mono HO352.out (fun _ hk => ⟨⟨hk.1.1, ⟨hk.1.2.2.1, ⟨hk.2, ⟨hk.1.2.2.2.1, hk.1.2.2.2.2⟩⟩⟩⟩, hk.1.2.1⟩)) hg hat)
           have n4_ := mkA (Kd.R_after (ok := (fun k_ => (w.heap.size ≤ k_))) (by (with_reducible repeat (first | apply Kd.R_alloc | apply Kd.R_drewN | apply Kd.R_drew)); exact Kd.R_mono HO346.out (fun _ hk => ⟨hk.1.1, hk.2⟩)) hg hat)
           have n5_ := mkA (hb)
           have n6_ := mkA (ho)
           clear HO_5
           clear BK329
           clear BK342
           clear HO352
           clear HO346
           clear HB
           clear HO_4
           have HO_5 := n0_
           have BK329 := n1_
           have BK342 := n2_
           have HO352 := n3_
           have HO346 := n4_
           have HB := n5_
           have HO349 := n6_
           clear n0_ n1_ n2_ n3_ n4_ n5_ n6_
           clear ho hb hg hat
           refine hK.out _ _ ((blk_cell BK342.out 0).trans rfl) (fun hHeld => ?_)
           clear hK K
           refine norm_ (a' := ?_) ?_ ?_
           rotate_left
           · show Act.put _ (some 30) _ = _
             simp only [Act.put, sA, sB, sC, i64_w, i32_w]
             rfl
           exact norm_ (by simp only [putAll, Act.put, sA, sB, sC]) (hCont (.slice Ao42 y344.length co42, v348, v351) _ ⟨hHeld, (by (with_reducible repeat (first | apply Kd.R_alloc | apply Kd.R_drewN | apply Kd.R_drew)); exact HO346.out), (by (with_reducible repeat (first | apply Kd.R_alloc | apply Kd.R_drewN | apply Kd.R_drew)); exact HO349.out), (by (with_reducible repeat (first | apply Kd.N_alloc | apply Kd.N_drewN | apply Kd.N_drew)); exact Kd.N_mono HO352.out (fun _ hk => ⟨hk.1.1, ⟨hk.1.2.2.1, ⟨hk.2, ⟨hk.1.2.1, ⟨hk.1.2.2.2.1, hk.1.2.2.2.2⟩⟩⟩⟩⟩)), (by (with_reducible repeat (first | apply Kd.N_alloc | apply Kd.N_drewN | apply Kd.N_drew)); exact Kd.N_mono HO_5.out (fun _ hk => ⟨hk.1.1, ⟨hk.1.2.2.1, ⟨hk.2, ⟨hk.1.2.1, ⟨hk.1.2.2.2.1, hk.1.2.2.2.2⟩⟩⟩⟩⟩)), (bl_ BK329.out), (bl_ BK342.out), (bs2_ HB.out GE329.out GE342.out)⟩)
       rintro ⟨v345, v348, v351⟩ w43 ⟨hS_, h0_, h1_, h2_, h3_, h4_, h5_, h6_⟩
       have n0_ : Aside0 (Kd.R (Kd.int .i64) 2 w43 w.heap.size (fun k_ => (w.heap.size ≤ k_) ∧ some k_ ≠ (v348 : Value).ownBlock) v345 y344) := ⟨h0_⟩
       have n1_ : Aside0 (Kd.R (Kd.int .i64) 2 w43 w.heap.size (fun k_ => (w.heap.size ≤ k_) ∧ some k_ ≠ (v345 : Value).ownBlock) v348 y347) := ⟨h1_⟩
       have n2_ : Aside0 (Kd.N (Kd.slice 105 k105) 51 w43 w.heap.size (fun k_ => (w.heap.size ≤ k_) ∧ some k_ ≠ (v345 : Value).ownBlock ∧ some k_ ≠ (v348 : Value).ownBlock ∧ some k_ ≠ (.slice Ao33 x5_1.length co33 : Value).ownBlock ∧ k_ ≠ gb329 ∧ k_ ≠ gb342) v351 y350) := ⟨h2_⟩
       have n3_ : Aside0 (Kd.N (Kd.slice 105 k105) 51 w43 w.heap.size (fun k_ => (w.heap.size ≤ k_) ∧ some k_ ≠ (v345 : Value).ownBlock ∧ some k_ ≠ (v348 : Value).ownBlock ∧ some k_ ≠ (v351 : Value).ownBlock ∧ k_ ≠ gb329 ∧ k_ ≠ gb342) (.slice Ao33 x5_1.length co33) x5_1) := ⟨h3_⟩
       have n4_ : Aside0 (w43.heap[gb329]? = some (.cells #[.string a0_0, .slice A0_1 l0_1.length c0_1, .int .i64 a0_2, .bool a0_3] 53 (0, 0))) := ⟨h4_⟩
       have n5_ : Aside0 (w43.heap[gb342]? = some (.cells #[.slice Ao30 t339.length co30] 51 (0, 0))) := ⟨h5_⟩
       have n6_ : Aside0 (Below w.heap.size w w43) := ⟨h6_⟩
       clear HO_4
       clear HO_5
       clear HO341
       clear BK329
       clear BK342
       clear HB
       clear h0_ h1_ h2_ h3_ h4_ h5_ h6_
       have HO346 := n0_
       have HO349 := n1_
       have HO352 := n2_
       have HO_5 := n3_
       have BK329 := n4_
       have BK342 := n5_
       have HB := n6_
       clear n0_ n1_ n2_ n3_ n4_ n5_ n6_
       have hHeld : w43.cell? ⟨gb342, 0, none⟩ = some (.slice Ao30 t339.length co30) := hS_
       obtain ⟨Ao45, co45, eo45⟩ := Kd.N_slice HO352.out
       (first | subst eo45 | (injection eo45 with f1_ f2_ f3_; have f4_ := f1_.symm; have f5_ := f3_.symm; clear f1_ f2_ f3_; subst f4_; subst f5_))
       refine norm_ (a' := ?_) ?_ ?_
       rotate_left
       · simp only [putAll, Act.put, sA, sB, sC]
         rfl
       refine one_ (i := 7) (N := some 34) impl_pieceTurns.d10 rfl rfl (one_of HT_.out (by kernel_rfl)) (by decide) (fun K hK => ?_)
       refine Kd.N_append_rows_step (Kd.slice 105 k105) (w0 := w) w.heap.size (by rfl) (.tmp 31) (.tmp 33) 97 51 (.slice none 0 0) 24 rfl Try.underlying97 info51 rfl (by decide) (by omega) (.slice Ao33 x5_1.length co33) x5_1 y350 _ _ _ (fun k_ => (w.heap.size ≤ k_) ∧ some k_ ≠ (v345 : Value).ownBlock ∧ some k_ ≠ (v348 : Value).ownBlock ∧ k_ ≠ gb329 ∧ k_ ≠ gb342) (fun k_ => ((fun k_ => (w.heap.size ≤ k_) ∧ some k_ ≠ (v345 : Value).ownBlock ∧ some k_ ≠ (v348 : Value).ownBlock ∧ k_ ≠ gb329 ∧ k_ ≠ gb342)) k_ ∧ some k_ ≠ (.slice Ao33 x5_1.length co33 : Value).ownBlock) rfl rfl ?aO ?aR (fun _ hk => hk) ?aF ?aB ?aS ?aL ?_
       (case aR => exact (by skip; exact Kd.N_F (Kd.N_mono (ok' := (fun k_ => ((fun k_ => (w.heap.size ≤ k_) ∧ some k_ ≠ (v345 : Value).ownBlock ∧ some k_ ≠ (v348 : Value).ownBlock ∧ k_ ≠ gb329 ∧ k_ ≠ gb342)) k_ ∧ some k_ ≠ (.slice Ao33 x5_1.length co33 : Value).ownBlock)) (HO352.out) (fun k_ hk => ⟨⟨hk.1, ⟨hk.2.1, ⟨hk.2.2.1, ⟨hk.2.2.2.2.1, hk.2.2.2.2.2⟩⟩⟩⟩, hk.2.2.2.1⟩))))
       (case aB => exact (bs2_ HB.out GE329.out GE342.out))
       (case aF => exact (fun k_ hk => ⟨(Nat.le_trans (below_size (bs2_ HB.out GE329.out GE342.out)) hk), Kd.fresh' (Kd.R_lt (by (with_reducible repeat (first | apply Kd.R_alloc | apply Kd.R_drewN | apply Kd.R_drew)); exact HO346.out)) k_ hk, Kd.fresh' (Kd.R_lt (by (with_reducible repeat (first | apply Kd.R_alloc | apply Kd.R_drewN | apply Kd.R_drew)); exact HO349.out)) k_ hk, Kd.freshB (g := gb329) (o := .cells #[.string a0_0, .slice A0_1 l0_1.length c0_1, .int .i64 a0_2, .bool a0_3] 53 (0, 0)) (bl_ BK329.out) k_ hk, Kd.freshB (g := gb342) (o := .cells #[.slice Ao30 t339.length co30] 51 (0, 0)) (bl_ BK342.out) k_ hk⟩))
       (case aO => exact (by (with_reducible repeat (first | apply Kd.N_alloc | apply Kd.N_drewN | apply Kd.N_drew)); exact Kd.N_mono HO_5.out (fun _ hk => ⟨hk.1, ⟨hk.2.1, ⟨hk.2.2.1, ⟨hk.2.2.2.2.1, hk.2.2.2.2.2⟩⟩⟩⟩)))
       (case aS => exact (below_size (bs2_ HB.out GE329.out GE342.out)))
       (case aL => have := LMc26.out; omega)
       intro v354 w44 ho hb hg hat
       rw [← Ny353.out] at ho
       have n0_ := mkA (blk_grown (g := gb329) (o := .cells #[.string a0_0, .slice A0_1 l0_1.length c0_1, .int .i64 a0_2, .bool a0_3] 53 (0, 0)) (bl_ BK329.out) hg (Kd.N_ne HO_5.out BK329.out (by decide)))
       have n1_ := mkA (blk_grown (g := gb342) (o := .cells #[.slice Ao30 t339.length co30] 51 (0, 0)) (bl_ BK342.out) hg (Kd.N_away HO_5.out (fun _ hk => hk.2.2.2.2.2)))
       have n2_ := mkA (Kd.R_over' (by (with_reducible repeat (first | apply Kd.R_alloc | apply Kd.R_drewN | apply Kd.R_drew)); exact HO346.out) (Kd.N_typed (by (with_reducible repeat (first | apply Kd.N_alloc | apply Kd.N_drewN | apply Kd.N_drew)); exact HO_5.out)) (by decide) hg)
       have n3_ := mkA (Kd.R_over' (by (with_reducible repeat (first | apply Kd.R_alloc | apply Kd.R_drewN | apply Kd.R_drew)); exact HO349.out) (Kd.N_typed (by (with_reducible repeat (first | apply Kd.N_alloc | apply Kd.N_drewN | apply Kd.N_drew)); exact HO_5.out)) (by decide) hg)
       have n4_ := mkA (Kd.N_afterv (ok := (fun k_ => (w.heap.size ≤ k_) ∧ some k_ ≠ (v345 : Value).ownBlock ∧ some k_ ≠ (v348 : Value).ownBlock ∧ k_ ≠ gb329 ∧ k_ ≠ gb342)) (by (with_reducible repeat (first | apply Kd.N_alloc | apply Kd.N_drewN | apply Kd.N_drew)); exact Kd.N_mono HO352.out (fun _ hk => ⟨⟨hk.1, ⟨hk.2.1, ⟨hk.2.2.1, ⟨hk.2.2.2.2.1, hk.2.2.2.2.2⟩⟩⟩⟩, hk.2.2.2.1⟩)) hg hat)
       have n5_ := mkA (hb)
       have n6_ := mkA (ho)
       clear BK329
       clear BK342
       clear HO346
       clear HO349
       clear HO352
       clear HB
       clear HO_5
       have BK329 := n0_
       have BK342 := n1_
       have HO346 := n2_
       have HO349 := n3_
       have HO352 := n4_
       have HB := n5_
       have HO355 := n6_
       clear n0_ n1_ n2_ n3_ n4_ n5_ n6_
       clear ho hb hg hat
       refine hK.out _ _ ((blk_cell BK342.out 0).trans rfl) (fun hHeld => ?_)
       clear hK K
       refine norm_ (a' := ?_) ?_ ?_
       rotate_left
       · show Act.put _ (some 34) _ = _
         simp only [Act.put, sA, sB, sC, i64_w, i32_w]
         rfl
       refine p1_ HT_.out 8 4 impl_pieceTurns.d11 ?_
       refine p1_ HT_.out 9 5 impl_pieceTurns.d12 ?_
       refine done_ (done_of HT_.out (by kernel_rfl)) ?_
       try go_wp2
       go_roundg kj10
       case measure => have := HK1.out; have := HJ10.out; omega
       case rel => exact ⟨(y347), (y353), (wrap64 (x6_1 + 1)), (by first | rfl | (simp; done) | (simp [*]; done) | (simp [i64_w, i32_w]; done)), H', ⟨by have := HK1.out; have := HJ10.out; omega⟩, ⟨by (with_reducible repeat (first | apply Kd.R_alloc | apply Kd.R_drewN | apply Kd.R_drew)); exact Kd.R_mono HO349.out (fun _ hk => hk.1)⟩, ⟨by (with_reducible repeat (first | apply Kd.N_alloc | apply Kd.N_drewN | apply Kd.N_drew)); exact Kd.N_mono HO355.out (fun _ hk => ⟨hk.1, ⟨hk.2.2.1, hk.2.2.2.1⟩⟩)⟩, ⟨by (with_reducible repeat (first | refine blk_drewN ?_ _ | refine blk_drew ?_ | refine blk_alloc ?_ _)); exact BK329.out⟩, ⟨by repeat (first | (with_reducible first | exact HB.out | apply below_alloc | apply pw_below_drewN | apply below_drew1 | refine below_set ?_ GE329.out | refine below_set ?_ GE342.out) | exact HB.out)⟩⟩
/-! ### impl_TurnsOfPiece: function 36 -/
def impl_TurnsOfPiece.f (k : Nat) (a0_0 : ByteArray) (l0_1 : List (S105)) (a0_2 : Int) (a0_3 : Bool) : Option (List Int × Int) := (impl_validPiece.f k a0_0 l0_1 a0_2 a0_3).bind fun t357 => (if t357 = true then ((impl_pieceTurns.f k a0_0 l0_1 a0_2 a0_3).bind fun bt358 => (some (bt358.1, 0))) else (some (([] : List Int), 1)))
set_option maxHeartbeats 8000000 in
set_option maxRecDepth 100000 in
theorem impl_TurnsOfPiece.calls (k : Nat) (a0_0 : ByteArray) (A0_1 : Option Addr) (c0_1 : Nat) (l0_1 : List (S105)) (a0_2 : Int) (a0_3 : Bool) (r1 : List Int) (r2 : Int) (w : World) (hr0_1 : Kd.C k105 w A0_1 l0_1.length l0_1) (hc0_1 : l0_1.length ≤ c0_1) (h : impl_TurnsOfPiece.f k a0_0 l0_1 a0_2 a0_3 = some (r1, r2)) :
    Calls Try.prog 36 #[.agg #[.string a0_0, .slice A0_1 l0_1.length c0_1, .int .i64 a0_2, .bool a0_3]] w fun e w' => ∃ v0_ : Value, e = .returned (.tuple #[v0_, .int .i64 r2]) ∧ Kd.R (Kd.int .i64) 2 w' w.heap.size (fun _ => True) v0_ r1 ∧ Below w.heap.size w w' := by
  have hu53 := Try.underlying53
  have HR0_1 := Aside0.mk hr0_1
  have HC0_1 := Aside0.mk hc0_1
  clear hr0_1 hc0_1
  have HB := Aside0.mk (Below.refl w.heap.size w)
  have H : ((impl_validPiece.f k a0_0 l0_1 a0_2 a0_3).bind fun t357 => (if t357 = true then ((impl_pieceTurns.f k a0_0 l0_1 a0_2 a0_3).bind fun bt358 => (some (bt358.1, 0))) else (some (([] : List Int), 1)))) = some (r1, r2) := h
  clear h
  replace H := Option.bind_eq_some_iff.mp H
  obtain ⟨t357, A20, H⟩ := H
  replace H : (if t357 = true then ((impl_pieceTurns.f k a0_0 l0_1 a0_2 a0_3).bind fun bt358 => (some (bt358.1, 0))) else (some (([] : List Int), 1))) = some (r1, r2) := H
  have A2 := Aside0.mk A20
  clear A20
  by_cases c3 : t357 = true
  · subst c3
    have H1 : ((impl_pieceTurns.f k a0_0 l0_1 a0_2 a0_3).bind fun bt358 => (some (bt358.1, 0))) = some (r1, r2) := by rw [if_pos rfl] at H; exact H
    clear H
    have H := H1
    clear H1
    replace H := Option.bind_eq_some_iff.mp H
    obtain ⟨⟨t358, t361⟩, A40, H⟩ := H
    replace H : (some (t358, 0)) = some (r1, r2) := H
    have A4 := Aside0.mk A40
    clear A40
    simp only [Option.some.injEq, Prod.mk.injEq] at H
    obtain ⟨rfl, rfl⟩ := H
    go_enter Try.func36, Try.ntmps36
    go_wp2_with (first | ((with_reducible refine gate_dst (N := 1) rfl ?_); refine box_event ?hg (N := 1) ?hd (cs := #[.string a0_0, .slice A0_1 l0_1.length c0_1, .int .i64 a0_2, .bool a0_3]) (t := 53) ?hr ?_; (case hd => rfl); (case hg => rfl); (case hr => first | (go_simp; done) | (go_simp; rfl)); intro gb356 hg w5 hbox hb; have n0_ := Aside0.mk (below_step (by repeat (first | (with_reducible first | exact HB.out | apply below_alloc | apply pw_below_drewN | apply below_drew1) | exact HB.out)) hb); have n1_ := Aside0.mk (hbox); have n2_ := Aside0.mk ((by rw [hg]; exact (below_size (by repeat (first | (with_reducible first | exact HB.out | apply below_alloc | apply pw_below_drewN | apply below_drew1) | exact HB.out))) : w.heap.size ≤ gb356)); have n3_ := Aside0.mk ((by rw [hg]; exact (below_size (by repeat (first | (with_reducible first | exact HB.out | apply below_alloc | apply pw_below_drewN | apply below_drew1) | exact HB.out))) : w.heap.size ≤ gb356)); clear HB; have HB := n0_; have BK356 := n1_; have GW356 := n2_; have GE356 := n3_; clear n0_ n1_ n2_ n3_; clear hb hbox hg; have hcz6_0 : w5.cell? ⟨gb356, 0, none⟩ = some (.string a0_0) := (blk_cell BK356.out 0).trans rfl; have hcz6_1 : w5.cell? ⟨gb356, 1, none⟩ = some (.slice A0_1 l0_1.length c0_1) := (blk_cell BK356.out 1).trans rfl; have hcz6_2 : w5.cell? ⟨gb356, 2, none⟩ = some (.int .i64 a0_2) := (blk_cell BK356.out 2).trans rfl; have hcz6_3 : w5.cell? ⟨gb356, 3, none⟩ = some (.bool a0_3) := (blk_cell BK356.out 3).trans rfl; have hfz6_0 := blk_frozen BK356.out 0; have hfz6_1 := blk_frozen BK356.out 1; have hfz6_2 := blk_frozen BK356.out 2; have hfz6_3 := blk_frozen BK356.out 3) | ((with_reducible refine gate_callee (f := 70) rfl ?_); refine goesL_ (some 7) rfl rfl Try.func70 (by kernel_rfl) rfl #[.agg #[.string a0_0, .slice A0_1 l0_1.length c0_1, .int .i64 a0_2, .bool a0_3]] rfl (by (try simp only [List.map_toArray, List.map_cons, List.map_nil]); first | done | rfl | (simp only [List.length_drop, List.length_take]; rfl)) ?_; (with_reducible refine (impl_validPiece.calls k a0_0 _ _ l0_1 a0_2 a0_3 true _ ?side1 ?side2 A2.out).mono ?_); (case side1 => repeat (first | exact (Kd.C_below HR0_1.out HB.out) | (with_reducible refine Kd.C_alloc ?_ _) | (with_reducible refine Kd.C_drewN ?_ _) | (with_reducible refine Kd.C_drew ?_))); (case side2 => exact HC0_1.out); rintro e w7 ⟨rfl, hb⟩; refine ⟨_, rfl, ?_⟩; have n0_ := Aside0.mk (blk_below (g := gb356) (o := .cells #[.string a0_0, .slice A0_1 l0_1.length c0_1, .int .i64 a0_2, .bool a0_3] 53 (0, 0)) (by (with_reducible repeat (first | refine blk_drewN ?_ _ | refine blk_drew ?_ | refine blk_alloc ?_ _)); exact BK356.out) hb); have n1_ := Aside0.mk (below_step (by repeat (first | (with_reducible first | exact HB.out | apply below_alloc | apply pw_below_drewN | apply below_drew1 | refine below_set ?_ GE356.out) | exact HB.out)) hb); clear BK356; clear HB; have BK356 := n0_; have HB := n1_; clear n0_ n1_; (try clear hb); (try clear hb2); (try clear hk); (try clear hi); have hcz8_0 : w7.cell? ⟨gb356, 0, none⟩ = some (.string a0_0) := (blk_cell BK356.out 0).trans rfl; have hcz8_1 : w7.cell? ⟨gb356, 1, none⟩ = some (.slice A0_1 l0_1.length c0_1) := (blk_cell BK356.out 1).trans rfl; have hcz8_2 : w7.cell? ⟨gb356, 2, none⟩ = some (.int .i64 a0_2) := (blk_cell BK356.out 2).trans rfl; have hcz8_3 : w7.cell? ⟨gb356, 3, none⟩ = some (.bool a0_3) := (blk_cell BK356.out 3).trans rfl; have hfz8_0 := blk_frozen BK356.out 0; have hfz8_1 := blk_frozen BK356.out 1; have hfz8_2 := blk_frozen BK356.out 2; have hfz8_3 := blk_frozen BK356.out 3) | ((with_reducible refine gate_callee (f := 75) rfl ?_); refine goesL_ (some 11) rfl rfl Try.func75 (by kernel_rfl) rfl #[.agg #[.string a0_0, .slice A0_1 l0_1.length c0_1, .int .i64 a0_2, .bool a0_3]] rfl (by (try simp only [List.map_toArray, List.map_cons, List.map_nil]); first | done | rfl | (simp only [List.length_drop, List.length_take]; rfl)) ?_; (with_reducible refine (impl_pieceTurns.calls k a0_0 _ _ l0_1 a0_2 a0_3 t358 t361 _ ?side1 ?side2 A4.out).mono ?_); (case side1 => repeat (first | exact (Kd.C_below HR0_1.out HB.out) | (with_reducible refine Kd.C_alloc ?_ _) | (with_reducible refine Kd.C_drewN ?_ _) | (with_reducible refine Kd.C_drew ?_))); (case side2 => exact HC0_1.out); rintro e w9 ⟨v359, v362, rfl, ho0, ho1, hb⟩; refine ⟨_, rfl, ?_⟩; have n0_ := Aside0.mk (Kd.R_lower (Kd.R_mono (ok' := fun k_ => True) ho0 (fun _ hk_ => trivial)) (below_size (by repeat (first | (with_reducible first | exact HB.out | apply below_alloc | apply pw_below_drewN | apply below_drew1 | refine below_set ?_ GE356.out) | exact HB.out)))); have n1_ := Aside0.mk (Kd.N_lower (Kd.N_mono (ok' := fun k_ => some k_ ≠ (v359 : Value).ownBlock ∧ k_ ≠ gb356) ho1 (fun k_ hk_ => ⟨hk_.2, (Kd.freshB (g := gb356) (o := .cells #[.string a0_0, .slice A0_1 l0_1.length c0_1, .int .i64 a0_2, .bool a0_3] 53 (0, 0)) (by (with_reducible repeat (first | refine blk_drewN ?_ _ | refine blk_drew ?_ | refine blk_alloc ?_ _)); exact BK356.out) k_ hk_.1)⟩)) (below_size (by repeat (first | (with_reducible first | exact HB.out | apply below_alloc | apply pw_below_drewN | apply below_drew1 | refine below_set ?_ GE356.out) | exact HB.out)))); have n2_ := Aside0.mk (blk_below (g := gb356) (o := .cells #[.string a0_0, .slice A0_1 l0_1.length c0_1, .int .i64 a0_2, .bool a0_3] 53 (0, 0)) (by (with_reducible repeat (first | refine blk_drewN ?_ _ | refine blk_drew ?_ | refine blk_alloc ?_ _)); exact BK356.out) hb); have n3_ := Aside0.mk (below_step (by repeat (first | (with_reducible first | exact HB.out | apply below_alloc | apply pw_below_drewN | apply below_drew1 | refine below_set ?_ GE356.out) | exact HB.out)) hb); clear BK356; clear HB; have HO360 := n0_; have HO363 := n1_; have BK356 := n2_; have HB := n3_; clear n0_ n1_ n2_ n3_; (try clear hb); (try clear hb2); (try clear hk); (try clear hi); (try clear ho0); (try clear ho1)))
    go_ret2
    exact ⟨_, by first | rfl | (simp [errW_none, errW_some] <;> rfl) | (simp [*, errW_none, errW_some] <;> rfl), by (with_reducible repeat (first | apply Kd.R_alloc | apply Kd.R_drewN | apply Kd.R_drew)); exact HO360.out, by repeat (first | (with_reducible first | exact HB.out | apply below_alloc | apply pw_below_drewN | apply below_drew1 | refine below_set ?_ GE356.out) | exact HB.out)⟩
  · replace c3 := Bool.eq_false_iff.mpr c3
    subst c3
    have H1 : (some (([] : List Int), 1)) = some (r1, r2) := by rw [if_neg (show ¬ (false = true) by decide)] at H; exact H
    clear H
    have H := H1
    clear H1
    simp only [Option.some.injEq, Prod.mk.injEq] at H
    obtain ⟨rfl, rfl⟩ := H
    go_enter Try.func36, Try.ntmps36
    go_wp2_with (first | ((with_reducible refine gate_dst (N := 1) rfl ?_); refine box_event ?hg (N := 1) ?hd (cs := #[.string a0_0, .slice A0_1 l0_1.length c0_1, .int .i64 a0_2, .bool a0_3]) (t := 53) ?hr ?_; (case hd => rfl); (case hg => rfl); (case hr => first | (go_simp; done) | (go_simp; rfl)); intro gb356 hg w10 hbox hb; have n0_ := Aside0.mk (below_step (by repeat (first | (with_reducible first | exact HB.out | apply below_alloc | apply pw_below_drewN | apply below_drew1) | exact HB.out)) hb); have n1_ := Aside0.mk (hbox); have n2_ := Aside0.mk ((by rw [hg]; exact (below_size (by repeat (first | (with_reducible first | exact HB.out | apply below_alloc | apply pw_below_drewN | apply below_drew1) | exact HB.out))) : w.heap.size ≤ gb356)); have n3_ := Aside0.mk ((by rw [hg]; exact (below_size (by repeat (first | (with_reducible first | exact HB.out | apply below_alloc | apply pw_below_drewN | apply below_drew1) | exact HB.out))) : w.heap.size ≤ gb356)); clear HB; have HB := n0_; have BK356 := n1_; have GW356 := n2_; have GE356 := n3_; clear n0_ n1_ n2_ n3_; clear hb hbox hg; have hcz11_0 : w10.cell? ⟨gb356, 0, none⟩ = some (.string a0_0) := (blk_cell BK356.out 0).trans rfl; have hcz11_1 : w10.cell? ⟨gb356, 1, none⟩ = some (.slice A0_1 l0_1.length c0_1) := (blk_cell BK356.out 1).trans rfl; have hcz11_2 : w10.cell? ⟨gb356, 2, none⟩ = some (.int .i64 a0_2) := (blk_cell BK356.out 2).trans rfl; have hcz11_3 : w10.cell? ⟨gb356, 3, none⟩ = some (.bool a0_3) := (blk_cell BK356.out 3).trans rfl; have hfz11_0 := blk_frozen BK356.out 0; have hfz11_1 := blk_frozen BK356.out 1; have hfz11_2 := blk_frozen BK356.out 2; have hfz11_3 := blk_frozen BK356.out 3) | ((with_reducible refine gate_callee (f := 70) rfl ?_); refine goesL_ (some 7) rfl rfl Try.func70 (by kernel_rfl) rfl #[.agg #[.string a0_0, .slice A0_1 l0_1.length c0_1, .int .i64 a0_2, .bool a0_3]] rfl (by (try simp only [List.map_toArray, List.map_cons, List.map_nil]); first | done | rfl | (simp only [List.length_drop, List.length_take]; rfl)) ?_; (with_reducible refine (impl_validPiece.calls k a0_0 _ _ l0_1 a0_2 a0_3 false _ ?side1 ?side2 A2.out).mono ?_); (case side1 => repeat (first | exact (Kd.C_below HR0_1.out HB.out) | (with_reducible refine Kd.C_alloc ?_ _) | (with_reducible refine Kd.C_drewN ?_ _) | (with_reducible refine Kd.C_drew ?_))); (case side2 => exact HC0_1.out); rintro e w12 ⟨rfl, hb⟩; refine ⟨_, rfl, ?_⟩; have n0_ := Aside0.mk (blk_below (g := gb356) (o := .cells #[.string a0_0, .slice A0_1 l0_1.length c0_1, .int .i64 a0_2, .bool a0_3] 53 (0, 0)) (by (with_reducible repeat (first | refine blk_drewN ?_ _ | refine blk_drew ?_ | refine blk_alloc ?_ _)); exact BK356.out) hb); have n1_ := Aside0.mk (below_step (by repeat (first | (with_reducible first | exact HB.out | apply below_alloc | apply pw_below_drewN | apply below_drew1 | refine below_set ?_ GE356.out) | exact HB.out)) hb); clear BK356; clear HB; have BK356 := n0_; have HB := n1_; clear n0_ n1_; (try clear hb); (try clear hb2); (try clear hk); (try clear hi)))
    go_ret2
    exact ⟨_, by first | rfl | (simp [errW_none, errW_some] <;> rfl) | (simp [*, errW_none, errW_some] <;> rfl), by first | exact Kd.R_nil _ _ _ _ _ | exact Kd.N_nil _ _ _ _ _ | exact Kd.V_nil _ _ _ _ _ | exact Kd.Q_nil _ _ _ _ _ | exact Kd.S_nil _ _ _ _ _, by repeat (first | (with_reducible first | exact HB.out | apply below_alloc | apply pw_below_drewN | apply below_drew1 | refine below_set ?_ GE356.out) | exact HB.out)⟩

end Go.Proofs.Ytakagkflgkoiiaa.GFnExactTurnsOfPiece

-- Written by the session's own program (gen.py) out of the translation's print. Lean checks it.
import Derived.Test.YtnidibnhojedoaaGFnExactSymmetriesOfx0
import Derived.Test.YtnidibnhojedoaaGFnExactSymmetriesOfx1
import Derived.Test.YtnidibnhojedoaaGFnExactSymmetriesOfx5
namespace Go.Proofs.Ytnidibnhojedoaa.GFnExactSymmetriesOf
open Go.RowKit Go.Proofs.YtnidibnhojedoaaW.PrintWords Go.Proofs.YtnidibnhojedoaaW.PrintLast Go.Proofs.YtnidibnhojedoaaW.PrintMore
attribute [local go_sem] max2_int min2_int max_two min_two max_three min_three max_four min_four   -- for this text's walks alone
set_option linter.unusedVariables false
set_option linter.unusedSimpArgs false

/-! ### spec_l18Images: function 72 -/
mutual
def spec_l18Images.l0 : Nat → Int → List Int → List Int → Int → List (S29) → List (S31) → Option (List Int × Bool)
  | 0, _, _, _, _, _, _ => none
  | k + 1, x2, x8, x9, x10, x960, x961 => if x10 < x2 then (if x8.length < 17592186044416 then (if x9.length < 17592186044416 then (spec_l18Images.l0 k x2 (x8 ++ [(-1)]) (x9 ++ [(-1)]) (wrap64 (x10 + 1)) x960 x961) else (none)) else (none)) else (spec_l18Images.l1 k x8 x9 0 x960 x961)
def spec_l18Images.l1 : Nat → List Int → List Int → Int → List (S29) → List (S31) → Option (List Int × Bool)
  | 0, _, _, _, _, _ => none
  | k + 1, x8, x9, x11, x960, x961 => if 0 < (x960.length : Int) then (if x11 < ((rd_T29 x960 0).f1) then (spec_l18Images.l2 k x8 x9 x11 0 x960 x961) else (some (x8, true))) else (none)
def spec_l18Images.l2 : Nat → List Int → List Int → Int → Int → List (S29) → List (S31) → Option (List Int × Bool)
  | 0, _, _, _, _, _, _ => none
  | k + 1, x8, x9, x11, x12, x960, x961 => if 0 < (x960.length : Int) then (if x12 < ((rd_T29 x960 0).f0) then ((spec_l18Move.f k x960 x961 x12 x11).bind fun bt201 => (if 0 ≤ (wrap64 ((wrap64 (x11 * ((rd_T29 x960 0).f0))) + x12)) then (if (wrap64 ((wrap64 (x11 * ((rd_T29 x960 0).f0))) + x12)) < (((rd_T29 x960 0).f2).length : Int) then (if 0 ≤ (wrap64 ((wrap64 (bt201.2 * ((rd_T29 x960 0).f0))) + bt201.1)) then (if (wrap64 ((wrap64 (bt201.2 * ((rd_T29 x960 0).f0))) + bt201.1)) < (((rd_T29 x960 0).f2).length : Int) then (if 0 ≤ (rd ((rd_T29 x960 0).f2) (wrap64 ((wrap64 (x11 * ((rd_T29 x960 0).f0))) + x12))) then (if (rd ((rd_T29 x960 0).f2) (wrap64 ((wrap64 (x11 * ((rd_T29 x960 0).f0))) + x12))) < (x8.length : Int) then (if (rd x8 (rd ((rd_T29 x960 0).f2) (wrap64 ((wrap64 (x11 * ((rd_T29 x960 0).f0))) + x12)))) ≥ 0 then (if (rd x8 (rd ((rd_T29 x960 0).f2) (wrap64 ((wrap64 (x11 * ((rd_T29 x960 0).f0))) + x12)))) = (rd ((rd_T29 x960 0).f2) (wrap64 ((wrap64 (bt201.2 * ((rd_T29 x960 0).f0))) + bt201.1))) then (if 0 ≤ (rd ((rd_T29 x960 0).f2) (wrap64 ((wrap64 (bt201.2 * ((rd_T29 x960 0).f0))) + bt201.1))) then (if (rd ((rd_T29 x960 0).f2) (wrap64 ((wrap64 (bt201.2 * ((rd_T29 x960 0).f0))) + bt201.1))) < (x9.length : Int) then (if (rd x9 (rd ((rd_T29 x960 0).f2) (wrap64 ((wrap64 (bt201.2 * ((rd_T29 x960 0).f0))) + bt201.1)))) ≥ 0 then (if (rd x9 (rd ((rd_T29 x960 0).f2) (wrap64 ((wrap64 (bt201.2 * ((rd_T29 x960 0).f0))) + bt201.1)))) = (rd ((rd_T29 x960 0).f2) (wrap64 ((wrap64 (x11 * ((rd_T29 x960 0).f0))) + x12))) then (spec_l18Images.l2 k (x8.set ((rd ((rd_T29 x960 0).f2) (wrap64 ((wrap64 (x11 * ((rd_T29 x960 0).f0))) + x12))) : Int).toNat (rd ((rd_T29 x960 0).f2) (wrap64 ((wrap64 (bt201.2 * ((rd_T29 x960 0).f0))) + bt201.1)))) (x9.set ((rd ((rd_T29 x960 0).f2) (wrap64 ((wrap64 (bt201.2 * ((rd_T29 x960 0).f0))) + bt201.1))) : Int).toNat (rd ((rd_T29 x960 0).f2) (wrap64 ((wrap64 (x11 * ((rd_T29 x960 0).f0))) + x12)))) x11 (wrap64 (x12 + 1)) x960 x961) else (some (([] : List Int), false))) else (spec_l18Images.l2 k (x8.set ((rd ((rd_T29 x960 0).f2) (wrap64 ((wrap64 (x11 * ((rd_T29 x960 0).f0))) + x12))) : Int).toNat (rd ((rd_T29 x960 0).f2) (wrap64 ((wrap64 (bt201.2 * ((rd_T29 x960 0).f0))) + bt201.1)))) (x9.set ((rd ((rd_T29 x960 0).f2) (wrap64 ((wrap64 (bt201.2 * ((rd_T29 x960 0).f0))) + bt201.1))) : Int).toNat (rd ((rd_T29 x960 0).f2) (wrap64 ((wrap64 (x11 * ((rd_T29 x960 0).f0))) + x12)))) x11 (wrap64 (x12 + 1)) x960 x961)) else (none)) else (none)) else (some (([] : List Int), false))) else (if 0 ≤ (rd ((rd_T29 x960 0).f2) (wrap64 ((wrap64 (bt201.2 * ((rd_T29 x960 0).f0))) + bt201.1))) then (if (rd ((rd_T29 x960 0).f2) (wrap64 ((wrap64 (bt201.2 * ((rd_T29 x960 0).f0))) + bt201.1))) < (x9.length : Int) then (if (rd x9 (rd ((rd_T29 x960 0).f2) (wrap64 ((wrap64 (bt201.2 * ((rd_T29 x960 0).f0))) + bt201.1)))) ≥ 0 then (if (rd x9 (rd ((rd_T29 x960 0).f2) (wrap64 ((wrap64 (bt201.2 * ((rd_T29 x960 0).f0))) + bt201.1)))) = (rd ((rd_T29 x960 0).f2) (wrap64 ((wrap64 (x11 * ((rd_T29 x960 0).f0))) + x12))) then (spec_l18Images.l2 k (x8.set ((rd ((rd_T29 x960 0).f2) (wrap64 ((wrap64 (x11 * ((rd_T29 x960 0).f0))) + x12))) : Int).toNat (rd ((rd_T29 x960 0).f2) (wrap64 ((wrap64 (bt201.2 * ((rd_T29 x960 0).f0))) + bt201.1)))) (x9.set ((rd ((rd_T29 x960 0).f2) (wrap64 ((wrap64 (bt201.2 * ((rd_T29 x960 0).f0))) + bt201.1))) : Int).toNat (rd ((rd_T29 x960 0).f2) (wrap64 ((wrap64 (x11 * ((rd_T29 x960 0).f0))) + x12)))) x11 (wrap64 (x12 + 1)) x960 x961) else (some (([] : List Int), false))) else (spec_l18Images.l2 k (x8.set ((rd ((rd_T29 x960 0).f2) (wrap64 ((wrap64 (x11 * ((rd_T29 x960 0).f0))) + x12))) : Int).toNat (rd ((rd_T29 x960 0).f2) (wrap64 ((wrap64 (bt201.2 * ((rd_T29 x960 0).f0))) + bt201.1)))) (x9.set ((rd ((rd_T29 x960 0).f2) (wrap64 ((wrap64 (bt201.2 * ((rd_T29 x960 0).f0))) + bt201.1))) : Int).toNat (rd ((rd_T29 x960 0).f2) (wrap64 ((wrap64 (x11 * ((rd_T29 x960 0).f0))) + x12)))) x11 (wrap64 (x12 + 1)) x960 x961)) else (none)) else (none))) else (none)) else (none)) else (none)) else (none)) else (none)) else (none))) else (spec_l18Images.l1 k x8 x9 (wrap64 (x11 + 1)) x960 x961)) else (none)
end
def spec_l18Images.f (k : Nat) (l0 : List (S29)) (l1 : List (S31)) (a2 : Int) : Option (List Int × Bool) := spec_l18Images.l0 k a2 (([] : List Int)) (([] : List Int)) 0 l0 l1
theorem spec_l18Images.mono_l : ∀ k, (∀ y0 y1 y2 y3 y4 y5, LeO (spec_l18Images.l0 k y0 y1 y2 y3 y4 y5) (spec_l18Images.l0 (k + 1) y0 y1 y2 y3 y4 y5)) ∧ (∀ y0 y1 y2 y3 y4, LeO (spec_l18Images.l1 k y0 y1 y2 y3 y4) (spec_l18Images.l1 (k + 1) y0 y1 y2 y3 y4)) ∧ (∀ y0 y1 y2 y3 y4 y5, LeO (spec_l18Images.l2 k y0 y1 y2 y3 y4 y5) (spec_l18Images.l2 (k + 1) y0 y1 y2 y3 y4 y5))
  | 0 => ⟨fun _ _ _ _ _ _ r h => by simp [spec_l18Images.l0] at h, fun _ _ _ _ _ r h => by simp [spec_l18Images.l1] at h, fun _ _ _ _ _ _ r h => by simp [spec_l18Images.l2] at h⟩
  | k + 1 => by
    obtain ⟨ih0, ih1, ih2⟩ := spec_l18Images.mono_l k
    refine ⟨?_, ?_, ?_⟩
    · intro y0 y1 y2 y3 y4 y5
      unfold spec_l18Images.l0
      repeat' first
      | (with_reducible exact ih0 _ _ _ _ _ _)
      | (with_reducible exact ih1 _ _ _ _ _)
      | (with_reducible exact ih2 _ _ _ _ _ _)
      | (with_reducible exact spec_l18Move.mono _ _ _ _ _)
      | (with_reducible exact LeO.refl _)
      | (with_reducible exact LeO.none _)
      | (with_reducible refine LeO.ite ?_ ?_)
      | (with_reducible refine LeO.bind ?_ (fun _ => ?_))
      | exact ih0 _ _ _ _ _ _
      | exact ih1 _ _ _ _ _
      | exact ih2 _ _ _ _ _ _
      | exact spec_l18Move.mono _ _ _ _ _
      | exact LeO.none _
      | refine LeO.ite ?_ ?_
      | refine LeO.bind ?_ (fun _ => ?_)
    · intro y0 y1 y2 y3 y4
      unfold spec_l18Images.l1
      repeat' first
      | (with_reducible exact ih0 _ _ _ _ _ _)
      | (with_reducible exact ih1 _ _ _ _ _)
      | (with_reducible exact ih2 _ _ _ _ _ _)
      | (with_reducible exact spec_l18Move.mono _ _ _ _ _)
      | (with_reducible exact LeO.refl _)
      | (with_reducible exact LeO.none _)
      | (with_reducible refine LeO.ite ?_ ?_)
      | (with_reducible refine LeO.bind ?_ (fun _ => ?_))
      | exact ih0 _ _ _ _ _ _
      | exact ih1 _ _ _ _ _
      | exact ih2 _ _ _ _ _ _
      | exact spec_l18Move.mono _ _ _ _ _
      | exact LeO.none _
      | refine LeO.ite ?_ ?_
      | refine LeO.bind ?_ (fun _ => ?_)
    · intro y0 y1 y2 y3 y4 y5
      unfold spec_l18Images.l2
      repeat' first
      | (with_reducible exact ih0 _ _ _ _ _ _)
      | (with_reducible exact ih1 _ _ _ _ _)
      | (with_reducible exact ih2 _ _ _ _ _ _)
      | (with_reducible exact spec_l18Move.mono _ _ _ _ _)
      | (with_reducible exact LeO.refl _)
      | (with_reducible exact LeO.none _)
      | (with_reducible refine LeO.ite ?_ ?_)
      | (with_reducible refine LeO.bind ?_ (fun _ => ?_))
      | exact ih0 _ _ _ _ _ _
      | exact ih1 _ _ _ _ _
      | exact ih2 _ _ _ _ _ _
      | exact spec_l18Move.mono _ _ _ _ _
      | exact LeO.none _
      | refine LeO.ite ?_ ?_
      | refine LeO.bind ?_ (fun _ => ?_)
theorem spec_l18Images.mono : ∀ a0 a1 a2 k, LeO (spec_l18Images.f k a0 a1 a2) (spec_l18Images.f (k + 1) a0 a1 a2) := by
  intro a0 a1 a2 k
  obtain ⟨ih0, ih1, ih2⟩ := spec_l18Images.mono_l k
  unfold spec_l18Images.f
  repeat' first
      | (with_reducible exact ih0 _ _ _ _ _ _)
      | (with_reducible exact ih1 _ _ _ _ _)
      | (with_reducible exact ih2 _ _ _ _ _ _)
      | (with_reducible exact spec_l18Move.mono _ _ _ _ _)
      | (with_reducible exact LeO.refl _)
      | (with_reducible exact LeO.none _)
      | (with_reducible refine LeO.ite ?_ ?_)
      | (with_reducible refine LeO.bind ?_ (fun _ => ?_))
      | exact ih0 _ _ _ _ _ _
      | exact ih1 _ _ _ _ _
      | exact ih2 _ _ _ _ _ _
      | exact spec_l18Move.mono _ _ _ _ _
      | exact LeO.none _
      | refine LeO.ite ?_ ?_
      | refine LeO.bind ?_ (fun _ => ?_)
open List renaming setIfInBounds_toArray → sA, set_cons_zero → sB, set_cons_succ → sC
open Go.Proofs.YtnidibnhojedoaaW.PrintWords.Aside0 renaming mk → mkA
open Go.Proofs.YtnidibnhojedoaaX (dt_ bc_ p0_ p1_ bl_ cb_ bs0_ bs1_ bs2_ bs3_ bs4_ bs5_ bs6_ bs7_ bs8_ bs9_ bs10_ bs11_ bs12_)
set_option maxHeartbeats 8000000 in
set_option maxRecDepth 100000 in
theorem spec_l18Images.calls (k : Nat) (A0 : Option Addr) (l0 : List (S29)) (A1 : Option Addr) (l1 : List (S31)) (a2 : Int) (r1 : List Int) (r2 : Bool) (w : World) (hr0 : Kd.C k29 w A0 l0.length l0) (hr1 : Kd.C k31 w A1 l1.length l1) (h : spec_l18Images.f k l0 l1 a2 = some (r1, r2)) :
 Calls Try.prog 72 #[.pointer A0, .pointer A1, .int .i64 a2] w fun e w' => ∃ v0_ : Value, e = .returned (.tuple #[v0_, .bool r2]) ∧ Kd.R (Kd.int .i64) 2 w' w.heap.size (fun _ => True) v0_ r1 ∧ Below w.heap.size w w' := by
 have HR0 := mkA hr0
 clear hr0
 have HR1 := mkA hr1
 clear hr1
 have HB := mkA (Below.refl w.heap.size w)
 have H : (spec_l18Images.l0 k a2 (([] : List Int)) (([] : List Int)) 0 l0 l1) = some (r1, r2) := h
 clear h
 obtain ⟨y187, hy187⟩ : ∃ y_ : List Int, y_ = (([] : List Int)) := ⟨_, rfl⟩
 replace H : (spec_l18Images.l0 k a2 y187 (([] : List Int)) 0 l0 l1) = some (r1, r2) := by first | (rw [hy187]; with_reducible exact H) | (have H2_ := (Option.bind_some _ _).symm.trans H; rw [hy187]; with_reducible exact H2_) | (have H2_ := (Option.bind_some _ _).symm.trans H; with_reducible exact H2_) | with_reducible exact H | (rw [hy187]; exact H) | exact H
 have Ny187 := mkA hy187
 clear hy187
 obtain ⟨y190, hy190⟩ : ∃ y_ : List Int, y_ = (([] : List Int)) := ⟨_, rfl⟩
 replace H : (spec_l18Images.l0 k a2 y187 y190 0 l0 l1) = some (r1, r2) := by first | (rw [hy190]; with_reducible exact H) | (have H2_ := (Option.bind_some _ _).symm.trans H; rw [hy190]; with_reducible exact H2_) | (have H2_ := (Option.bind_some _ _).symm.trans H; with_reducible exact H2_) | with_reducible exact H | (rw [hy190]; exact H) | exact H
 have Ny190 := mkA hy190
 clear hy190
 have H' := mkA H
 clear H
 go_enter Try.func72, Try.ntmps72
 have gt_ := trivial; repeat (clear gt_; try go_wp2_with (first | ((with_reducible refine gate_dst (N := 17) rfl ?_); refine Kd.R_lit (Kd.int .i64) _ 2 ?hg (N := 17) ?hd (xs := ([] : List Int)) (inner := []) (ok := fun _ => True) (okp := fun _ => True) ?hr ?hp (fun _ hk => hk) trivial (Below.refl _ _) (Nat.le_refl _) (by simp) ?_; (case hd => rfl); (case hg => rfl); (case hr => first | (go_simp; done) | (go_simp; rfl)); (case hp => exact (Reps.none _ _)); intro v188 w4 ho5 hb hg_ hnew_; clear hg_ hnew_; (first | rw [← Ny187.out] at ho5 | (simp only [Int.reduceToNat] at ho5; rw [← Ny187.out] at ho5)); have n0_ := mkA (Kd.R_lower ho5 (below_size (bs0_ HB.out))); have n1_ := mkA (below_step (bs0_ HB.out) hb); clear HB; have HO189 := n0_; have HB := n1_; clear n0_ n1_; clear hb ho5) | ((with_reducible refine gate_dst (N := 18) rfl ?_); refine Kd.R_lit (Kd.int .i64) _ 2 ?hg (N := 18) ?hd (xs := ([] : List Int)) (inner := []) (ok := fun _ => True) (okp := fun _ => True) ?hr ?hp (fun _ hk => hk) trivial (Below.refl _ _) (Nat.le_refl _) (by simp) ?_; (case hd => rfl); (case hg => rfl); (case hr => first | (go_simp; done) | (go_simp; rfl)); (case hp => exact (Reps.none _ _)); intro v191 w6 ho7 hb hg_ hnew_; clear hg_ hnew_; (first | rw [← Ny190.out] at ho7 | (simp only [Int.reduceToNat] at ho7; rw [← Ny190.out] at ho7)); have n0_ := mkA (Kd.R_elder' (by (with_reducible repeat (first | apply Kd.R_alloc | apply Kd.R_drewN | apply Kd.R_drew)); exact HO189.out) (Kd.R_base ho7) hb); have n1_ := mkA (Kd.R_lower (Kd.R_new' ho7 (Kd.R_lt (by (with_reducible repeat (first | apply Kd.R_alloc | apply Kd.R_drewN | apply Kd.R_drew)); exact HO189.out))) (below_size (bs0_ HB.out))); have n2_ := mkA (below_step (bs0_ HB.out) hb); clear HO189; clear HB; have HO189 := n0_; have HO192 := n1_; have HB := n2_; clear n0_ n1_ n2_; clear hb ho7)); try (go_quiet (fail); have gt_ := trivial))
 go_loopg [8, 9, 10] k (fun kq v8 v9 v10 w' => ∃ (x8_1 : List Int) (x9_1 : List Int) (x10_1 : Int), v10 = .int .i64 x10_1 ∧ Aside0 (spec_l18Images.l0 kq a2 x8_1 x9_1 x10_1 l0 l1 = some (r1, r2)) ∧ Aside0 (kq ≤ k) ∧ Aside0 (Kd.R (Kd.int .i64) 2 w' w.heap.size (fun k_ => some k_ ≠ (v9 : Value).ownBlock) v8 x8_1) ∧ Aside0 (Kd.R (Kd.int .i64) 2 w' w.heap.size (fun k_ => some k_ ≠ (v8 : Value).ownBlock) v9 x9_1) ∧ Aside0 (Below w.heap.size w w'))
 case atStart => exact ⟨(y187), (y190), (0), (by first | rfl | (simp; done) | (simp [*]; done) | (simp [i64_w, i32_w]; done)), H', ⟨Nat.le_refl _⟩, ⟨by (with_reducible repeat (first | apply Kd.R_alloc | apply Kd.R_drewN | apply Kd.R_drew)); exact Kd.R_mono HO189.out (fun _ hk => hk.2)⟩, ⟨by (with_reducible repeat (first | apply Kd.R_alloc | apply Kd.R_drewN | apply Kd.R_drew)); exact Kd.R_mono HO192.out (fun _ hk => hk.2)⟩, ⟨by repeat (first | (with_reducible first | exact HB.out | apply below_alloc | apply pw_below_drewN | apply below_drew1) | exact HB.out)⟩⟩
 case round =>
  clear H'
  try clear p2
  try clear c7
  obtain ⟨x8_1, x9_1, x10_1, rfl, HA, HK1, HO_8, HO_9, HB⟩ := hrel
  cases gk with
  | zero => exact absurd HA.out (by simp [spec_l18Images.l0])
  | succ k1 =>
   have H := HA.out
   clear HA
   simp only [spec_l18Images.l0] at H
   by_cases c8 : x10_1 < a2
   · rw [if_pos c8] at H
     have c8b0 : decide (x10_1 < a2) = true := decide_eq_true c8
     clear c8
     by_cases c9 : x8_1.length < 17592186044416
     rotate_left
     · rw [if_neg c9] at H
       exact absurd H (by simp)
     rw [if_pos c9] at H
     have LMc9 := mkA c9
     clear c9
     obtain ⟨y193, hy193⟩ : ∃ y_ : List Int, y_ = (x8_1 ++ [(-1)]) := ⟨_, rfl⟩
     replace H : (if x9_1.length < 17592186044416 then (spec_l18Images.l0 k1 a2 y193 (x9_1 ++ [(-1)]) (wrap64 (x10_1 + 1)) l0 l1) else (none)) = some (r1, r2) := by first | (rw [hy193]; with_reducible exact H) | (have H2_ := (Option.bind_some _ _).symm.trans H; rw [hy193]; with_reducible exact H2_) | (have H2_ := (Option.bind_some _ _).symm.trans H; with_reducible exact H2_) | with_reducible exact H | (rw [hy193]; exact H) | exact H
     have Ny193 := mkA hy193
     clear hy193
     by_cases c10 : x9_1.length < 17592186044416
     rotate_left
     · rw [if_neg c10] at H
       exact absurd H (by simp)
     rw [if_pos c10] at H
     have LMc10 := mkA c10
     clear c10
     obtain ⟨y196, hy196⟩ : ∃ y_ : List Int, y_ = (x9_1 ++ [(-1)]) := ⟨_, rfl⟩
     replace H : (spec_l18Images.l0 k1 a2 y193 y196 (wrap64 (x10_1 + 1)) l0 l1) = some (r1, r2) := by first | (rw [hy196]; with_reducible exact H) | (have H2_ := (Option.bind_some _ _).symm.trans H; rw [hy196]; with_reducible exact H2_) | (have H2_ := (Option.bind_some _ _).symm.trans H; with_reducible exact H2_) | with_reducible exact H | (rw [hy196]; exact H) | exact H
     have Ny196 := mkA hy196
     clear hy196
     have H' := mkA H
     clear H
     have gt_ := trivial; repeat (clear gt_; try go_wp2_with (first | ((with_reducible refine gate_builtin (b := .append) (xs := #[.tmp 24, .tmp 25]) rfl ?_); at_builtin; refine Kd.R_append (Kd.int .i64) (w0 := w) w.heap.size rfl (.tmp 24) (.tmp 25) 22 2 (.int .i64 0) 8 rfl Try.underlying22 info2 rfl (by decide) (by omega) u8 x8_1 (-1) [.int .i64 (-1)] (fun k_ => some k_ ≠ (u9 : Value).ownBlock) (fun _ => False) rfl rfl ?aP (fun _ hk => hk.elim) ?aF ?aO ?aB ?aS ?aL ?_; (case aP => exact rfl); (case aB => exact (bs0_ HB.out)); (case aF => exact (fun k_ hk => Kd.fresh' (Kd.R_lt (by (with_reducible repeat (first | apply Kd.R_alloc | apply Kd.R_drewN | apply Kd.R_drew)); exact HO_9.out)) k_ hk)); (case aO => exact (by (with_reducible repeat (first | apply Kd.R_alloc | apply Kd.R_drewN | apply Kd.R_drew)); exact HO_8.out)); (case aS => exact (below_size (bs0_ HB.out))); (case aL => have := LMc9.out; omega); intro v194 w11 ho hb hg hat; rw [← Ny193.out] at ho; have n0_ := mkA (Kd.R_after (ok := (fun _ => True)) (by (with_reducible repeat (first | apply Kd.R_alloc | apply Kd.R_drewN | apply Kd.R_drew)); exact Kd.R_mono HO_9.out (fun _ hk => ⟨trivial, hk⟩)) hg hat); have n1_ := mkA (hb); have n2_ := mkA (ho); clear HO_9; clear HB; clear HO_8; have HO_9 := n0_; have HB := n1_; have HO195 := n2_; clear n0_ n1_ n2_; clear ho hb hg hat) | ((with_reducible refine gate_builtin (b := .append) (xs := #[.tmp 27, .tmp 28]) rfl ?_); at_builtin; refine Kd.R_append (Kd.int .i64) (w0 := w) w.heap.size rfl (.tmp 27) (.tmp 28) 22 2 (.int .i64 0) 8 rfl Try.underlying22 info2 rfl (by decide) (by omega) u9 x9_1 (-1) [.int .i64 (-1)] (fun k_ => some k_ ≠ (v194 : Value).ownBlock) (fun _ => False) rfl rfl ?aP (fun _ hk => hk.elim) ?aF ?aO ?aB ?aS ?aL ?_; (case aP => exact rfl); (case aB => exact (bs0_ HB.out)); (case aF => exact (fun k_ hk => Kd.fresh' (Kd.R_lt (by (with_reducible repeat (first | apply Kd.R_alloc | apply Kd.R_drewN | apply Kd.R_drew)); exact HO195.out)) k_ hk)); (case aO => exact (by (with_reducible repeat (first | apply Kd.R_alloc | apply Kd.R_drewN | apply Kd.R_drew)); exact Kd.R_mono HO_9.out (fun _ hk => hk.2))); (case aS => exact (below_size (bs0_ HB.out))); (case aL => have := LMc10.out; omega); intro v197 w12 ho hb hg hat; rw [← Ny196.out] at ho; have n0_ := mkA (Kd.R_after (ok := (fun _ => True)) (by (with_reducible repeat (first | apply Kd.R_alloc | apply Kd.R_drewN | apply Kd.R_drew)); exact Kd.R_mono HO195.out (fun _ hk => ⟨trivial, hk⟩)) hg hat); have n1_ := mkA (hb); have n2_ := mkA (ho); clear HO195; clear HB; clear HO_9; have HO195 := n0_; have HB := n1_; have HO198 := n2_; clear n0_ n1_ n2_; clear ho hb hg hat)); try (go_quiet (fail); have gt_ := trivial))
     go_roundg k1
     case measure => have := HK1.out; omega
     case rel => exact ⟨(y193), (y196), (wrap64 (x10_1 + 1)), (by first | rfl | (simp; done) | (simp [*]; done) | (simp [i64_w, i32_w]; done)), H', ⟨by have := HK1.out; omega⟩, ⟨by (with_reducible repeat (first | apply Kd.R_alloc | apply Kd.R_drewN | apply Kd.R_drew)); exact Kd.R_mono HO195.out (fun _ hk => hk.2)⟩, ⟨by (with_reducible repeat (first | apply Kd.R_alloc | apply Kd.R_drewN | apply Kd.R_drew)); exact HO198.out⟩, ⟨by repeat (first | (with_reducible first | exact HB.out | apply below_alloc | apply pw_below_drewN | apply below_drew1) | exact HB.out)⟩⟩
   · rw [if_neg c8] at H
     have c8b0 : decide (x10_1 < a2) = false := decide_eq_false c8
     clear c8
     have H' := mkA H
     clear H
     go_wp2
     repeat (go_quiet (fail); try go_wp2)
     go_loopg [11] k1 (fun kq v11 w' => ∃ (x8_2 : List Int) (x9_2 : List Int) (x11_2 : Int), v11 = .int .i64 x11_2 ∧ Aside0 (spec_l18Images.l1 kq x8_2 x9_2 x11_2 l0 l1 = some (r1, r2)) ∧ Aside0 (kq ≤ k1) ∧ Aside0 (Kd.R (Kd.int .i64) 2 w' w.heap.size (fun k_ => some k_ ≠ (u9 : Value).ownBlock) u8 x8_2) ∧ Aside0 (Kd.R (Kd.int .i64) 2 w' w.heap.size (fun k_ => some k_ ≠ (u8 : Value).ownBlock) u9 x9_2) ∧ Aside0 (Below w.heap.size w w'))
     case atStart => exact ⟨(x8_1), (x9_1), (0), (by first | rfl | (simp; done) | (simp [*]; done) | (simp [i64_w, i32_w]; done)), H', ⟨Nat.le_refl _⟩, ⟨by (with_reducible repeat (first | apply Kd.R_alloc | apply Kd.R_drewN | apply Kd.R_drew)); exact HO_8.out⟩, ⟨by (with_reducible repeat (first | apply Kd.R_alloc | apply Kd.R_drewN | apply Kd.R_drew)); exact HO_9.out⟩, ⟨by repeat (first | (with_reducible first | exact HB.out | apply below_alloc | apply pw_below_drewN | apply below_drew1) | exact HB.out)⟩⟩
     case round =>
      clear H'
      try clear c1
      try clear p2
      try clear p6
      try clear c7
      try clear c8
      try clear c8b0
      try clear c9
      try clear c10
      try clear p2
      obtain ⟨x8_2, x9_2, x11_2, rfl, HA, HK2, HO_8, HO_9, HB⟩ := hrel
      cases gk with
      | zero => exact absurd HA.out (by simp [spec_l18Images.l1])
      | succ k2 =>
       have H := HA.out
       clear HA
       simp only [spec_l18Images.l1] at H
       by_cases c13 : 0 < (l0.length : Int)
       rotate_left
       · rw [if_neg c13] at H
         exact absurd H (by simp)

       rw [if_pos c13] at H
       have c13b0 : decide (0 < (l0.length : Int)) = true := decide_eq_true c13
       have c13b1 : decide (0 < l0.length) = true := decide_eq_true (by omega)
       clear c13
       by_cases c14 : x11_2 < ((rd_T29 l0 0).f1)
       rotate_left
       · rw [if_neg c14] at H
         have c14b0 : decide (x11_2 < ((rd_T29 l0 0).f1)) = false := decide_eq_false c14
         clear c14
         simp only [Option.some.injEq, Prod.mk.injEq] at H
         obtain ⟨rfl, rfl⟩ := H
         have p199 : 0 ≤ (0 : Int) := (by omega)
         have q199 : 0 < (l0.length : Int) := dt_
         obtain ⟨ad199, A199_2, c199_2, e199, hx199_0, hx199_1, hx199_2, hl199_2, hi199_2⟩ := at0_T29 HR0.out q199
         cases e199
         have qi199 : (0 < l0.length) = True := eq_true (by omega)
         replace hx199_0 := bc_ HB.out hx199_0
         replace hx199_1 := bc_ HB.out hx199_1
         replace hx199_2 := bc_ HB.out hx199_2
         have HR199_2 := mkA hi199_2
         have HC199_2 := mkA hl199_2
         clear hi199_2 hl199_2
         replace p199 := eq_true p199
         replace q199 := eq_true q199
         go_wp2
         repeat (go_quiet (fail); try go_wp2)
         go_ret2
         exact ⟨_, by first | rfl | (simp [errW_none, errW_some] <;> rfl) | (simp [*, errW_none, errW_some] <;> rfl), by (with_reducible repeat (first | apply Kd.R_alloc | apply Kd.R_drewN | apply Kd.R_drew)); exact Kd.R_mono HO_8.out (fun _ hk => trivial), by repeat (first | (with_reducible first | exact HB.out | apply below_alloc | apply pw_below_drewN | apply below_drew1) | exact HB.out)⟩
       rw [if_pos c14] at H
       have c14b0 : decide (x11_2 < ((rd_T29 l0 0).f1)) = true := decide_eq_true c14
       clear c14
       have H' := mkA H
       clear H
       have p199 : 0 ≤ (0 : Int) := (by omega)
       have q199 : 0 < (l0.length : Int) := dt_
       obtain ⟨ad199, A199_2, c199_2, e199, hx199_0, hx199_1, hx199_2, hl199_2, hi199_2⟩ := at0_T29 HR0.out q199
       cases e199
       have qi199 : (0 < l0.length) = True := eq_true (by omega)
       replace hx199_0 := bc_ HB.out hx199_0
       replace hx199_1 := bc_ HB.out hx199_1
       replace hx199_2 := bc_ HB.out hx199_2
       have HR199_2 := mkA hi199_2
       have HC199_2 := mkA hl199_2
       clear hi199_2 hl199_2
       replace p199 := eq_true p199
       replace q199 := eq_true q199
       go_wp2
       repeat (go_quiet (fail); try go_wp2)
       go_loopg [12] k2 (fun kq v12 w' => ∃ (x8_3 : List Int) (x9_3 : List Int) (x12_3 : Int), v12 = .int .i64 x12_3 ∧ Aside0 (spec_l18Images.l2 kq x8_3 x9_3 x11_2 x12_3 l0 l1 = some (r1, r2)) ∧ Aside0 (kq ≤ k2) ∧ Aside0 (Kd.R (Kd.int .i64) 2 w' w.heap.size (fun k_ => some k_ ≠ (u9 : Value).ownBlock) u8 x8_3) ∧ Aside0 (Kd.R (Kd.int .i64) 2 w' w.heap.size (fun k_ => some k_ ≠ (u8 : Value).ownBlock) u9 x9_3) ∧ Aside0 (Below w.heap.size w w'))
       case atStart => exact ⟨(x8_2), (x9_2), (0), (by first | rfl | (simp; done) | (simp [*]; done) | (simp [i64_w, i32_w]; done)), H', ⟨Nat.le_refl _⟩, ⟨by (with_reducible repeat (first | apply Kd.R_alloc | apply Kd.R_drewN | apply Kd.R_drew)); exact HO_8.out⟩, ⟨by (with_reducible repeat (first | apply Kd.R_alloc | apply Kd.R_drewN | apply Kd.R_drew)); exact HO_9.out⟩, ⟨by repeat (first | (with_reducible first | exact HB.out | apply below_alloc | apply pw_below_drewN | apply below_drew1) | exact HB.out)⟩⟩
       case round =>
        clear H'
        try clear c1
        try clear p1
        try clear q1
        try clear hx1
        try clear qi1
        try clear p2
        try clear p6
        try clear c7
        try clear c8
        try clear c8b0
        try clear c9
        try clear c10
        try clear c13
        try clear c13b0
        try clear c13b1
        try clear c14
        try clear c14b0
        try clear hx199_0
        try clear hx199_1
        try clear hx199_2
        try clear p199
        try clear p2
        try clear p6
        try clear q199
        obtain ⟨x8_3, x9_3, x12_3, rfl, HA, HK3, HO_8, HO_9, HB⟩ := hrel
        cases gk with
        | zero => exact absurd HA.out (by simp [spec_l18Images.l2])
        | succ k3 =>
         have H := HA.out
         clear HA
         simp only [spec_l18Images.l2] at H
         by_cases c15 : 0 < (l0.length : Int)
         rotate_left
         · rw [if_neg c15] at H
           exact absurd H (by simp)
         rw [if_pos c15] at H
         have c15b0 : decide (0 < (l0.length : Int)) = true := decide_eq_true c15
         have c15b1 : decide (0 < l0.length) = true := decide_eq_true (by omega)
         clear c15
         by_cases c16 : x12_3 < ((rd_T29 l0 0).f0)
         rotate_left
         · rw [if_neg c16] at H
           have c16b0 : decide (x12_3 < ((rd_T29 l0 0).f0)) = false := decide_eq_false c16
           clear c16
           have H' := mkA H
           clear H
           have p200 : 0 ≤ (0 : Int) := (by omega)
           have q200 : 0 < (l0.length : Int) := dt_
           obtain ⟨ad200, A200_2, c200_2, e200, hx200_0, hx200_1, hx200_2, hl200_2, hi200_2⟩ := at0_T29 HR0.out q200
           obtain rfl : ad199 = ad200 := (by injection e200)
           have qi200 : (0 < l0.length) = True := eq_true (by omega)
           replace hx200_0 := bc_ HB.out hx200_0
           replace hx200_1 := bc_ HB.out hx200_1
           replace hx200_2 := bc_ HB.out hx200_2
           have HR200_2 := mkA hi200_2
           have HC200_2 := mkA hl200_2
           clear hi200_2 hl200_2
           replace p200 := eq_true p200
           replace q200 := eq_true q200
           go_wp2
           repeat (go_quiet (fail); try go_wp2)
           go_roundg k3
           case measure => have := HK1.out; have := HK2.out; have := HK3.out; omega
           case rel => exact ⟨(x8_3), (x9_3), (wrap64 (x11_2 + 1)), (by first | rfl | (simp; done) | (simp [*]; done) | (simp [i64_w, i32_w]; done)), H', ⟨by have := HK1.out; have := HK2.out; have := HK3.out; omega⟩, ⟨by (with_reducible repeat (first | apply Kd.R_alloc | apply Kd.R_drewN | apply Kd.R_drew)); exact HO_8.out⟩, ⟨by (with_reducible repeat (first | apply Kd.R_alloc | apply Kd.R_drewN | apply Kd.R_drew)); exact HO_9.out⟩, ⟨by repeat (first | (with_reducible first | exact HB.out | apply below_alloc | apply pw_below_drewN | apply below_drew1) | exact HB.out)⟩⟩
         rw [if_pos c16] at H
         have c16b0 : decide (x12_3 < ((rd_T29 l0 0).f0)) = true := decide_eq_true c16
         clear c16
         replace H := Option.bind_eq_some_iff.mp H
         obtain ⟨⟨t201, t202⟩, A170, H⟩ := H
         replace H : (if 0 ≤ (wrap64 ((wrap64 (x11_2 * ((rd_T29 l0 0).f0))) + x12_3)) then (if (wrap64 ((wrap64 (x11_2 * ((rd_T29 l0 0).f0))) + x12_3)) < (((rd_T29 l0 0).f2).length : Int) then (if 0 ≤ (wrap64 ((wrap64 (t202 * ((rd_T29 l0 0).f0))) + t201)) then (if (wrap64 ((wrap64 (t202 * ((rd_T29 l0 0).f0))) + t201)) < (((rd_T29 l0 0).f2).length : Int) then (if 0 ≤ (rd ((rd_T29 l0 0).f2) (wrap64 ((wrap64 (x11_2 * ((rd_T29 l0 0).f0))) + x12_3))) then (if (rd ((rd_T29 l0 0).f2) (wrap64 ((wrap64 (x11_2 * ((rd_T29 l0 0).f0))) + x12_3))) < (x8_3.length : Int) then (if (rd x8_3 (rd ((rd_T29 l0 0).f2) (wrap64 ((wrap64 (x11_2 * ((rd_T29 l0 0).f0))) + x12_3)))) ≥ 0 then (if (rd x8_3 (rd ((rd_T29 l0 0).f2) (wrap64 ((wrap64 (x11_2 * ((rd_T29 l0 0).f0))) + x12_3)))) = (rd ((rd_T29 l0 0).f2) (wrap64 ((wrap64 (t202 * ((rd_T29 l0 0).f0))) + t201))) then (if 0 ≤ (rd ((rd_T29 l0 0).f2) (wrap64 ((wrap64 (t202 * ((rd_T29 l0 0).f0))) + t201))) then (if (rd ((rd_T29 l0 0).f2) (wrap64 ((wrap64 (t202 * ((rd_T29 l0 0).f0))) + t201))) < (x9_3.length : Int) then (if (rd x9_3 (rd ((rd_T29 l0 0).f2) (wrap64 ((wrap64 (t202 * ((rd_T29 l0 0).f0))) + t201)))) ≥ 0 then (if (rd x9_3 (rd ((rd_T29 l0 0).f2) (wrap64 ((wrap64 (t202 * ((rd_T29 l0 0).f0))) + t201)))) = (rd ((rd_T29 l0 0).f2) (wrap64 ((wrap64 (x11_2 * ((rd_T29 l0 0).f0))) + x12_3))) then (spec_l18Images.l2 k3 (x8_3.set ((rd ((rd_T29 l0 0).f2) (wrap64 ((wrap64 (x11_2 * ((rd_T29 l0 0).f0))) + x12_3))) : Int).toNat (rd ((rd_T29 l0 0).f2) (wrap64 ((wrap64 (t202 * ((rd_T29 l0 0).f0))) + t201)))) (x9_3.set ((rd ((rd_T29 l0 0).f2) (wrap64 ((wrap64 (t202 * ((rd_T29 l0 0).f0))) + t201))) : Int).toNat (rd ((rd_T29 l0 0).f2) (wrap64 ((wrap64 (x11_2 * ((rd_T29 l0 0).f0))) + x12_3)))) x11_2 (wrap64 (x12_3 + 1)) l0 l1) else (some (([] : List Int), false))) else (spec_l18Images.l2 k3 (x8_3.set ((rd ((rd_T29 l0 0).f2) (wrap64 ((wrap64 (x11_2 * ((rd_T29 l0 0).f0))) + x12_3))) : Int).toNat (rd ((rd_T29 l0 0).f2) (wrap64 ((wrap64 (t202 * ((rd_T29 l0 0).f0))) + t201)))) (x9_3.set ((rd ((rd_T29 l0 0).f2) (wrap64 ((wrap64 (t202 * ((rd_T29 l0 0).f0))) + t201))) : Int).toNat (rd ((rd_T29 l0 0).f2) (wrap64 ((wrap64 (x11_2 * ((rd_T29 l0 0).f0))) + x12_3)))) x11_2 (wrap64 (x12_3 + 1)) l0 l1)) else (none)) else (none)) else (some (([] : List Int), false))) else (if 0 ≤ (rd ((rd_T29 l0 0).f2) (wrap64 ((wrap64 (t202 * ((rd_T29 l0 0).f0))) + t201))) then (if (rd ((rd_T29 l0 0).f2) (wrap64 ((wrap64 (t202 * ((rd_T29 l0 0).f0))) + t201))) < (x9_3.length : Int) then (if (rd x9_3 (rd ((rd_T29 l0 0).f2) (wrap64 ((wrap64 (t202 * ((rd_T29 l0 0).f0))) + t201)))) ≥ 0 then (if (rd x9_3 (rd ((rd_T29 l0 0).f2) (wrap64 ((wrap64 (t202 * ((rd_T29 l0 0).f0))) + t201)))) = (rd ((rd_T29 l0 0).f2) (wrap64 ((wrap64 (x11_2 * ((rd_T29 l0 0).f0))) + x12_3))) then (spec_l18Images.l2 k3 (x8_3.set ((rd ((rd_T29 l0 0).f2) (wrap64 ((wrap64 (x11_2 * ((rd_T29 l0 0).f0))) + x12_3))) : Int).toNat (rd ((rd_T29 l0 0).f2) (wrap64 ((wrap64 (t202 * ((rd_T29 l0 0).f0))) + t201)))) (x9_3.set ((rd ((rd_T29 l0 0).f2) (wrap64 ((wrap64 (t202 * ((rd_T29 l0 0).f0))) + t201))) : Int).toNat (rd ((rd_T29 l0 0).f2) (wrap64 ((wrap64 (x11_2 * ((rd_T29 l0 0).f0))) + x12_3)))) x11_2 (wrap64 (x12_3 + 1)) l0 l1) else (some (([] : List Int), false))) else (spec_l18Images.l2 k3 (x8_3.set ((rd ((rd_T29 l0 0).f2) (wrap64 ((wrap64 (x11_2 * ((rd_T29 l0 0).f0))) + x12_3))) : Int).toNat (rd ((rd_T29 l0 0).f2) (wrap64 ((wrap64 (t202 * ((rd_T29 l0 0).f0))) + t201)))) (x9_3.set ((rd ((rd_T29 l0 0).f2) (wrap64 ((wrap64 (t202 * ((rd_T29 l0 0).f0))) + t201))) : Int).toNat (rd ((rd_T29 l0 0).f2) (wrap64 ((wrap64 (x11_2 * ((rd_T29 l0 0).f0))) + x12_3)))) x11_2 (wrap64 (x12_3 + 1)) l0 l1)) else (none)) else (none))) else (none)) else (none)) else (none)) else (none)) else (none)) else (none)) = some (r1, r2) := H
         have A17 := mkA A170
         clear A170
         obtain ⟨ji18, hji18⟩ : ∃ j_ : Int, (wrap64 ((wrap64 (x11_2 * ((rd_T29 l0 0).f0))) + x12_3)) = j_ := ⟨_, rfl⟩
         replace H : (if 0 ≤ (ji18) then (if (ji18) < (((rd_T29 l0 0).f2).length : Int) then (if 0 ≤ (wrap64 ((wrap64 (t202 * ((rd_T29 l0 0).f0))) + t201)) then (if (wrap64 ((wrap64 (t202 * ((rd_T29 l0 0).f0))) + t201)) < (((rd_T29 l0 0).f2).length : Int) then (if 0 ≤ (rd ((rd_T29 l0 0).f2) (ji18)) then (if (rd ((rd_T29 l0 0).f2) (ji18)) < (x8_3.length : Int) then (if (rd x8_3 (rd ((rd_T29 l0 0).f2) (ji18))) ≥ 0 then (if (rd x8_3 (rd ((rd_T29 l0 0).f2) (ji18))) = (rd ((rd_T29 l0 0).f2) (wrap64 ((wrap64 (t202 * ((rd_T29 l0 0).f0))) + t201))) then (if 0 ≤ (rd ((rd_T29 l0 0).f2) (wrap64 ((wrap64 (t202 * ((rd_T29 l0 0).f0))) + t201))) then (if (rd ((rd_T29 l0 0).f2) (wrap64 ((wrap64 (t202 * ((rd_T29 l0 0).f0))) + t201))) < (x9_3.length : Int) then (if (rd x9_3 (rd ((rd_T29 l0 0).f2) (wrap64 ((wrap64 (t202 * ((rd_T29 l0 0).f0))) + t201)))) ≥ 0 then (if (rd x9_3 (rd ((rd_T29 l0 0).f2) (wrap64 ((wrap64 (t202 * ((rd_T29 l0 0).f0))) + t201)))) = (rd ((rd_T29 l0 0).f2) (ji18)) then (spec_l18Images.l2 k3 (x8_3.set ((rd ((rd_T29 l0 0).f2) (ji18)) : Int).toNat (rd ((rd_T29 l0 0).f2) (wrap64 ((wrap64 (t202 * ((rd_T29 l0 0).f0))) + t201)))) (x9_3.set ((rd ((rd_T29 l0 0).f2) (wrap64 ((wrap64 (t202 * ((rd_T29 l0 0).f0))) + t201))) : Int).toNat (rd ((rd_T29 l0 0).f2) (ji18))) x11_2 (wrap64 (x12_3 + 1)) l0 l1) else (some (([] : List Int), false))) else (spec_l18Images.l2 k3 (x8_3.set ((rd ((rd_T29 l0 0).f2) (ji18)) : Int).toNat (rd ((rd_T29 l0 0).f2) (wrap64 ((wrap64 (t202 * ((rd_T29 l0 0).f0))) + t201)))) (x9_3.set ((rd ((rd_T29 l0 0).f2) (wrap64 ((wrap64 (t202 * ((rd_T29 l0 0).f0))) + t201))) : Int).toNat (rd ((rd_T29 l0 0).f2) (ji18))) x11_2 (wrap64 (x12_3 + 1)) l0 l1)) else (none)) else (none)) else (some (([] : List Int), false))) else (if 0 ≤ (rd ((rd_T29 l0 0).f2) (wrap64 ((wrap64 (t202 * ((rd_T29 l0 0).f0))) + t201))) then (if (rd ((rd_T29 l0 0).f2) (wrap64 ((wrap64 (t202 * ((rd_T29 l0 0).f0))) + t201))) < (x9_3.length : Int) then (if (rd x9_3 (rd ((rd_T29 l0 0).f2) (wrap64 ((wrap64 (t202 * ((rd_T29 l0 0).f0))) + t201)))) ≥ 0 then (if (rd x9_3 (rd ((rd_T29 l0 0).f2) (wrap64 ((wrap64 (t202 * ((rd_T29 l0 0).f0))) + t201)))) = (rd ((rd_T29 l0 0).f2) (ji18)) then (spec_l18Images.l2 k3 (x8_3.set ((rd ((rd_T29 l0 0).f2) (ji18)) : Int).toNat (rd ((rd_T29 l0 0).f2) (wrap64 ((wrap64 (t202 * ((rd_T29 l0 0).f0))) + t201)))) (x9_3.set ((rd ((rd_T29 l0 0).f2) (wrap64 ((wrap64 (t202 * ((rd_T29 l0 0).f0))) + t201))) : Int).toNat (rd ((rd_T29 l0 0).f2) (ji18))) x11_2 (wrap64 (x12_3 + 1)) l0 l1) else (some (([] : List Int), false))) else (spec_l18Images.l2 k3 (x8_3.set ((rd ((rd_T29 l0 0).f2) (ji18)) : Int).toNat (rd ((rd_T29 l0 0).f2) (wrap64 ((wrap64 (t202 * ((rd_T29 l0 0).f0))) + t201)))) (x9_3.set ((rd ((rd_T29 l0 0).f2) (wrap64 ((wrap64 (t202 * ((rd_T29 l0 0).f0))) + t201))) : Int).toNat (rd ((rd_T29 l0 0).f2) (ji18))) x11_2 (wrap64 (x12_3 + 1)) l0 l1)) else (none)) else (none))) else (none)) else (none)) else (none)) else (none)) else (none)) else (none)) = some (r1, r2) := by first | (rw [hji18] at H; exact H) | (simp only [hji18] at H ⊢; exact H)
         (try rw [hji18] at A17)
         have hji18w : (IntKind.i64.wrap ((wrap64 (x11_2 * ((rd_T29 l0 0).f0))) + x12_3)) = ji18 := (i64_w _).trans hji18
         by_cases c19 : 0 ≤ (ji18)
         rotate_left
         · rw [if_neg c19] at H
           exact absurd H (by simp)
         rw [if_pos c19] at H
         have c19b0 : decide (0 ≤ (ji18)) = true := decide_eq_true c19
         clear c19
         by_cases c20 : (ji18) < (((rd_T29 l0 0).f2).length : Int)
         rotate_left
         · rw [if_neg c20] at H
           exact absurd H (by simp)
         rw [if_pos c20] at H
         have c20b0 : decide ((ji18) < (((rd_T29 l0 0).f2).length : Int)) = true := decide_eq_true c20
         clear c20
         obtain ⟨ji21, hji21⟩ : ∃ j_ : Int, (wrap64 ((wrap64 (t202 * ((rd_T29 l0 0).f0))) + t201)) = j_ := ⟨_, rfl⟩
         replace H : (if 0 ≤ (ji21) then (if (ji21) < (((rd_T29 l0 0).f2).length : Int) then (if 0 ≤ (rd ((rd_T29 l0 0).f2) (ji18)) then (if (rd ((rd_T29 l0 0).f2) (ji18)) < (x8_3.length : Int) then (if (rd x8_3 (rd ((rd_T29 l0 0).f2) (ji18))) ≥ 0 then (if (rd x8_3 (rd ((rd_T29 l0 0).f2) (ji18))) = (rd ((rd_T29 l0 0).f2) (ji21)) then (if 0 ≤ (rd ((rd_T29 l0 0).f2) (ji21)) then (if (rd ((rd_T29 l0 0).f2) (ji21)) < (x9_3.length : Int) then (if (rd x9_3 (rd ((rd_T29 l0 0).f2) (ji21))) ≥ 0 then (if (rd x9_3 (rd ((rd_T29 l0 0).f2) (ji21))) = (rd ((rd_T29 l0 0).f2) (ji18)) then (spec_l18Images.l2 k3 (x8_3.set ((rd ((rd_T29 l0 0).f2) (ji18)) : Int).toNat (rd ((rd_T29 l0 0).f2) (ji21))) (x9_3.set ((rd ((rd_T29 l0 0).f2) (ji21)) : Int).toNat (rd ((rd_T29 l0 0).f2) (ji18))) x11_2 (wrap64 (x12_3 + 1)) l0 l1) else (some (([] : List Int), false))) else (spec_l18Images.l2 k3 (x8_3.set ((rd ((rd_T29 l0 0).f2) (ji18)) : Int).toNat (rd ((rd_T29 l0 0).f2) (ji21))) (x9_3.set ((rd ((rd_T29 l0 0).f2) (ji21)) : Int).toNat (rd ((rd_T29 l0 0).f2) (ji18))) x11_2 (wrap64 (x12_3 + 1)) l0 l1)) else (none)) else (none)) else (some (([] : List Int), false))) else (if 0 ≤ (rd ((rd_T29 l0 0).f2) (ji21)) then (if (rd ((rd_T29 l0 0).f2) (ji21)) < (x9_3.length : Int) then (if (rd x9_3 (rd ((rd_T29 l0 0).f2) (ji21))) ≥ 0 then (if (rd x9_3 (rd ((rd_T29 l0 0).f2) (ji21))) = (rd ((rd_T29 l0 0).f2) (ji18)) then (spec_l18Images.l2 k3 (x8_3.set ((rd ((rd_T29 l0 0).f2) (ji18)) : Int).toNat (rd ((rd_T29 l0 0).f2) (ji21))) (x9_3.set ((rd ((rd_T29 l0 0).f2) (ji21)) : Int).toNat (rd ((rd_T29 l0 0).f2) (ji18))) x11_2 (wrap64 (x12_3 + 1)) l0 l1) else (some (([] : List Int), false))) else (spec_l18Images.l2 k3 (x8_3.set ((rd ((rd_T29 l0 0).f2) (ji18)) : Int).toNat (rd ((rd_T29 l0 0).f2) (ji21))) (x9_3.set ((rd ((rd_T29 l0 0).f2) (ji21)) : Int).toNat (rd ((rd_T29 l0 0).f2) (ji18))) x11_2 (wrap64 (x12_3 + 1)) l0 l1)) else (none)) else (none))) else (none)) else (none)) else (none)) else (none)) = some (r1, r2) := by first | (rw [hji21] at H; exact H) | (simp only [hji21] at H ⊢; exact H)
         (try rw [hji21] at A17)
         have hji21w : (IntKind.i64.wrap ((wrap64 (t202 * ((rd_T29 l0 0).f0))) + t201)) = ji21 := (i64_w _).trans hji21
         by_cases c22 : 0 ≤ (ji21)
         rotate_left
         · rw [if_neg c22] at H
           exact absurd H (by simp)
         rw [if_pos c22] at H
         have c22b0 : decide (0 ≤ (ji21)) = true := decide_eq_true c22
         clear c22
         by_cases c23 : (ji21) < (((rd_T29 l0 0).f2).length : Int)
         rotate_left
         · rw [if_neg c23] at H
           exact absurd H (by simp)
         rw [if_pos c23] at H
         have c23b0 : decide ((ji21) < (((rd_T29 l0 0).f2).length : Int)) = true := decide_eq_true c23
         clear c23
         by_cases c24 : 0 ≤ (rd ((rd_T29 l0 0).f2) (ji18))
         rotate_left
         · rw [if_neg c24] at H
           exact absurd H (by simp)
         rw [if_pos c24] at H
         have c24b0 : decide (0 ≤ (rd ((rd_T29 l0 0).f2) (ji18))) = true := decide_eq_true c24
         clear c24
         by_cases c25 : (rd ((rd_T29 l0 0).f2) (ji18)) < (x8_3.length : Int)
         rotate_left
         · rw [if_neg c25] at H
           exact absurd H (by simp)
         rw [if_pos c25] at H
         have c25b0 : decide ((rd ((rd_T29 l0 0).f2) (ji18)) < (x8_3.length : Int)) = true := decide_eq_true c25
         clear c25
         by_cases c26 : (rd x8_3 (rd ((rd_T29 l0 0).f2) (ji18))) ≥ 0
         rotate_left
         · rw [if_neg c26] at H
           have c26b0 : decide (0 ≤ (rd x8_3 (rd ((rd_T29 l0 0).f2) (ji18)))) = false := decide_eq_false c26
           clear c26
           by_cases c55 : 0 ≤ (rd ((rd_T29 l0 0).f2) (ji21))
           rotate_left
           · rw [if_neg c55] at H
             exact absurd H (by simp)
           rw [if_pos c55] at H
           have c55b0 : decide (0 ≤ (rd ((rd_T29 l0 0).f2) (ji21))) = true := decide_eq_true c55
           clear c55
           by_cases c56 : (rd ((rd_T29 l0 0).f2) (ji21)) < (x9_3.length : Int)
           rotate_left
           · rw [if_neg c56] at H
             exact absurd H (by simp)
           rw [if_pos c56] at H
           have c56b0 : decide ((rd ((rd_T29 l0 0).f2) (ji21)) < (x9_3.length : Int)) = true := decide_eq_true c56
           clear c56
           by_cases c57 : (rd x9_3 (rd ((rd_T29 l0 0).f2) (ji21))) ≥ 0
           rotate_left
           · rw [if_neg c57] at H
             have c57b0 : decide (0 ≤ (rd x9_3 (rd ((rd_T29 l0 0).f2) (ji21)))) = false := decide_eq_false c57
             clear c57
             obtain ⟨y221, hy221⟩ : ∃ y_ : List Int, y_ = (x8_3.set ((rd ((rd_T29 l0 0).f2) (ji18)) : Int).toNat (rd ((rd_T29 l0 0).f2) (ji21))) := ⟨_, rfl⟩
             replace H : (spec_l18Images.l2 k3 y221 (x9_3.set ((rd ((rd_T29 l0 0).f2) (ji21)) : Int).toNat (rd ((rd_T29 l0 0).f2) (ji18))) x11_2 (wrap64 (x12_3 + 1)) l0 l1) = some (r1, r2) := by first | (rw [hy221]; with_reducible exact H) | (have H2_ := (Option.bind_some _ _).symm.trans H; rw [hy221]; with_reducible exact H2_) | (have H2_ := (Option.bind_some _ _).symm.trans H; with_reducible exact H2_) | with_reducible exact H | (rw [hy221]; exact H) | exact H
             have Ny221 := mkA hy221
             clear hy221
             obtain ⟨y222, hy222⟩ : ∃ y_ : List Int, y_ = (x9_3.set ((rd ((rd_T29 l0 0).f2) (ji21)) : Int).toNat (rd ((rd_T29 l0 0).f2) (ji18))) := ⟨_, rfl⟩
             replace H : (spec_l18Images.l2 k3 y221 y222 x11_2 (wrap64 (x12_3 + 1)) l0 l1) = some (r1, r2) := by first | (rw [hy222]; with_reducible exact H) | (have H2_ := (Option.bind_some _ _).symm.trans H; rw [hy222]; with_reducible exact H2_) | (have H2_ := (Option.bind_some _ _).symm.trans H; with_reducible exact H2_) | with_reducible exact H | (rw [hy222]; exact H) | exact H
             have Ny222 := mkA hy222
             clear hy222
             have H' := mkA H
             clear H
             have p200 : 0 ≤ (0 : Int) := (by omega)
             have q200 : 0 < (l0.length : Int) := dt_
             obtain ⟨ad200, A200_2, c200_2, e200, hx200_0, hx200_1, hx200_2, hl200_2, hi200_2⟩ := at0_T29 HR0.out q200
             obtain rfl : ad199 = ad200 := (by injection e200)
             have qi200 : (0 < l0.length) = True := eq_true (by omega)
             replace hx200_0 := bc_ HB.out hx200_0
             replace hx200_1 := bc_ HB.out hx200_1
             replace hx200_2 := bc_ HB.out hx200_2
             have HR200_2 := mkA hi200_2
             have HC200_2 := mkA hl200_2
             clear hi200_2 hl200_2
             replace p200 := eq_true p200
             replace q200 := eq_true q200
             have gt_ := trivial; repeat (clear gt_; try go_wp2_with (first | (go_at_call 58; (with_reducible refine (spec_l18Move.calls k3 _ l0 _ l1 x12_3 x11_2 t201 t202 _ ?side1 ?side2 A17.out).mono ?_); (case side1 => exact cb_ HR0.out HB.out); (case side2 => exact cb_ HR1.out HB.out); rintro e w73 ⟨rfl, hb⟩; have n0_ := mkA (Kd.R_below (by (with_reducible repeat (first | apply Kd.R_alloc | apply Kd.R_drewN | apply Kd.R_drew)); exact HO_8.out) hb); have n1_ := mkA (Kd.R_below (by (with_reducible repeat (first | apply Kd.R_alloc | apply Kd.R_drewN | apply Kd.R_drew)); exact HO_9.out) hb); have n2_ := mkA (below_step (bs0_ HB.out) hb); clear HO_8; clear HO_9; clear HB; have HO_8 := n0_; have HO_9 := n1_; have HB := n2_; clear n0_ n1_ n2_; (try clear hb); (try clear hb2); (try clear hk); (try clear hi); have p203 : 0 ≤ (0 : Int) := (by omega); have q203 : 0 < (l0.length : Int) := dt_; obtain ⟨ad203, A203_2, c203_2, e203, hx203_0, hx203_1, hx203_2, hl203_2, hi203_2⟩ := at0_T29 HR0.out q203; obtain rfl : ad199 = ad203 := (by injection e203); have qi203 : (0 < l0.length) = True := eq_true (by omega); replace hx203_0 := bc_ HB.out hx203_0; replace hx203_1 := bc_ HB.out hx203_1; replace hx203_2 := bc_ HB.out hx203_2; have HR203_2 := mkA hi203_2; have HC203_2 := mkA hl203_2; clear hi203_2 hl203_2; replace p203 := eq_true p203; replace q203 := eq_true q203; have p204 : 0 ≤ (0 : Int) := (by omega); have q204 : 0 < (l0.length : Int) := dt_; obtain ⟨ad204, A204_2, c204_2, e204, hx204_0, hx204_1, hx204_2, hl204_2, hi204_2⟩ := at0_T29 HR0.out q204; obtain rfl : ad199 = ad204 := (by injection e204); have qi204 : (0 < l0.length) = True := eq_true (by omega); replace hx204_0 := bc_ HB.out hx204_0; replace hx204_1 := bc_ HB.out hx204_1; replace hx204_2 := bc_ HB.out hx204_2; have HR204_2 := mkA hi204_2; have HC204_2 := mkA hl204_2; clear hi204_2 hl204_2; replace p204 := eq_true p204; replace q204 := eq_true q204; have ea_ := Option.some.inj (hx203_2.symm.trans hx204_2); injection ea_ with ea_ en_ ec_; subst ea_; subst ec_; clear en_; have p205 : 0 ≤ ((ji18) : Int) := dt_; have q205 : (ji18) < (((rd_T29 l0 0).f2).length : Int) := dt_; obtain ⟨ad205, e205, hx205_0⟩ := Kd.at_int HR203_2.out (ji18) p205 q205; cases e205; replace hx205_0 := bc_ HB.out hx205_0; replace p205 := eq_true p205; replace q205 := eq_true q205; have p206 : 0 ≤ (0 : Int) := (by omega); have q206 : 0 < (l0.length : Int) := dt_; obtain ⟨ad206, A206_2, c206_2, e206, hx206_0, hx206_1, hx206_2, hl206_2, hi206_2⟩ := at0_T29 HR0.out q206; obtain rfl : ad199 = ad206 := (by injection e206); have qi206 : (0 < l0.length) = True := eq_true (by omega); replace hx206_0 := bc_ HB.out hx206_0; replace hx206_1 := bc_ HB.out hx206_1; replace hx206_2 := bc_ HB.out hx206_2; have HR206_2 := mkA hi206_2; have HC206_2 := mkA hl206_2; clear hi206_2 hl206_2; replace p206 := eq_true p206; replace q206 := eq_true q206; have ea_ := Option.some.inj (hx203_2.symm.trans hx206_2); injection ea_ with ea_ en_ ec_; subst ea_; subst ec_; clear en_; have p207 : 0 ≤ (0 : Int) := (by omega); have q207 : 0 < (l0.length : Int) := dt_; obtain ⟨ad207, A207_2, c207_2, e207, hx207_0, hx207_1, hx207_2, hl207_2, hi207_2⟩ := at0_T29 HR0.out q207; obtain rfl : ad199 = ad207 := (by injection e207); have qi207 : (0 < l0.length) = True := eq_true (by omega); replace hx207_0 := bc_ HB.out hx207_0; replace hx207_1 := bc_ HB.out hx207_1; replace hx207_2 := bc_ HB.out hx207_2; have HR207_2 := mkA hi207_2; have HC207_2 := mkA hl207_2; clear hi207_2 hl207_2; replace p207 := eq_true p207; replace q207 := eq_true q207; have ea_ := Option.some.inj (hx203_2.symm.trans hx207_2); injection ea_ with ea_ en_ ec_; subst ea_; subst ec_; clear en_; have p208 : 0 ≤ ((ji21) : Int) := dt_; have q208 : (ji21) < (((rd_T29 l0 0).f2).length : Int) := dt_; obtain ⟨ad208, e208, hx208_0⟩ := Kd.at_int HR206_2.out (ji21) p208 q208; obtain rfl : ad205 = ad208 := (by injection e208); replace hx208_0 := bc_ HB.out hx208_0; replace p208 := eq_true p208; replace q208 := eq_true q208; obtain ⟨Ao74, co74, eo74⟩ := Kd.R_slice HO_8.out; subst eo74; have p209 : 0 ≤ ((rd ((rd_T29 l0 0).f2) (ji18)) : Int) := dt_; have q209 : (rd ((rd_T29 l0 0).f2) (ji18)) < (x8_3.length : Int) := dt_; obtain ⟨ad209, e209, hx209_0⟩ := Kd.at_int (Kd.R_reads' HO_8.out).2.2 (rd ((rd_T29 l0 0).f2) (ji18)) p209 q209; cases e209; replace p209 := eq_true p209; replace q209 := eq_true q209; obtain ⟨Ao75, co75, eo75⟩ := Kd.R_slice HO_9.out; subst eo75; have p217 : 0 ≤ ((rd ((rd_T29 l0 0).f2) (ji21)) : Int) := dt_; have q217 : (rd ((rd_T29 l0 0).f2) (ji21)) < (x9_3.length : Int) := dt_; obtain ⟨ad217, e217, hx217_0⟩ := Kd.at_int (Kd.R_reads' HO_9.out).2.2 (rd ((rd_T29 l0 0).f2) (ji21)) p217 q217; cases e217; replace p217 := eq_true p217; replace q217 := eq_true q217; have p71 : 0 ≤ ((rd ((rd_T29 l0 0).f2) (ji18)) : Int) := dt_; have q71 : ((rd ((rd_T29 l0 0).f2) (ji18)) : Int) < ((x8_3.length : Int) : Int) := dt_; obtain ⟨go71, co71, eo71, gb71, gl71, cl71, HG71⟩ := Kd.R_form HO_8.out (by omega); (first | cases eo71 | (injection eo71 with ea_ en_ ec_; (first | subst ea_ | (injection ea_ with ea_; subst ea_)); subst ec_; clear en_)); have GB71 := mkA gb71; have GG71 := mkA HG71; clear gb71 gl71 HG71; (first | simp only [add_plain] at hx209_0 | skip); obtain ⟨hx71_0, hf71_0⟩ := Kd.R_celln 0 HO_8.out ((rd ((rd_T29 l0 0).f2) (ji18)) : Int) p71 q71; replace p71 := eq_true p71; replace q71 := eq_true q71; obtain ⟨hy76_, hz76_⟩ := Kd.R_celln 0 HO_8.out ((rd ((rd_T29 l0 0).f2) (ji18)) : Int) (dt_) (dt_); have HP76 := Kd.R_putg HO_8.out ((rd ((rd_T29 l0 0).f2) (ji18)) : Int) (rd ((rd_T29 l0 0).f2) (ji21))) | ((with_reducible refine gate_store (t := 2) (p := 113) rfl ?_); (try (rw [drewN_self w73]; generalize hq_ : World.drewN w73 _ = w73; have n0_ := mkA (Kd.R_at hq_ HO_8.out); have n1_ := mkA (Kd.R_at hq_ HO_9.out); have n2_ := mkA (below_at hq_ HB.out); clear hq_ HO_8 HO_9 HB; have HO_8 := n0_; have HO_9 := n1_; have HB := n2_; clear n0_ n1_ n2_; (try (obtain ⟨hy76_, hz76_⟩ := Kd.R_celln 0 HO_8.out ((rd ((rd_T29 l0 0).f2) (ji18)) : Int) (dt_) (dt_))); (try (have HP76 := Kd.R_putg HO_8.out ((rd ((rd_T29 l0 0).f2) (ji18)) : Int) (rd ((rd_T29 l0 0).f2) (ji21)))))); refine store_event (t := 2) (p := 113) (v := ?vo_w77) (w1 := (w73.setCell ⟨go71, ((rd ((rd_T29 l0 0).f2) (ji18)) : Int).toNat, none⟩ (.int .i64 (rd ((rd_T29 l0 0).f2) (ji21))))) ?hg ?ho ?hn ?hr ?_; (case ho => rfl); (case hg => rfl); (case hn => rfl); (case hr => first | (go_simp; done) | (go_simp; rfl)); intro w77 hw; have hg : w73.grownBy w77 (some go71) := (by rw [hw]; exact HP76.2); have hp_ : Kd.R (Kd.int .i64) 2 w77 w.heap.size (fun k_ => some k_ ≠ (.slice (some ad217) x9_3.length co75 : Value).ownBlock) (.slice (some ⟨go71, 0, none⟩) x8_3.length co74) y221 := (by rw [hw, Ny221.out]; exact HP76.1); clear HP76; have n0_ := mkA (hp_); have n1_ := mkA (Kd.R_after (v := (.slice (some ⟨go71, 0, none⟩) x8_3.length co74)) (v1 := (.slice (some ⟨go71, 0, none⟩) x8_3.length co74)) (ok := (fun _ => True)) (by (with_reducible repeat (first | apply Kd.R_alloc | apply Kd.R_drewN | apply Kd.R_drew)); exact Kd.R_mono HO_9.out (fun _ hk => ⟨trivial, hk⟩)) hg (.inl rfl)); have n2_ := mkA ((by rw [hw]; exact below_set (HB.out) GB71.out : Below w.heap.size w w77)); clear HO_8; clear HO_9; clear HB; have HO_8 := n0_; have HO_9 := n1_; have HB := n2_; clear n0_ n1_ n2_; clear hg hw hp_; have p72 : 0 ≤ ((rd ((rd_T29 l0 0).f2) (ji21)) : Int) := dt_; have q72 : ((rd ((rd_T29 l0 0).f2) (ji21)) : Int) < ((x9_3.length : Int) : Int) := dt_; obtain ⟨go72, co72, eo72, gb72, gl72, cl72, HG72⟩ := Kd.R_form HO_9.out (by omega); (first | cases eo72 | (injection eo72 with ea_ en_ ec_; (first | subst ea_ | (injection ea_ with ea_; subst ea_)); subst ec_; clear en_)); have GB72 := mkA gb72; have GG72 := mkA HG72; clear gb72 gl72 HG72; (first | simp only [add_plain] at hx217_0 | skip); (first | simp only [add_plain] at hx218_0 | skip); obtain ⟨hx72_0, hf72_0⟩ := Kd.R_celln 0 HO_9.out ((rd ((rd_T29 l0 0).f2) (ji21)) : Int) p72 q72; replace p72 := eq_true p72; replace q72 := eq_true q72; have n_ := mkA (Kd.R_mono (ok' := (fun k_ => some k_ ≠ (.slice (some ⟨go71, 0, none⟩) x8_3.length co74 : Value).ownBlock)) HO_9.out (fun k_ hk => hk.2)); clear HO_9; have HO_9 := n_; clear n_; obtain ⟨hy78_, hz78_⟩ := Kd.R_celln 0 HO_9.out ((rd ((rd_T29 l0 0).f2) (ji21)) : Int) (dt_) (dt_); have HP78 := Kd.R_putg HO_9.out ((rd ((rd_T29 l0 0).f2) (ji21)) : Int) (rd ((rd_T29 l0 0).f2) (ji18))) | ((with_reducible refine gate_store (t := 2) (p := 117) rfl ?_); (try (rw [drewN_self w77]; generalize hq_ : World.drewN w77 _ = w77; have n0_ := mkA (Kd.R_at hq_ HO_8.out); have n1_ := mkA (Kd.R_at hq_ HO_9.out); have n2_ := mkA (below_at hq_ HB.out); clear hq_ HO_8 HO_9 HB; have HO_8 := n0_; have HO_9 := n1_; have HB := n2_; clear n0_ n1_ n2_; (try (have n_ := mkA (Kd.R_mono (ok' := (fun k_ => some k_ ≠ (.slice (some ⟨go71, 0, none⟩) x8_3.length co74 : Value).ownBlock)) HO_9.out (fun k_ hk => hk.2)); clear HO_9; have HO_9 := n_; clear n_)); (try (obtain ⟨hy78_, hz78_⟩ := Kd.R_celln 0 HO_9.out ((rd ((rd_T29 l0 0).f2) (ji21)) : Int) (dt_) (dt_))); (try (have HP78 := Kd.R_putg HO_9.out ((rd ((rd_T29 l0 0).f2) (ji21)) : Int) (rd ((rd_T29 l0 0).f2) (ji18)))))); refine store_event (t := 2) (p := 117) (v := ?vo_w79) (w1 := (w77.setCell ⟨go72, ((rd ((rd_T29 l0 0).f2) (ji21)) : Int).toNat, none⟩ (.int .i64 (rd ((rd_T29 l0 0).f2) (ji18))))) ?hg ?ho ?hn ?hr ?_; (case ho => rfl); (case hg => rfl); (case hn => rfl); (case hr => first | (go_simp; done) | (go_simp; rfl)); intro w79 hw; have hg : w77.grownBy w79 (some go72) := (by rw [hw]; exact HP78.2); have hp_ : Kd.R (Kd.int .i64) 2 w79 w.heap.size (fun k_ => some k_ ≠ (.slice (some ⟨go71, 0, none⟩) x8_3.length co74 : Value).ownBlock) (.slice (some ⟨go72, 0, none⟩) x9_3.length co75) y222 := (by rw [hw, Ny222.out]; exact HP78.1); clear HP78; have n0_ := mkA (Kd.R_after (v := (.slice (some ⟨go72, 0, none⟩) x9_3.length co75)) (v1 := (.slice (some ⟨go72, 0, none⟩) x9_3.length co75)) (ok := (fun _ => True)) (by (with_reducible repeat (first | apply Kd.R_alloc | apply Kd.R_drewN | apply Kd.R_drew)); exact Kd.R_mono HO_8.out (fun _ hk => ⟨trivial, hk⟩)) hg (.inl rfl)); have n1_ := mkA (hp_); have n2_ := mkA ((by rw [hw]; exact below_set (HB.out) GB72.out : Below w.heap.size w w79)); clear HO_8; clear HO_9; clear HB; have HO_8 := n0_; have HO_9 := n1_; have HB := n2_; clear n0_ n1_ n2_; clear hg hw hp_)); try (go_quiet (fail); have gt_ := trivial))
             go_roundg k3
             case measure => have := HK1.out; have := HK2.out; have := HK3.out; omega
             case rel => exact ⟨(y221), (y222), (wrap64 (x12_3 + 1)), (by first | rfl | (simp; done) | (simp [*]; done) | (simp [i64_w, i32_w]; done)), H', ⟨by have := HK1.out; have := HK2.out; have := HK3.out; omega⟩, ⟨by (with_reducible repeat (first | apply Kd.R_alloc | apply Kd.R_drewN | apply Kd.R_drew)); exact Kd.R_mono HO_8.out (fun _ hk => hk.2)⟩, ⟨by (with_reducible repeat (first | apply Kd.R_alloc | apply Kd.R_drewN | apply Kd.R_drew)); exact HO_9.out⟩, ⟨by repeat (first | (with_reducible first | exact HB.out | apply below_alloc | apply pw_below_drewN | apply below_drew1) | exact HB.out)⟩⟩
           rw [if_pos c57] at H
           have c57b0 : decide (0 ≤ (rd x9_3 (rd ((rd_T29 l0 0).f2) (ji21)))) = true := decide_eq_true c57
           clear c57
           by_cases c58 : (rd x9_3 (rd ((rd_T29 l0 0).f2) (ji21))) = (rd ((rd_T29 l0 0).f2) (ji18))
           rotate_left
           · rw [if_neg c58] at H
             have c58b0 : ((rd x9_3 (rd ((rd_T29 l0 0).f2) (ji21))) == (rd ((rd_T29 l0 0).f2) (ji18))) = false := beq_eq_false_iff_ne.mpr c58
             have c58b1 : ((rd x9_3 (rd ((rd_T29 l0 0).f2) (ji21))) != (rd ((rd_T29 l0 0).f2) (ji18))) = true := bne_iff_ne.mpr c58
             simp only [Option.some.injEq, Prod.mk.injEq] at H
             obtain ⟨rfl, rfl⟩ := H
             have p200 : 0 ≤ (0 : Int) := (by omega)
             have q200 : 0 < (l0.length : Int) := dt_
             obtain ⟨ad200, A200_2, c200_2, e200, hx200_0, hx200_1, hx200_2, hl200_2, hi200_2⟩ := at0_T29 HR0.out q200
             obtain rfl : ad199 = ad200 := (by injection e200)
             have qi200 : (0 < l0.length) = True := eq_true (by omega)
             replace hx200_0 := bc_ HB.out hx200_0
             replace hx200_1 := bc_ HB.out hx200_1
             replace hx200_2 := bc_ HB.out hx200_2
             have HR200_2 := mkA hi200_2
             have HC200_2 := mkA hl200_2
             clear hi200_2 hl200_2
             replace p200 := eq_true p200
             replace q200 := eq_true q200
             have gt_ := trivial; repeat (clear gt_; try go_wp2_with (first | (go_at_call 58; (with_reducible refine (spec_l18Move.calls k3 _ l0 _ l1 x12_3 x11_2 t201 t202 _ ?side1 ?side2 A17.out).mono ?_); (case side1 => exact cb_ HR0.out HB.out); (case side2 => exact cb_ HR1.out HB.out); rintro e w68 ⟨rfl, hb⟩; have n0_ := mkA (Kd.R_below (by (with_reducible repeat (first | apply Kd.R_alloc | apply Kd.R_drewN | apply Kd.R_drew)); exact HO_8.out) hb); have n1_ := mkA (Kd.R_below (by (with_reducible repeat (first | apply Kd.R_alloc | apply Kd.R_drewN | apply Kd.R_drew)); exact HO_9.out) hb); have n2_ := mkA (below_step (bs0_ HB.out) hb); clear HO_8; clear HO_9; clear HB; have HO_8 := n0_; have HO_9 := n1_; have HB := n2_; clear n0_ n1_ n2_; (try clear hb); (try clear hb2); (try clear hk); (try clear hi); have p203 : 0 ≤ (0 : Int) := (by omega); have q203 : 0 < (l0.length : Int) := dt_; obtain ⟨ad203, A203_2, c203_2, e203, hx203_0, hx203_1, hx203_2, hl203_2, hi203_2⟩ := at0_T29 HR0.out q203; obtain rfl : ad199 = ad203 := (by injection e203); have qi203 : (0 < l0.length) = True := eq_true (by omega); replace hx203_0 := bc_ HB.out hx203_0; replace hx203_1 := bc_ HB.out hx203_1; replace hx203_2 := bc_ HB.out hx203_2; have HR203_2 := mkA hi203_2; have HC203_2 := mkA hl203_2; clear hi203_2 hl203_2; replace p203 := eq_true p203; replace q203 := eq_true q203; have p204 : 0 ≤ (0 : Int) := (by omega); have q204 : 0 < (l0.length : Int) := dt_; obtain ⟨ad204, A204_2, c204_2, e204, hx204_0, hx204_1, hx204_2, hl204_2, hi204_2⟩ := at0_T29 HR0.out q204; obtain rfl : ad199 = ad204 := (by injection e204); have qi204 : (0 < l0.length) = True := eq_true (by omega); replace hx204_0 := bc_ HB.out hx204_0; replace hx204_1 := bc_ HB.out hx204_1; replace hx204_2 := bc_ HB.out hx204_2; have HR204_2 := mkA hi204_2; have HC204_2 := mkA hl204_2; clear hi204_2 hl204_2; replace p204 := eq_true p204; replace q204 := eq_true q204; have ea_ := Option.some.inj (hx203_2.symm.trans hx204_2); injection ea_ with ea_ en_ ec_; subst ea_; subst ec_; clear en_; have p205 : 0 ≤ ((ji18) : Int) := dt_; have q205 : (ji18) < (((rd_T29 l0 0).f2).length : Int) := dt_; obtain ⟨ad205, e205, hx205_0⟩ := Kd.at_int HR203_2.out (ji18) p205 q205; cases e205; replace hx205_0 := bc_ HB.out hx205_0; replace p205 := eq_true p205; replace q205 := eq_true q205; have p206 : 0 ≤ (0 : Int) := (by omega); have q206 : 0 < (l0.length : Int) := dt_; obtain ⟨ad206, A206_2, c206_2, e206, hx206_0, hx206_1, hx206_2, hl206_2, hi206_2⟩ := at0_T29 HR0.out q206; obtain rfl : ad199 = ad206 := (by injection e206); have qi206 : (0 < l0.length) = True := eq_true (by omega); replace hx206_0 := bc_ HB.out hx206_0; replace hx206_1 := bc_ HB.out hx206_1; replace hx206_2 := bc_ HB.out hx206_2; have HR206_2 := mkA hi206_2; have HC206_2 := mkA hl206_2; clear hi206_2 hl206_2; replace p206 := eq_true p206; replace q206 := eq_true q206; have ea_ := Option.some.inj (hx203_2.symm.trans hx206_2); injection ea_ with ea_ en_ ec_; subst ea_; subst ec_; clear en_; have p207 : 0 ≤ (0 : Int) := (by omega); have q207 : 0 < (l0.length : Int) := dt_; obtain ⟨ad207, A207_2, c207_2, e207, hx207_0, hx207_1, hx207_2, hl207_2, hi207_2⟩ := at0_T29 HR0.out q207; obtain rfl : ad199 = ad207 := (by injection e207); have qi207 : (0 < l0.length) = True := eq_true (by omega); replace hx207_0 := bc_ HB.out hx207_0; replace hx207_1 := bc_ HB.out hx207_1; replace hx207_2 := bc_ HB.out hx207_2; have HR207_2 := mkA hi207_2; have HC207_2 := mkA hl207_2; clear hi207_2 hl207_2; replace p207 := eq_true p207; replace q207 := eq_true q207; have ea_ := Option.some.inj (hx203_2.symm.trans hx207_2); injection ea_ with ea_ en_ ec_; subst ea_; subst ec_; clear en_; have p208 : 0 ≤ ((ji21) : Int) := dt_; have q208 : (ji21) < (((rd_T29 l0 0).f2).length : Int) := dt_; obtain ⟨ad208, e208, hx208_0⟩ := Kd.at_int HR206_2.out (ji21) p208 q208; obtain rfl : ad205 = ad208 := (by injection e208); replace hx208_0 := bc_ HB.out hx208_0; replace p208 := eq_true p208; replace q208 := eq_true q208; obtain ⟨Ao69, co69, eo69⟩ := Kd.R_slice HO_8.out; subst eo69; have p209 : 0 ≤ ((rd ((rd_T29 l0 0).f2) (ji18)) : Int) := dt_; have q209 : (rd ((rd_T29 l0 0).f2) (ji18)) < (x8_3.length : Int) := dt_; obtain ⟨ad209, e209, hx209_0⟩ := Kd.at_int (Kd.R_reads' HO_8.out).2.2 (rd ((rd_T29 l0 0).f2) (ji18)) p209 q209; cases e209; replace p209 := eq_true p209; replace q209 := eq_true q209; obtain ⟨Ao70, co70, eo70⟩ := Kd.R_slice HO_9.out; subst eo70; have p217 : 0 ≤ ((rd ((rd_T29 l0 0).f2) (ji21)) : Int) := dt_; have q217 : (rd ((rd_T29 l0 0).f2) (ji21)) < (x9_3.length : Int) := dt_; obtain ⟨ad217, e217, hx217_0⟩ := Kd.at_int (Kd.R_reads' HO_9.out).2.2 (rd ((rd_T29 l0 0).f2) (ji21)) p217 q217; cases e217; replace p217 := eq_true p217; replace q217 := eq_true q217; have p218 : 0 ≤ ((rd ((rd_T29 l0 0).f2) (ji21)) : Int) := dt_; have q218 : (rd ((rd_T29 l0 0).f2) (ji21)) < (x9_3.length : Int) := dt_; obtain ⟨ad218, e218, hx218_0⟩ := Kd.at_int (Kd.R_reads' HO_9.out).2.2 (rd ((rd_T29 l0 0).f2) (ji21)) p218 q218; obtain rfl : ad217 = ad218 := (by injection e218); replace p218 := eq_true p218; replace q218 := eq_true q218)); try (go_quiet (fail); have gt_ := trivial))
             go_ret2
             exact ⟨_, by first | rfl | (simp [errW_none, errW_some] <;> rfl) | (simp only [← hji18, ← hji21]; first | rfl | (simp [errW_none, errW_some] <;> rfl)) | (simp [*, errW_none, errW_some] <;> rfl), by first | exact Kd.R_nil _ _ _ _ _ | exact Kd.N_nil _ _ _ _ _ | exact Kd.V_nil _ _ _ _ _ | exact Kd.Q_nil _ _ _ _ _ | exact Kd.S_nil _ _ _ _ _, by repeat (first | (with_reducible first | exact HB.out | apply below_alloc | apply pw_below_drewN | apply below_drew1) | exact HB.out)⟩
           rw [if_pos c58] at H
           have c58b0 : ((rd x9_3 (rd ((rd_T29 l0 0).f2) (ji21))) == (rd ((rd_T29 l0 0).f2) (ji18))) = true := beq_iff_eq.mpr c58
           have c58b1 : ((rd x9_3 (rd ((rd_T29 l0 0).f2) (ji21))) != (rd ((rd_T29 l0 0).f2) (ji18))) = false := bne_eq_false_iff_eq.mpr c58
           clear c58
           obtain ⟨y219, hy219⟩ : ∃ y_ : List Int, y_ = (x8_3.set ((rd ((rd_T29 l0 0).f2) (ji18)) : Int).toNat (rd ((rd_T29 l0 0).f2) (ji21))) := ⟨_, rfl⟩
           replace H : (spec_l18Images.l2 k3 y219 (x9_3.set ((rd ((rd_T29 l0 0).f2) (ji21)) : Int).toNat (rd ((rd_T29 l0 0).f2) (ji18))) x11_2 (wrap64 (x12_3 + 1)) l0 l1) = some (r1, r2) := by first | (rw [hy219]; with_reducible exact H) | (have H2_ := (Option.bind_some _ _).symm.trans H; rw [hy219]; with_reducible exact H2_) | (have H2_ := (Option.bind_some _ _).symm.trans H; with_reducible exact H2_) | with_reducible exact H | (rw [hy219]; exact H) | exact H
           have Ny219 := mkA hy219
           clear hy219
           obtain ⟨y220, hy220⟩ : ∃ y_ : List Int, y_ = (x9_3.set ((rd ((rd_T29 l0 0).f2) (ji21)) : Int).toNat (rd ((rd_T29 l0 0).f2) (ji18))) := ⟨_, rfl⟩
           replace H : (spec_l18Images.l2 k3 y219 y220 x11_2 (wrap64 (x12_3 + 1)) l0 l1) = some (r1, r2) := by first | (rw [hy220]; with_reducible exact H) | (have H2_ := (Option.bind_some _ _).symm.trans H; rw [hy220]; with_reducible exact H2_) | (have H2_ := (Option.bind_some _ _).symm.trans H; with_reducible exact H2_) | with_reducible exact H | (rw [hy220]; exact H) | exact H
           have Ny220 := mkA hy220
           clear hy220
           have H' := mkA H
           clear H
           have p200 : 0 ≤ (0 : Int) := (by omega)
           have q200 : 0 < (l0.length : Int) := dt_
           obtain ⟨ad200, A200_2, c200_2, e200, hx200_0, hx200_1, hx200_2, hl200_2, hi200_2⟩ := at0_T29 HR0.out q200
           obtain rfl : ad199 = ad200 := (by injection e200)
           have qi200 : (0 < l0.length) = True := eq_true (by omega)
           replace hx200_0 := bc_ HB.out hx200_0
           replace hx200_1 := bc_ HB.out hx200_1
           replace hx200_2 := bc_ HB.out hx200_2
           have HR200_2 := mkA hi200_2
           have HC200_2 := mkA hl200_2
           clear hi200_2 hl200_2
           replace p200 := eq_true p200
           replace q200 := eq_true q200
           have gt_ := trivial; repeat (clear gt_; try go_wp2_with (first | (go_at_call 58; (with_reducible refine (spec_l18Move.calls k3 _ l0 _ l1 x12_3 x11_2 t201 t202 _ ?side1 ?side2 A17.out).mono ?_); (case side1 => exact cb_ HR0.out HB.out); (case side2 => exact cb_ HR1.out HB.out); rintro e w61 ⟨rfl, hb⟩; have n0_ := mkA (Kd.R_below (by (with_reducible repeat (first | apply Kd.R_alloc | apply Kd.R_drewN | apply Kd.R_drew)); exact HO_8.out) hb); have n1_ := mkA (Kd.R_below (by (with_reducible repeat (first | apply Kd.R_alloc | apply Kd.R_drewN | apply Kd.R_drew)); exact HO_9.out) hb); have n2_ := mkA (below_step (bs0_ HB.out) hb); clear HO_8; clear HO_9; clear HB; have HO_8 := n0_; have HO_9 := n1_; have HB := n2_; clear n0_ n1_ n2_; (try clear hb); (try clear hb2); (try clear hk); (try clear hi); have p203 : 0 ≤ (0 : Int) := (by omega); have q203 : 0 < (l0.length : Int) := dt_; obtain ⟨ad203, A203_2, c203_2, e203, hx203_0, hx203_1, hx203_2, hl203_2, hi203_2⟩ := at0_T29 HR0.out q203; obtain rfl : ad199 = ad203 := (by injection e203); have qi203 : (0 < l0.length) = True := eq_true (by omega); replace hx203_0 := bc_ HB.out hx203_0; replace hx203_1 := bc_ HB.out hx203_1; replace hx203_2 := bc_ HB.out hx203_2; have HR203_2 := mkA hi203_2; have HC203_2 := mkA hl203_2; clear hi203_2 hl203_2; replace p203 := eq_true p203; replace q203 := eq_true q203; have p204 : 0 ≤ (0 : Int) := (by omega); have q204 : 0 < (l0.length : Int) := dt_; obtain ⟨ad204, A204_2, c204_2, e204, hx204_0, hx204_1, hx204_2, hl204_2, hi204_2⟩ := at0_T29 HR0.out q204; obtain rfl : ad199 = ad204 := (by injection e204); have qi204 : (0 < l0.length) = True := eq_true (by omega); replace hx204_0 := bc_ HB.out hx204_0; replace hx204_1 := bc_ HB.out hx204_1; replace hx204_2 := bc_ HB.out hx204_2; have HR204_2 := mkA hi204_2; have HC204_2 := mkA hl204_2; clear hi204_2 hl204_2; replace p204 := eq_true p204; replace q204 := eq_true q204; have ea_ := Option.some.inj (hx203_2.symm.trans hx204_2); injection ea_ with ea_ en_ ec_; subst ea_; subst ec_; clear en_; have p205 : 0 ≤ ((ji18) : Int) := dt_; have q205 : (ji18) < (((rd_T29 l0 0).f2).length : Int) := dt_; obtain ⟨ad205, e205, hx205_0⟩ := Kd.at_int HR203_2.out (ji18) p205 q205; cases e205; replace hx205_0 := bc_ HB.out hx205_0; replace p205 := eq_true p205; replace q205 := eq_true q205; have p206 : 0 ≤ (0 : Int) := (by omega); have q206 : 0 < (l0.length : Int) := dt_; obtain ⟨ad206, A206_2, c206_2, e206, hx206_0, hx206_1, hx206_2, hl206_2, hi206_2⟩ := at0_T29 HR0.out q206; obtain rfl : ad199 = ad206 := (by injection e206); have qi206 : (0 < l0.length) = True := eq_true (by omega); replace hx206_0 := bc_ HB.out hx206_0; replace hx206_1 := bc_ HB.out hx206_1; replace hx206_2 := bc_ HB.out hx206_2; have HR206_2 := mkA hi206_2; have HC206_2 := mkA hl206_2; clear hi206_2 hl206_2; replace p206 := eq_true p206; replace q206 := eq_true q206; have ea_ := Option.some.inj (hx203_2.symm.trans hx206_2); injection ea_ with ea_ en_ ec_; subst ea_; subst ec_; clear en_; have p207 : 0 ≤ (0 : Int) := (by omega); have q207 : 0 < (l0.length : Int) := dt_; obtain ⟨ad207, A207_2, c207_2, e207, hx207_0, hx207_1, hx207_2, hl207_2, hi207_2⟩ := at0_T29 HR0.out q207; obtain rfl : ad199 = ad207 := (by injection e207); have qi207 : (0 < l0.length) = True := eq_true (by omega); replace hx207_0 := bc_ HB.out hx207_0; replace hx207_1 := bc_ HB.out hx207_1; replace hx207_2 := bc_ HB.out hx207_2; have HR207_2 := mkA hi207_2; have HC207_2 := mkA hl207_2; clear hi207_2 hl207_2; replace p207 := eq_true p207; replace q207 := eq_true q207; have ea_ := Option.some.inj (hx203_2.symm.trans hx207_2); injection ea_ with ea_ en_ ec_; subst ea_; subst ec_; clear en_; have p208 : 0 ≤ ((ji21) : Int) := dt_; have q208 : (ji21) < (((rd_T29 l0 0).f2).length : Int) := dt_; obtain ⟨ad208, e208, hx208_0⟩ := Kd.at_int HR206_2.out (ji21) p208 q208; obtain rfl : ad205 = ad208 := (by injection e208); replace hx208_0 := bc_ HB.out hx208_0; replace p208 := eq_true p208; replace q208 := eq_true q208; obtain ⟨Ao62, co62, eo62⟩ := Kd.R_slice HO_8.out; subst eo62; have p209 : 0 ≤ ((rd ((rd_T29 l0 0).f2) (ji18)) : Int) := dt_; have q209 : (rd ((rd_T29 l0 0).f2) (ji18)) < (x8_3.length : Int) := dt_; obtain ⟨ad209, e209, hx209_0⟩ := Kd.at_int (Kd.R_reads' HO_8.out).2.2 (rd ((rd_T29 l0 0).f2) (ji18)) p209 q209; cases e209; replace p209 := eq_true p209; replace q209 := eq_true q209; obtain ⟨Ao63, co63, eo63⟩ := Kd.R_slice HO_9.out; subst eo63; have p217 : 0 ≤ ((rd ((rd_T29 l0 0).f2) (ji21)) : Int) := dt_; have q217 : (rd ((rd_T29 l0 0).f2) (ji21)) < (x9_3.length : Int) := dt_; obtain ⟨ad217, e217, hx217_0⟩ := Kd.at_int (Kd.R_reads' HO_9.out).2.2 (rd ((rd_T29 l0 0).f2) (ji21)) p217 q217; cases e217; replace p217 := eq_true p217; replace q217 := eq_true q217; have p218 : 0 ≤ ((rd ((rd_T29 l0 0).f2) (ji21)) : Int) := dt_; have q218 : (rd ((rd_T29 l0 0).f2) (ji21)) < (x9_3.length : Int) := dt_; obtain ⟨ad218, e218, hx218_0⟩ := Kd.at_int (Kd.R_reads' HO_9.out).2.2 (rd ((rd_T29 l0 0).f2) (ji21)) p218 q218; obtain rfl : ad217 = ad218 := (by injection e218); replace p218 := eq_true p218; replace q218 := eq_true q218; have p59 : 0 ≤ ((rd ((rd_T29 l0 0).f2) (ji18)) : Int) := dt_; have q59 : ((rd ((rd_T29 l0 0).f2) (ji18)) : Int) < ((x8_3.length : Int) : Int) := dt_; obtain ⟨go59, co59, eo59, gb59, gl59, cl59, HG59⟩ := Kd.R_form HO_8.out (by omega); (first | cases eo59 | (injection eo59 with ea_ en_ ec_; (first | subst ea_ | (injection ea_ with ea_; subst ea_)); subst ec_; clear en_)); have GB59 := mkA gb59; have GG59 := mkA HG59; clear gb59 gl59 HG59; (first | simp only [add_plain] at hx209_0 | skip); (first | simp only [add_plain] at hx210_0 | skip); obtain ⟨hx59_0, hf59_0⟩ := Kd.R_celln 0 HO_8.out ((rd ((rd_T29 l0 0).f2) (ji18)) : Int) p59 q59; replace p59 := eq_true p59; replace q59 := eq_true q59; obtain ⟨hy64_, hz64_⟩ := Kd.R_celln 0 HO_8.out ((rd ((rd_T29 l0 0).f2) (ji18)) : Int) (dt_) (dt_); have HP64 := Kd.R_putg HO_8.out ((rd ((rd_T29 l0 0).f2) (ji18)) : Int) (rd ((rd_T29 l0 0).f2) (ji21))) | ((with_reducible refine gate_store (t := 2) (p := 113) rfl ?_); (try (rw [drewN_self w61]; generalize hq_ : World.drewN w61 _ = w61; have n0_ := mkA (Kd.R_at hq_ HO_8.out); have n1_ := mkA (Kd.R_at hq_ HO_9.out); have n2_ := mkA (below_at hq_ HB.out); clear hq_ HO_8 HO_9 HB; have HO_8 := n0_; have HO_9 := n1_; have HB := n2_; clear n0_ n1_ n2_; (try (obtain ⟨hy64_, hz64_⟩ := Kd.R_celln 0 HO_8.out ((rd ((rd_T29 l0 0).f2) (ji18)) : Int) (dt_) (dt_))); (try (have HP64 := Kd.R_putg HO_8.out ((rd ((rd_T29 l0 0).f2) (ji18)) : Int) (rd ((rd_T29 l0 0).f2) (ji21)))))); refine store_event (t := 2) (p := 113) (v := ?vo_w65) (w1 := (w61.setCell ⟨go59, ((rd ((rd_T29 l0 0).f2) (ji18)) : Int).toNat, none⟩ (.int .i64 (rd ((rd_T29 l0 0).f2) (ji21))))) ?hg ?ho ?hn ?hr ?_; (case ho => rfl); (case hg => rfl); (case hn => rfl); (case hr => first | (go_simp; done) | (go_simp; rfl)); intro w65 hw; have hg : w61.grownBy w65 (some go59) := (by rw [hw]; exact HP64.2); have hp_ : Kd.R (Kd.int .i64) 2 w65 w.heap.size (fun k_ => some k_ ≠ (.slice (some ad217) x9_3.length co63 : Value).ownBlock) (.slice (some ⟨go59, 0, none⟩) x8_3.length co62) y219 := (by rw [hw, Ny219.out]; exact HP64.1); clear HP64; have n0_ := mkA (hp_); have n1_ := mkA (Kd.R_after (v := (.slice (some ⟨go59, 0, none⟩) x8_3.length co62)) (v1 := (.slice (some ⟨go59, 0, none⟩) x8_3.length co62)) (ok := (fun _ => True)) (by (with_reducible repeat (first | apply Kd.R_alloc | apply Kd.R_drewN | apply Kd.R_drew)); exact Kd.R_mono HO_9.out (fun _ hk => ⟨trivial, hk⟩)) hg (.inl rfl)); have n2_ := mkA ((by rw [hw]; exact below_set (HB.out) GB59.out : Below w.heap.size w w65)); clear HO_8; clear HO_9; clear HB; have HO_8 := n0_; have HO_9 := n1_; have HB := n2_; clear n0_ n1_ n2_; clear hg hw hp_; have p60 : 0 ≤ ((rd ((rd_T29 l0 0).f2) (ji21)) : Int) := dt_; have q60 : ((rd ((rd_T29 l0 0).f2) (ji21)) : Int) < ((x9_3.length : Int) : Int) := dt_; obtain ⟨go60, co60, eo60, gb60, gl60, cl60, HG60⟩ := Kd.R_form HO_9.out (by omega); (first | cases eo60 | (injection eo60 with ea_ en_ ec_; (first | subst ea_ | (injection ea_ with ea_; subst ea_)); subst ec_; clear en_)); have GB60 := mkA gb60; have GG60 := mkA HG60; clear gb60 gl60 HG60; (first | simp only [add_plain] at hx217_0 | skip); (first | simp only [add_plain] at hx218_0 | skip); obtain ⟨hx60_0, hf60_0⟩ := Kd.R_celln 0 HO_9.out ((rd ((rd_T29 l0 0).f2) (ji21)) : Int) p60 q60; replace p60 := eq_true p60; replace q60 := eq_true q60; have n_ := mkA (Kd.R_mono (ok' := (fun k_ => some k_ ≠ (.slice (some ⟨go59, 0, none⟩) x8_3.length co62 : Value).ownBlock)) HO_9.out (fun k_ hk => hk.2)); clear HO_9; have HO_9 := n_; clear n_; obtain ⟨hy66_, hz66_⟩ := Kd.R_celln 0 HO_9.out ((rd ((rd_T29 l0 0).f2) (ji21)) : Int) (dt_) (dt_); have HP66 := Kd.R_putg HO_9.out ((rd ((rd_T29 l0 0).f2) (ji21)) : Int) (rd ((rd_T29 l0 0).f2) (ji18))) | ((with_reducible refine gate_store (t := 2) (p := 117) rfl ?_); (try (rw [drewN_self w65]; generalize hq_ : World.drewN w65 _ = w65; have n0_ := mkA (Kd.R_at hq_ HO_8.out); have n1_ := mkA (Kd.R_at hq_ HO_9.out); have n2_ := mkA (below_at hq_ HB.out); clear hq_ HO_8 HO_9 HB; have HO_8 := n0_; have HO_9 := n1_; have HB := n2_; clear n0_ n1_ n2_; (try (have n_ := mkA (Kd.R_mono (ok' := (fun k_ => some k_ ≠ (.slice (some ⟨go59, 0, none⟩) x8_3.length co62 : Value).ownBlock)) HO_9.out (fun k_ hk => hk.2)); clear HO_9; have HO_9 := n_; clear n_)); (try (obtain ⟨hy66_, hz66_⟩ := Kd.R_celln 0 HO_9.out ((rd ((rd_T29 l0 0).f2) (ji21)) : Int) (dt_) (dt_))); (try (have HP66 := Kd.R_putg HO_9.out ((rd ((rd_T29 l0 0).f2) (ji21)) : Int) (rd ((rd_T29 l0 0).f2) (ji18)))))); refine store_event (t := 2) (p := 117) (v := ?vo_w67) (w1 := (w65.setCell ⟨go60, ((rd ((rd_T29 l0 0).f2) (ji21)) : Int).toNat, none⟩ (.int .i64 (rd ((rd_T29 l0 0).f2) (ji18))))) ?hg ?ho ?hn ?hr ?_; (case ho => rfl); (case hg => rfl); (case hn => rfl); (case hr => first | (go_simp; done) | (go_simp; rfl)); intro w67 hw; have hg : w65.grownBy w67 (some go60) := (by rw [hw]; exact HP66.2); have hp_ : Kd.R (Kd.int .i64) 2 w67 w.heap.size (fun k_ => some k_ ≠ (.slice (some ⟨go59, 0, none⟩) x8_3.length co62 : Value).ownBlock) (.slice (some ⟨go60, 0, none⟩) x9_3.length co63) y220 := (by rw [hw, Ny220.out]; exact HP66.1); clear HP66; have n0_ := mkA (Kd.R_after (v := (.slice (some ⟨go60, 0, none⟩) x9_3.length co63)) (v1 := (.slice (some ⟨go60, 0, none⟩) x9_3.length co63)) (ok := (fun _ => True)) (by (with_reducible repeat (first | apply Kd.R_alloc | apply Kd.R_drewN | apply Kd.R_drew)); exact Kd.R_mono HO_8.out (fun _ hk => ⟨trivial, hk⟩)) hg (.inl rfl)); have n1_ := mkA (hp_); have n2_ := mkA ((by rw [hw]; exact below_set (HB.out) GB60.out : Below w.heap.size w w67)); clear HO_8; clear HO_9; clear HB; have HO_8 := n0_; have HO_9 := n1_; have HB := n2_; clear n0_ n1_ n2_; clear hg hw hp_)); try (go_quiet (fail); have gt_ := trivial))
           go_roundg k3
           case measure => have := HK1.out; have := HK2.out; have := HK3.out; omega
           case rel => exact ⟨(y219), (y220), (wrap64 (x12_3 + 1)), (by first | rfl | (simp; done) | (simp [*]; done) | (simp [i64_w, i32_w]; done)), H', ⟨by have := HK1.out; have := HK2.out; have := HK3.out; omega⟩, ⟨by (with_reducible repeat (first | apply Kd.R_alloc | apply Kd.R_drewN | apply Kd.R_drew)); exact Kd.R_mono HO_8.out (fun _ hk => hk.2)⟩, ⟨by (with_reducible repeat (first | apply Kd.R_alloc | apply Kd.R_drewN | apply Kd.R_drew)); exact HO_9.out⟩, ⟨by repeat (first | (with_reducible first | exact HB.out | apply below_alloc | apply pw_below_drewN | apply below_drew1) | exact HB.out)⟩⟩
         rw [if_pos c26] at H
         have c26b0 : decide (0 ≤ (rd x8_3 (rd ((rd_T29 l0 0).f2) (ji18)))) = true := decide_eq_true c26
         clear c26
         by_cases c27 : (rd x8_3 (rd ((rd_T29 l0 0).f2) (ji18))) = (rd ((rd_T29 l0 0).f2) (ji21))
         rotate_left
         · rw [if_neg c27] at H
           have c27b0 : ((rd x8_3 (rd ((rd_T29 l0 0).f2) (ji18))) == (rd ((rd_T29 l0 0).f2) (ji21))) = false := beq_eq_false_iff_ne.mpr c27
           have c27b1 : ((rd x8_3 (rd ((rd_T29 l0 0).f2) (ji18))) != (rd ((rd_T29 l0 0).f2) (ji21))) = true := bne_iff_ne.mpr c27
           simp only [Option.some.injEq, Prod.mk.injEq] at H
           obtain ⟨rfl, rfl⟩ := H
           have p200 : 0 ≤ (0 : Int) := (by omega)
           have q200 : 0 < (l0.length : Int) := dt_
           obtain ⟨ad200, A200_2, c200_2, e200, hx200_0, hx200_1, hx200_2, hl200_2, hi200_2⟩ := at0_T29 HR0.out q200
           obtain rfl : ad199 = ad200 := (by injection e200)
           have qi200 : (0 < l0.length) = True := eq_true (by omega)
           replace hx200_0 := bc_ HB.out hx200_0
           replace hx200_1 := bc_ HB.out hx200_1
           replace hx200_2 := bc_ HB.out hx200_2
           have HR200_2 := mkA hi200_2
           have HC200_2 := mkA hl200_2
           clear hi200_2 hl200_2
           replace p200 := eq_true p200
           replace q200 := eq_true q200
           have gt_ := trivial; repeat (clear gt_; try go_wp2_with (first | (go_at_call 58; (with_reducible refine (spec_l18Move.calls k3 _ l0 _ l1 x12_3 x11_2 t201 t202 _ ?side1 ?side2 A17.out).mono ?_); (case side1 => exact cb_ HR0.out HB.out); (case side2 => exact cb_ HR1.out HB.out); rintro e w53 ⟨rfl, hb⟩; have n0_ := mkA (Kd.R_below (by (with_reducible repeat (first | apply Kd.R_alloc | apply Kd.R_drewN | apply Kd.R_drew)); exact HO_8.out) hb); have n1_ := mkA (Kd.R_below (by (with_reducible repeat (first | apply Kd.R_alloc | apply Kd.R_drewN | apply Kd.R_drew)); exact HO_9.out) hb); have n2_ := mkA (below_step (bs0_ HB.out) hb); clear HO_8; clear HO_9; clear HB; have HO_8 := n0_; have HO_9 := n1_; have HB := n2_; clear n0_ n1_ n2_; (try clear hb); (try clear hb2); (try clear hk); (try clear hi); have p203 : 0 ≤ (0 : Int) := (by omega); have q203 : 0 < (l0.length : Int) := dt_; obtain ⟨ad203, A203_2, c203_2, e203, hx203_0, hx203_1, hx203_2, hl203_2, hi203_2⟩ := at0_T29 HR0.out q203; obtain rfl : ad199 = ad203 := (by injection e203); have qi203 : (0 < l0.length) = True := eq_true (by omega); replace hx203_0 := bc_ HB.out hx203_0; replace hx203_1 := bc_ HB.out hx203_1; replace hx203_2 := bc_ HB.out hx203_2; have HR203_2 := mkA hi203_2; have HC203_2 := mkA hl203_2; clear hi203_2 hl203_2; replace p203 := eq_true p203; replace q203 := eq_true q203; have p204 : 0 ≤ (0 : Int) := (by omega); have q204 : 0 < (l0.length : Int) := dt_; obtain ⟨ad204, A204_2, c204_2, e204, hx204_0, hx204_1, hx204_2, hl204_2, hi204_2⟩ := at0_T29 HR0.out q204; obtain rfl : ad199 = ad204 := (by injection e204); have qi204 : (0 < l0.length) = True := eq_true (by omega); replace hx204_0 := bc_ HB.out hx204_0; replace hx204_1 := bc_ HB.out hx204_1; replace hx204_2 := bc_ HB.out hx204_2; have HR204_2 := mkA hi204_2; have HC204_2 := mkA hl204_2; clear hi204_2 hl204_2; replace p204 := eq_true p204; replace q204 := eq_true q204; have ea_ := Option.some.inj (hx203_2.symm.trans hx204_2); injection ea_ with ea_ en_ ec_; subst ea_; subst ec_; clear en_; have p205 : 0 ≤ ((ji18) : Int) := dt_; have q205 : (ji18) < (((rd_T29 l0 0).f2).length : Int) := dt_; obtain ⟨ad205, e205, hx205_0⟩ := Kd.at_int HR203_2.out (ji18) p205 q205; cases e205; replace hx205_0 := bc_ HB.out hx205_0; replace p205 := eq_true p205; replace q205 := eq_true q205; have p206 : 0 ≤ (0 : Int) := (by omega); have q206 : 0 < (l0.length : Int) := dt_; obtain ⟨ad206, A206_2, c206_2, e206, hx206_0, hx206_1, hx206_2, hl206_2, hi206_2⟩ := at0_T29 HR0.out q206; obtain rfl : ad199 = ad206 := (by injection e206); have qi206 : (0 < l0.length) = True := eq_true (by omega); replace hx206_0 := bc_ HB.out hx206_0; replace hx206_1 := bc_ HB.out hx206_1; replace hx206_2 := bc_ HB.out hx206_2; have HR206_2 := mkA hi206_2; have HC206_2 := mkA hl206_2; clear hi206_2 hl206_2; replace p206 := eq_true p206; replace q206 := eq_true q206; have ea_ := Option.some.inj (hx203_2.symm.trans hx206_2); injection ea_ with ea_ en_ ec_; subst ea_; subst ec_; clear en_; have p207 : 0 ≤ (0 : Int) := (by omega); have q207 : 0 < (l0.length : Int) := dt_; obtain ⟨ad207, A207_2, c207_2, e207, hx207_0, hx207_1, hx207_2, hl207_2, hi207_2⟩ := at0_T29 HR0.out q207; obtain rfl : ad199 = ad207 := (by injection e207); have qi207 : (0 < l0.length) = True := eq_true (by omega); replace hx207_0 := bc_ HB.out hx207_0; replace hx207_1 := bc_ HB.out hx207_1; replace hx207_2 := bc_ HB.out hx207_2; have HR207_2 := mkA hi207_2; have HC207_2 := mkA hl207_2; clear hi207_2 hl207_2; replace p207 := eq_true p207; replace q207 := eq_true q207; have ea_ := Option.some.inj (hx203_2.symm.trans hx207_2); injection ea_ with ea_ en_ ec_; subst ea_; subst ec_; clear en_; have p208 : 0 ≤ ((ji21) : Int) := dt_; have q208 : (ji21) < (((rd_T29 l0 0).f2).length : Int) := dt_; obtain ⟨ad208, e208, hx208_0⟩ := Kd.at_int HR206_2.out (ji21) p208 q208; obtain rfl : ad205 = ad208 := (by injection e208); replace hx208_0 := bc_ HB.out hx208_0; replace p208 := eq_true p208; replace q208 := eq_true q208; obtain ⟨Ao54, co54, eo54⟩ := Kd.R_slice HO_8.out; subst eo54; have p209 : 0 ≤ ((rd ((rd_T29 l0 0).f2) (ji18)) : Int) := dt_; have q209 : (rd ((rd_T29 l0 0).f2) (ji18)) < (x8_3.length : Int) := dt_; obtain ⟨ad209, e209, hx209_0⟩ := Kd.at_int (Kd.R_reads' HO_8.out).2.2 (rd ((rd_T29 l0 0).f2) (ji18)) p209 q209; cases e209; replace p209 := eq_true p209; replace q209 := eq_true q209; have p210 : 0 ≤ ((rd ((rd_T29 l0 0).f2) (ji18)) : Int) := dt_; have q210 : (rd ((rd_T29 l0 0).f2) (ji18)) < (x8_3.length : Int) := dt_; obtain ⟨ad210, e210, hx210_0⟩ := Kd.at_int (Kd.R_reads' HO_8.out).2.2 (rd ((rd_T29 l0 0).f2) (ji18)) p210 q210; obtain rfl : ad209 = ad210 := (by injection e210); replace p210 := eq_true p210; replace q210 := eq_true q210)); try (go_quiet (fail); have gt_ := trivial))
           go_ret2
           exact ⟨_, by first | rfl | (simp [errW_none, errW_some] <;> rfl) | (simp only [← hji18, ← hji21]; first | rfl | (simp [errW_none, errW_some] <;> rfl)) | (simp [*, errW_none, errW_some] <;> rfl), by first | exact Kd.R_nil _ _ _ _ _ | exact Kd.N_nil _ _ _ _ _ | exact Kd.V_nil _ _ _ _ _ | exact Kd.Q_nil _ _ _ _ _ | exact Kd.S_nil _ _ _ _ _, by repeat (first | (with_reducible first | exact HB.out | apply below_alloc | apply pw_below_drewN | apply below_drew1) | exact HB.out)⟩
         rw [if_pos c27] at H
         have c27b0 : ((rd x8_3 (rd ((rd_T29 l0 0).f2) (ji18))) == (rd ((rd_T29 l0 0).f2) (ji21))) = true := beq_iff_eq.mpr c27
         have c27b1 : ((rd x8_3 (rd ((rd_T29 l0 0).f2) (ji18))) != (rd ((rd_T29 l0 0).f2) (ji21))) = false := bne_eq_false_iff_eq.mpr c27
         clear c27
         by_cases c28 : 0 ≤ (rd ((rd_T29 l0 0).f2) (ji21))
         rotate_left
         · rw [if_neg c28] at H
           exact absurd H (by simp)
         rw [if_pos c28] at H
         have c28b0 : decide (0 ≤ (rd ((rd_T29 l0 0).f2) (ji21))) = true := decide_eq_true c28
         clear c28
         by_cases c29 : (rd ((rd_T29 l0 0).f2) (ji21)) < (x9_3.length : Int)
         rotate_left
         · rw [if_neg c29] at H
           exact absurd H (by simp)
         rw [if_pos c29] at H
         have c29b0 : decide ((rd ((rd_T29 l0 0).f2) (ji21)) < (x9_3.length : Int)) = true := decide_eq_true c29
         clear c29
         by_cases c30 : (rd x9_3 (rd ((rd_T29 l0 0).f2) (ji21))) ≥ 0
         rotate_left
         · rw [if_neg c30] at H
           have c30b0 : decide (0 ≤ (rd x9_3 (rd ((rd_T29 l0 0).f2) (ji21)))) = false := decide_eq_false c30
           clear c30
           obtain ⟨y215, hy215⟩ : ∃ y_ : List Int, y_ = (x8_3.set ((rd ((rd_T29 l0 0).f2) (ji18)) : Int).toNat (rd ((rd_T29 l0 0).f2) (ji21))) := ⟨_, rfl⟩
           replace H : (spec_l18Images.l2 k3 y215 (x9_3.set ((rd ((rd_T29 l0 0).f2) (ji21)) : Int).toNat (rd ((rd_T29 l0 0).f2) (ji18))) x11_2 (wrap64 (x12_3 + 1)) l0 l1) = some (r1, r2) := by first | (rw [hy215]; with_reducible exact H) | (have H2_ := (Option.bind_some _ _).symm.trans H; rw [hy215]; with_reducible exact H2_) | (have H2_ := (Option.bind_some _ _).symm.trans H; with_reducible exact H2_) | with_reducible exact H | (rw [hy215]; exact H) | exact H
           have Ny215 := mkA hy215
           clear hy215
           obtain ⟨y216, hy216⟩ : ∃ y_ : List Int, y_ = (x9_3.set ((rd ((rd_T29 l0 0).f2) (ji21)) : Int).toNat (rd ((rd_T29 l0 0).f2) (ji18))) := ⟨_, rfl⟩
           replace H : (spec_l18Images.l2 k3 y215 y216 x11_2 (wrap64 (x12_3 + 1)) l0 l1) = some (r1, r2) := by first | (rw [hy216]; with_reducible exact H) | (have H2_ := (Option.bind_some _ _).symm.trans H; rw [hy216]; with_reducible exact H2_) | (have H2_ := (Option.bind_some _ _).symm.trans H; with_reducible exact H2_) | with_reducible exact H | (rw [hy216]; exact H) | exact H
           have Ny216 := mkA hy216
           clear hy216
           have H' := mkA H
           clear H
           have p200 : 0 ≤ (0 : Int) := (by omega)
           have q200 : 0 < (l0.length : Int) := dt_
           obtain ⟨ad200, A200_2, c200_2, e200, hx200_0, hx200_1, hx200_2, hl200_2, hi200_2⟩ := at0_T29 HR0.out q200
           obtain rfl : ad199 = ad200 := (by injection e200)
           have qi200 : (0 < l0.length) = True := eq_true (by omega)
           replace hx200_0 := bc_ HB.out hx200_0
           replace hx200_1 := bc_ HB.out hx200_1
           replace hx200_2 := bc_ HB.out hx200_2
           have HR200_2 := mkA hi200_2
           have HC200_2 := mkA hl200_2
           clear hi200_2 hl200_2
           replace p200 := eq_true p200
           replace q200 := eq_true q200
           have gt_ := trivial; repeat (clear gt_; try go_wp2_with (first | (go_at_call 58; (with_reducible refine (spec_l18Move.calls k3 _ l0 _ l1 x12_3 x11_2 t201 t202 _ ?side1 ?side2 A17.out).mono ?_); (case side1 => exact cb_ HR0.out HB.out); (case side2 => exact cb_ HR1.out HB.out); rintro e w46 ⟨rfl, hb⟩; have n0_ := mkA (Kd.R_below (by (with_reducible repeat (first | apply Kd.R_alloc | apply Kd.R_drewN | apply Kd.R_drew)); exact HO_8.out) hb); have n1_ := mkA (Kd.R_below (by (with_reducible repeat (first | apply Kd.R_alloc | apply Kd.R_drewN | apply Kd.R_drew)); exact HO_9.out) hb); have n2_ := mkA (below_step (bs0_ HB.out) hb); clear HO_8; clear HO_9; clear HB; have HO_8 := n0_; have HO_9 := n1_; have HB := n2_; clear n0_ n1_ n2_; (try clear hb); (try clear hb2); (try clear hk); (try clear hi); have p203 : 0 ≤ (0 : Int) := (by omega); have q203 : 0 < (l0.length : Int) := dt_; obtain ⟨ad203, A203_2, c203_2, e203, hx203_0, hx203_1, hx203_2, hl203_2, hi203_2⟩ := at0_T29 HR0.out q203; obtain rfl : ad199 = ad203 := (by injection e203); have qi203 : (0 < l0.length) = True := eq_true (by omega); replace hx203_0 := bc_ HB.out hx203_0; replace hx203_1 := bc_ HB.out hx203_1; replace hx203_2 := bc_ HB.out hx203_2; have HR203_2 := mkA hi203_2; have HC203_2 := mkA hl203_2; clear hi203_2 hl203_2; replace p203 := eq_true p203; replace q203 := eq_true q203; have p204 : 0 ≤ (0 : Int) := (by omega); have q204 : 0 < (l0.length : Int) := dt_; obtain ⟨ad204, A204_2, c204_2, e204, hx204_0, hx204_1, hx204_2, hl204_2, hi204_2⟩ := at0_T29 HR0.out q204; obtain rfl : ad199 = ad204 := (by injection e204); have qi204 : (0 < l0.length) = True := eq_true (by omega); replace hx204_0 := bc_ HB.out hx204_0; replace hx204_1 := bc_ HB.out hx204_1; replace hx204_2 := bc_ HB.out hx204_2; have HR204_2 := mkA hi204_2; have HC204_2 := mkA hl204_2; clear hi204_2 hl204_2; replace p204 := eq_true p204; replace q204 := eq_true q204; have ea_ := Option.some.inj (hx203_2.symm.trans hx204_2); injection ea_ with ea_ en_ ec_; subst ea_; subst ec_; clear en_; have p205 : 0 ≤ ((ji18) : Int) := dt_; have q205 : (ji18) < (((rd_T29 l0 0).f2).length : Int) := dt_; obtain ⟨ad205, e205, hx205_0⟩ := Kd.at_int HR203_2.out (ji18) p205 q205; cases e205; replace hx205_0 := bc_ HB.out hx205_0; replace p205 := eq_true p205; replace q205 := eq_true q205; have p206 : 0 ≤ (0 : Int) := (by omega); have q206 : 0 < (l0.length : Int) := dt_; obtain ⟨ad206, A206_2, c206_2, e206, hx206_0, hx206_1, hx206_2, hl206_2, hi206_2⟩ := at0_T29 HR0.out q206; obtain rfl : ad199 = ad206 := (by injection e206); have qi206 : (0 < l0.length) = True := eq_true (by omega); replace hx206_0 := bc_ HB.out hx206_0; replace hx206_1 := bc_ HB.out hx206_1; replace hx206_2 := bc_ HB.out hx206_2; have HR206_2 := mkA hi206_2; have HC206_2 := mkA hl206_2; clear hi206_2 hl206_2; replace p206 := eq_true p206; replace q206 := eq_true q206; have ea_ := Option.some.inj (hx203_2.symm.trans hx206_2); injection ea_ with ea_ en_ ec_; subst ea_; subst ec_; clear en_; have p207 : 0 ≤ (0 : Int) := (by omega); have q207 : 0 < (l0.length : Int) := dt_; obtain ⟨ad207, A207_2, c207_2, e207, hx207_0, hx207_1, hx207_2, hl207_2, hi207_2⟩ := at0_T29 HR0.out q207; obtain rfl : ad199 = ad207 := (by injection e207); have qi207 : (0 < l0.length) = True := eq_true (by omega); replace hx207_0 := bc_ HB.out hx207_0; replace hx207_1 := bc_ HB.out hx207_1; replace hx207_2 := bc_ HB.out hx207_2; have HR207_2 := mkA hi207_2; have HC207_2 := mkA hl207_2; clear hi207_2 hl207_2; replace p207 := eq_true p207; replace q207 := eq_true q207; have ea_ := Option.some.inj (hx203_2.symm.trans hx207_2); injection ea_ with ea_ en_ ec_; subst ea_; subst ec_; clear en_; have p208 : 0 ≤ ((ji21) : Int) := dt_; have q208 : (ji21) < (((rd_T29 l0 0).f2).length : Int) := dt_; obtain ⟨ad208, e208, hx208_0⟩ := Kd.at_int HR206_2.out (ji21) p208 q208; obtain rfl : ad205 = ad208 := (by injection e208); replace hx208_0 := bc_ HB.out hx208_0; replace p208 := eq_true p208; replace q208 := eq_true q208; obtain ⟨Ao47, co47, eo47⟩ := Kd.R_slice HO_8.out; subst eo47; have p209 : 0 ≤ ((rd ((rd_T29 l0 0).f2) (ji18)) : Int) := dt_; have q209 : (rd ((rd_T29 l0 0).f2) (ji18)) < (x8_3.length : Int) := dt_; obtain ⟨ad209, e209, hx209_0⟩ := Kd.at_int (Kd.R_reads' HO_8.out).2.2 (rd ((rd_T29 l0 0).f2) (ji18)) p209 q209; cases e209; replace p209 := eq_true p209; replace q209 := eq_true q209; have p210 : 0 ≤ ((rd ((rd_T29 l0 0).f2) (ji18)) : Int) := dt_; have q210 : (rd ((rd_T29 l0 0).f2) (ji18)) < (x8_3.length : Int) := dt_; obtain ⟨ad210, e210, hx210_0⟩ := Kd.at_int (Kd.R_reads' HO_8.out).2.2 (rd ((rd_T29 l0 0).f2) (ji18)) p210 q210; obtain rfl : ad209 = ad210 := (by injection e210); replace p210 := eq_true p210; replace q210 := eq_true q210; obtain ⟨Ao48, co48, eo48⟩ := Kd.R_slice HO_9.out; subst eo48; have p211 : 0 ≤ ((rd ((rd_T29 l0 0).f2) (ji21)) : Int) := dt_; have q211 : (rd ((rd_T29 l0 0).f2) (ji21)) < (x9_3.length : Int) := dt_; obtain ⟨ad211, e211, hx211_0⟩ := Kd.at_int (Kd.R_reads' HO_9.out).2.2 (rd ((rd_T29 l0 0).f2) (ji21)) p211 q211; cases e211; replace p211 := eq_true p211; replace q211 := eq_true q211; have p44 : 0 ≤ ((rd ((rd_T29 l0 0).f2) (ji18)) : Int) := dt_; have q44 : ((rd ((rd_T29 l0 0).f2) (ji18)) : Int) < ((x8_3.length : Int) : Int) := dt_; obtain ⟨go44, co44, eo44, gb44, gl44, cl44, HG44⟩ := Kd.R_form HO_8.out (by omega); (first | cases eo44 | (injection eo44 with ea_ en_ ec_; (first | subst ea_ | (injection ea_ with ea_; subst ea_)); subst ec_; clear en_)); have GB44 := mkA gb44; have GG44 := mkA HG44; clear gb44 gl44 HG44; (first | simp only [add_plain] at hx209_0 | skip); (first | simp only [add_plain] at hx210_0 | skip); obtain ⟨hx44_0, hf44_0⟩ := Kd.R_celln 0 HO_8.out ((rd ((rd_T29 l0 0).f2) (ji18)) : Int) p44 q44; replace p44 := eq_true p44; replace q44 := eq_true q44; obtain ⟨hy49_, hz49_⟩ := Kd.R_celln 0 HO_8.out ((rd ((rd_T29 l0 0).f2) (ji18)) : Int) (dt_) (dt_); have HP49 := Kd.R_putg HO_8.out ((rd ((rd_T29 l0 0).f2) (ji18)) : Int) (rd ((rd_T29 l0 0).f2) (ji21))) | ((with_reducible refine gate_store (t := 2) (p := 113) rfl ?_); (try (rw [drewN_self w46]; generalize hq_ : World.drewN w46 _ = w46; have n0_ := mkA (Kd.R_at hq_ HO_8.out); have n1_ := mkA (Kd.R_at hq_ HO_9.out); have n2_ := mkA (below_at hq_ HB.out); clear hq_ HO_8 HO_9 HB; have HO_8 := n0_; have HO_9 := n1_; have HB := n2_; clear n0_ n1_ n2_; (try (obtain ⟨hy49_, hz49_⟩ := Kd.R_celln 0 HO_8.out ((rd ((rd_T29 l0 0).f2) (ji18)) : Int) (dt_) (dt_))); (try (have HP49 := Kd.R_putg HO_8.out ((rd ((rd_T29 l0 0).f2) (ji18)) : Int) (rd ((rd_T29 l0 0).f2) (ji21)))))); refine store_event (t := 2) (p := 113) (v := ?vo_w50) (w1 := (w46.setCell ⟨go44, ((rd ((rd_T29 l0 0).f2) (ji18)) : Int).toNat, none⟩ (.int .i64 (rd ((rd_T29 l0 0).f2) (ji21))))) ?hg ?ho ?hn ?hr ?_; (case ho => rfl); (case hg => rfl); (case hn => rfl); (case hr => first | (go_simp; done) | (go_simp; rfl)); intro w50 hw; have hg : w46.grownBy w50 (some go44) := (by rw [hw]; exact HP49.2); have hp_ : Kd.R (Kd.int .i64) 2 w50 w.heap.size (fun k_ => some k_ ≠ (.slice (some ad211) x9_3.length co48 : Value).ownBlock) (.slice (some ⟨go44, 0, none⟩) x8_3.length co47) y215 := (by rw [hw, Ny215.out]; exact HP49.1); clear HP49; have n0_ := mkA (hp_); have n1_ := mkA (Kd.R_after (v := (.slice (some ⟨go44, 0, none⟩) x8_3.length co47)) (v1 := (.slice (some ⟨go44, 0, none⟩) x8_3.length co47)) (ok := (fun _ => True)) (by (with_reducible repeat (first | apply Kd.R_alloc | apply Kd.R_drewN | apply Kd.R_drew)); exact Kd.R_mono HO_9.out (fun _ hk => ⟨trivial, hk⟩)) hg (.inl rfl)); have n2_ := mkA ((by rw [hw]; exact below_set (HB.out) GB44.out : Below w.heap.size w w50)); clear HO_8; clear HO_9; clear HB; have HO_8 := n0_; have HO_9 := n1_; have HB := n2_; clear n0_ n1_ n2_; clear hg hw hp_; have p45 : 0 ≤ ((rd ((rd_T29 l0 0).f2) (ji21)) : Int) := dt_; have q45 : ((rd ((rd_T29 l0 0).f2) (ji21)) : Int) < ((x9_3.length : Int) : Int) := dt_; obtain ⟨go45, co45, eo45, gb45, gl45, cl45, HG45⟩ := Kd.R_form HO_9.out (by omega); (first | cases eo45 | (injection eo45 with ea_ en_ ec_; (first | subst ea_ | (injection ea_ with ea_; subst ea_)); subst ec_; clear en_)); have GB45 := mkA gb45; have GG45 := mkA HG45; clear gb45 gl45 HG45; (first | simp only [add_plain] at hx211_0 | skip); (first | simp only [add_plain] at hx212_0 | skip); obtain ⟨hx45_0, hf45_0⟩ := Kd.R_celln 0 HO_9.out ((rd ((rd_T29 l0 0).f2) (ji21)) : Int) p45 q45; replace p45 := eq_true p45; replace q45 := eq_true q45; have n_ := mkA (Kd.R_mono (ok' := (fun k_ => some k_ ≠ (.slice (some ⟨go44, 0, none⟩) x8_3.length co47 : Value).ownBlock)) HO_9.out (fun k_ hk => hk.2)); clear HO_9; have HO_9 := n_; clear n_; obtain ⟨hy51_, hz51_⟩ := Kd.R_celln 0 HO_9.out ((rd ((rd_T29 l0 0).f2) (ji21)) : Int) (dt_) (dt_); have HP51 := Kd.R_putg HO_9.out ((rd ((rd_T29 l0 0).f2) (ji21)) : Int) (rd ((rd_T29 l0 0).f2) (ji18))) | ((with_reducible refine gate_store (t := 2) (p := 117) rfl ?_); (try (rw [drewN_self w50]; generalize hq_ : World.drewN w50 _ = w50; have n0_ := mkA (Kd.R_at hq_ HO_8.out); have n1_ := mkA (Kd.R_at hq_ HO_9.out); have n2_ := mkA (below_at hq_ HB.out); clear hq_ HO_8 HO_9 HB; have HO_8 := n0_; have HO_9 := n1_; have HB := n2_; clear n0_ n1_ n2_; (try (have n_ := mkA (Kd.R_mono (ok' := (fun k_ => some k_ ≠ (.slice (some ⟨go44, 0, none⟩) x8_3.length co47 : Value).ownBlock)) HO_9.out (fun k_ hk => hk.2)); clear HO_9; have HO_9 := n_; clear n_)); (try (obtain ⟨hy51_, hz51_⟩ := Kd.R_celln 0 HO_9.out ((rd ((rd_T29 l0 0).f2) (ji21)) : Int) (dt_) (dt_))); (try (have HP51 := Kd.R_putg HO_9.out ((rd ((rd_T29 l0 0).f2) (ji21)) : Int) (rd ((rd_T29 l0 0).f2) (ji18)))))); refine store_event (t := 2) (p := 117) (v := ?vo_w52) (w1 := (w50.setCell ⟨go45, ((rd ((rd_T29 l0 0).f2) (ji21)) : Int).toNat, none⟩ (.int .i64 (rd ((rd_T29 l0 0).f2) (ji18))))) ?hg ?ho ?hn ?hr ?_; (case ho => rfl); (case hg => rfl); (case hn => rfl); (case hr => first | (go_simp; done) | (go_simp; rfl)); intro w52 hw; have hg : w50.grownBy w52 (some go45) := (by rw [hw]; exact HP51.2); have hp_ : Kd.R (Kd.int .i64) 2 w52 w.heap.size (fun k_ => some k_ ≠ (.slice (some ⟨go44, 0, none⟩) x8_3.length co47 : Value).ownBlock) (.slice (some ⟨go45, 0, none⟩) x9_3.length co48) y216 := (by rw [hw, Ny216.out]; exact HP51.1); clear HP51; have n0_ := mkA (Kd.R_after (v := (.slice (some ⟨go45, 0, none⟩) x9_3.length co48)) (v1 := (.slice (some ⟨go45, 0, none⟩) x9_3.length co48)) (ok := (fun _ => True)) (by (with_reducible repeat (first | apply Kd.R_alloc | apply Kd.R_drewN | apply Kd.R_drew)); exact Kd.R_mono HO_8.out (fun _ hk => ⟨trivial, hk⟩)) hg (.inl rfl)); have n1_ := mkA (hp_); have n2_ := mkA ((by rw [hw]; exact below_set (HB.out) GB45.out : Below w.heap.size w w52)); clear HO_8; clear HO_9; clear HB; have HO_8 := n0_; have HO_9 := n1_; have HB := n2_; clear n0_ n1_ n2_; clear hg hw hp_)); try (go_quiet (fail); have gt_ := trivial))
           go_roundg k3
           case measure => have := HK1.out; have := HK2.out; have := HK3.out; omega
           case rel => exact ⟨(y215), (y216), (wrap64 (x12_3 + 1)), (by first | rfl | (simp; done) | (simp [*]; done) | (simp [i64_w, i32_w]; done)), H', ⟨by have := HK1.out; have := HK2.out; have := HK3.out; omega⟩, ⟨by (with_reducible repeat (first | apply Kd.R_alloc | apply Kd.R_drewN | apply Kd.R_drew)); exact Kd.R_mono HO_8.out (fun _ hk => hk.2)⟩, ⟨by (with_reducible repeat (first | apply Kd.R_alloc | apply Kd.R_drewN | apply Kd.R_drew)); exact HO_9.out⟩, ⟨by repeat (first | (with_reducible first | exact HB.out | apply below_alloc | apply pw_below_drewN | apply below_drew1) | exact HB.out)⟩⟩
         rw [if_pos c30] at H
         have c30b0 : decide (0 ≤ (rd x9_3 (rd ((rd_T29 l0 0).f2) (ji21)))) = true := decide_eq_true c30
         clear c30
         by_cases c31 : (rd x9_3 (rd ((rd_T29 l0 0).f2) (ji21))) = (rd ((rd_T29 l0 0).f2) (ji18))
         rotate_left
         · rw [if_neg c31] at H
           have c31b0 : ((rd x9_3 (rd ((rd_T29 l0 0).f2) (ji21))) == (rd ((rd_T29 l0 0).f2) (ji18))) = false := beq_eq_false_iff_ne.mpr c31
           have c31b1 : ((rd x9_3 (rd ((rd_T29 l0 0).f2) (ji21))) != (rd ((rd_T29 l0 0).f2) (ji18))) = true := bne_iff_ne.mpr c31
           simp only [Option.some.injEq, Prod.mk.injEq] at H
           obtain ⟨rfl, rfl⟩ := H
           have p200 : 0 ≤ (0 : Int) := (by omega)
           have q200 : 0 < (l0.length : Int) := dt_
           obtain ⟨ad200, A200_2, c200_2, e200, hx200_0, hx200_1, hx200_2, hl200_2, hi200_2⟩ := at0_T29 HR0.out q200
           obtain rfl : ad199 = ad200 := (by injection e200)
           have qi200 : (0 < l0.length) = True := eq_true (by omega)
           replace hx200_0 := bc_ HB.out hx200_0
           replace hx200_1 := bc_ HB.out hx200_1
           replace hx200_2 := bc_ HB.out hx200_2
           have HR200_2 := mkA hi200_2
           have HC200_2 := mkA hl200_2
           clear hi200_2 hl200_2
           replace p200 := eq_true p200
           replace q200 := eq_true q200
           have gt_ := trivial; repeat (clear gt_; try go_wp2_with (first | (go_at_call 58; (with_reducible refine (spec_l18Move.calls k3 _ l0 _ l1 x12_3 x11_2 t201 t202 _ ?side1 ?side2 A17.out).mono ?_); (case side1 => exact cb_ HR0.out HB.out); (case side2 => exact cb_ HR1.out HB.out); rintro e w41 ⟨rfl, hb⟩; have n0_ := mkA (Kd.R_below (by (with_reducible repeat (first | apply Kd.R_alloc | apply Kd.R_drewN | apply Kd.R_drew)); exact HO_8.out) hb); have n1_ := mkA (Kd.R_below (by (with_reducible repeat (first | apply Kd.R_alloc | apply Kd.R_drewN | apply Kd.R_drew)); exact HO_9.out) hb); have n2_ := mkA (below_step (bs0_ HB.out) hb); clear HO_8; clear HO_9; clear HB; have HO_8 := n0_; have HO_9 := n1_; have HB := n2_; clear n0_ n1_ n2_; (try clear hb); (try clear hb2); (try clear hk); (try clear hi); have p203 : 0 ≤ (0 : Int) := (by omega); have q203 : 0 < (l0.length : Int) := dt_; obtain ⟨ad203, A203_2, c203_2, e203, hx203_0, hx203_1, hx203_2, hl203_2, hi203_2⟩ := at0_T29 HR0.out q203; obtain rfl : ad199 = ad203 := (by injection e203); have qi203 : (0 < l0.length) = True := eq_true (by omega); replace hx203_0 := bc_ HB.out hx203_0; replace hx203_1 := bc_ HB.out hx203_1; replace hx203_2 := bc_ HB.out hx203_2; have HR203_2 := mkA hi203_2; have HC203_2 := mkA hl203_2; clear hi203_2 hl203_2; replace p203 := eq_true p203; replace q203 := eq_true q203; have p204 : 0 ≤ (0 : Int) := (by omega); have q204 : 0 < (l0.length : Int) := dt_; obtain ⟨ad204, A204_2, c204_2, e204, hx204_0, hx204_1, hx204_2, hl204_2, hi204_2⟩ := at0_T29 HR0.out q204; obtain rfl : ad199 = ad204 := (by injection e204); have qi204 : (0 < l0.length) = True := eq_true (by omega); replace hx204_0 := bc_ HB.out hx204_0; replace hx204_1 := bc_ HB.out hx204_1; replace hx204_2 := bc_ HB.out hx204_2; have HR204_2 := mkA hi204_2; have HC204_2 := mkA hl204_2; clear hi204_2 hl204_2; replace p204 := eq_true p204; replace q204 := eq_true q204; have ea_ := Option.some.inj (hx203_2.symm.trans hx204_2); injection ea_ with ea_ en_ ec_; subst ea_; subst ec_; clear en_; have p205 : 0 ≤ ((ji18) : Int) := dt_; have q205 : (ji18) < (((rd_T29 l0 0).f2).length : Int) := dt_; obtain ⟨ad205, e205, hx205_0⟩ := Kd.at_int HR203_2.out (ji18) p205 q205; cases e205; replace hx205_0 := bc_ HB.out hx205_0; replace p205 := eq_true p205; replace q205 := eq_true q205; have p206 : 0 ≤ (0 : Int) := (by omega); have q206 : 0 < (l0.length : Int) := dt_; obtain ⟨ad206, A206_2, c206_2, e206, hx206_0, hx206_1, hx206_2, hl206_2, hi206_2⟩ := at0_T29 HR0.out q206; obtain rfl : ad199 = ad206 := (by injection e206); have qi206 : (0 < l0.length) = True := eq_true (by omega); replace hx206_0 := bc_ HB.out hx206_0; replace hx206_1 := bc_ HB.out hx206_1; replace hx206_2 := bc_ HB.out hx206_2; have HR206_2 := mkA hi206_2; have HC206_2 := mkA hl206_2; clear hi206_2 hl206_2; replace p206 := eq_true p206; replace q206 := eq_true q206; have ea_ := Option.some.inj (hx203_2.symm.trans hx206_2); injection ea_ with ea_ en_ ec_; subst ea_; subst ec_; clear en_; have p207 : 0 ≤ (0 : Int) := (by omega); have q207 : 0 < (l0.length : Int) := dt_; obtain ⟨ad207, A207_2, c207_2, e207, hx207_0, hx207_1, hx207_2, hl207_2, hi207_2⟩ := at0_T29 HR0.out q207; obtain rfl : ad199 = ad207 := (by injection e207); have qi207 : (0 < l0.length) = True := eq_true (by omega); replace hx207_0 := bc_ HB.out hx207_0; replace hx207_1 := bc_ HB.out hx207_1; replace hx207_2 := bc_ HB.out hx207_2; have HR207_2 := mkA hi207_2; have HC207_2 := mkA hl207_2; clear hi207_2 hl207_2; replace p207 := eq_true p207; replace q207 := eq_true q207; have ea_ := Option.some.inj (hx203_2.symm.trans hx207_2); injection ea_ with ea_ en_ ec_; subst ea_; subst ec_; clear en_; have p208 : 0 ≤ ((ji21) : Int) := dt_; have q208 : (ji21) < (((rd_T29 l0 0).f2).length : Int) := dt_; obtain ⟨ad208, e208, hx208_0⟩ := Kd.at_int HR206_2.out (ji21) p208 q208; obtain rfl : ad205 = ad208 := (by injection e208); replace hx208_0 := bc_ HB.out hx208_0; replace p208 := eq_true p208; replace q208 := eq_true q208; obtain ⟨Ao42, co42, eo42⟩ := Kd.R_slice HO_8.out; subst eo42; have p209 : 0 ≤ ((rd ((rd_T29 l0 0).f2) (ji18)) : Int) := dt_; have q209 : (rd ((rd_T29 l0 0).f2) (ji18)) < (x8_3.length : Int) := dt_; obtain ⟨ad209, e209, hx209_0⟩ := Kd.at_int (Kd.R_reads' HO_8.out).2.2 (rd ((rd_T29 l0 0).f2) (ji18)) p209 q209; cases e209; replace p209 := eq_true p209; replace q209 := eq_true q209; have p210 : 0 ≤ ((rd ((rd_T29 l0 0).f2) (ji18)) : Int) := dt_; have q210 : (rd ((rd_T29 l0 0).f2) (ji18)) < (x8_3.length : Int) := dt_; obtain ⟨ad210, e210, hx210_0⟩ := Kd.at_int (Kd.R_reads' HO_8.out).2.2 (rd ((rd_T29 l0 0).f2) (ji18)) p210 q210; obtain rfl : ad209 = ad210 := (by injection e210); replace p210 := eq_true p210; replace q210 := eq_true q210; obtain ⟨Ao43, co43, eo43⟩ := Kd.R_slice HO_9.out; subst eo43; have p211 : 0 ≤ ((rd ((rd_T29 l0 0).f2) (ji21)) : Int) := dt_; have q211 : (rd ((rd_T29 l0 0).f2) (ji21)) < (x9_3.length : Int) := dt_; obtain ⟨ad211, e211, hx211_0⟩ := Kd.at_int (Kd.R_reads' HO_9.out).2.2 (rd ((rd_T29 l0 0).f2) (ji21)) p211 q211; cases e211; replace p211 := eq_true p211; replace q211 := eq_true q211; have p212 : 0 ≤ ((rd ((rd_T29 l0 0).f2) (ji21)) : Int) := dt_; have q212 : (rd ((rd_T29 l0 0).f2) (ji21)) < (x9_3.length : Int) := dt_; obtain ⟨ad212, e212, hx212_0⟩ := Kd.at_int (Kd.R_reads' HO_9.out).2.2 (rd ((rd_T29 l0 0).f2) (ji21)) p212 q212; obtain rfl : ad211 = ad212 := (by injection e212); replace p212 := eq_true p212; replace q212 := eq_true q212)); try (go_quiet (fail); have gt_ := trivial))
           go_ret2
           exact ⟨_, by first | rfl | (simp [errW_none, errW_some] <;> rfl) | (simp only [← hji18, ← hji21]; first | rfl | (simp [errW_none, errW_some] <;> rfl)) | (simp [*, errW_none, errW_some] <;> rfl), by first | exact Kd.R_nil _ _ _ _ _ | exact Kd.N_nil _ _ _ _ _ | exact Kd.V_nil _ _ _ _ _ | exact Kd.Q_nil _ _ _ _ _ | exact Kd.S_nil _ _ _ _ _, by repeat (first | (with_reducible first | exact HB.out | apply below_alloc | apply pw_below_drewN | apply below_drew1) | exact HB.out)⟩
         rw [if_pos c31] at H
         have c31b0 : ((rd x9_3 (rd ((rd_T29 l0 0).f2) (ji21))) == (rd ((rd_T29 l0 0).f2) (ji18))) = true := beq_iff_eq.mpr c31
         have c31b1 : ((rd x9_3 (rd ((rd_T29 l0 0).f2) (ji21))) != (rd ((rd_T29 l0 0).f2) (ji18))) = false := bne_eq_false_iff_eq.mpr c31
         clear c31
         obtain ⟨y213, hy213⟩ : ∃ y_ : List Int, y_ = (x8_3.set ((rd ((rd_T29 l0 0).f2) (ji18)) : Int).toNat (rd ((rd_T29 l0 0).f2) (ji21))) := ⟨_, rfl⟩
         replace H : (spec_l18Images.l2 k3 y213 (x9_3.set ((rd ((rd_T29 l0 0).f2) (ji21)) : Int).toNat (rd ((rd_T29 l0 0).f2) (ji18))) x11_2 (wrap64 (x12_3 + 1)) l0 l1) = some (r1, r2) := by first | (rw [hy213]; with_reducible exact H) | (have H2_ := (Option.bind_some _ _).symm.trans H; rw [hy213]; with_reducible exact H2_) | (have H2_ := (Option.bind_some _ _).symm.trans H; with_reducible exact H2_) | with_reducible exact H | (rw [hy213]; exact H) | exact H
         have Ny213 := mkA hy213
         clear hy213
         obtain ⟨y214, hy214⟩ : ∃ y_ : List Int, y_ = (x9_3.set ((rd ((rd_T29 l0 0).f2) (ji21)) : Int).toNat (rd ((rd_T29 l0 0).f2) (ji18))) := ⟨_, rfl⟩
         replace H : (spec_l18Images.l2 k3 y213 y214 x11_2 (wrap64 (x12_3 + 1)) l0 l1) = some (r1, r2) := by first | (rw [hy214]; with_reducible exact H) | (have H2_ := (Option.bind_some _ _).symm.trans H; rw [hy214]; with_reducible exact H2_) | (have H2_ := (Option.bind_some _ _).symm.trans H; with_reducible exact H2_) | with_reducible exact H | (rw [hy214]; exact H) | exact H
         have Ny214 := mkA hy214
         clear hy214
         have H' := mkA H
         clear H
         have p200 : 0 ≤ (0 : Int) := (by omega)
         have q200 : 0 < (l0.length : Int) := dt_
         obtain ⟨ad200, A200_2, c200_2, e200, hx200_0, hx200_1, hx200_2, hl200_2, hi200_2⟩ := at0_T29 HR0.out q200
         obtain rfl : ad199 = ad200 := (by injection e200)
         have qi200 : (0 < l0.length) = True := eq_true (by omega)
         replace hx200_0 := bc_ HB.out hx200_0
         replace hx200_1 := bc_ HB.out hx200_1
         replace hx200_2 := bc_ HB.out hx200_2
         have HR200_2 := mkA hi200_2
         have HC200_2 := mkA hl200_2
         clear hi200_2 hl200_2
         replace p200 := eq_true p200
         replace q200 := eq_true q200
         have gt_ := trivial; repeat (clear gt_; try go_wp2_with (first | (go_at_call 58; (with_reducible refine (spec_l18Move.calls k3 _ l0 _ l1 x12_3 x11_2 t201 t202 _ ?side1 ?side2 A17.out).mono ?_); (case side1 => exact cb_ HR0.out HB.out); (case side2 => exact cb_ HR1.out HB.out); rintro e w34 ⟨rfl, hb⟩; have n0_ := mkA (Kd.R_below (by (with_reducible repeat (first | apply Kd.R_alloc | apply Kd.R_drewN | apply Kd.R_drew)); exact HO_8.out) hb); have n1_ := mkA (Kd.R_below (by (with_reducible repeat (first | apply Kd.R_alloc | apply Kd.R_drewN | apply Kd.R_drew)); exact HO_9.out) hb); have n2_ := mkA (below_step (bs0_ HB.out) hb); clear HO_8; clear HO_9; clear HB; have HO_8 := n0_; have HO_9 := n1_; have HB := n2_; clear n0_ n1_ n2_; (try clear hb); (try clear hb2); (try clear hk); (try clear hi); have p203 : 0 ≤ (0 : Int) := (by omega); have q203 : 0 < (l0.length : Int) := dt_; obtain ⟨ad203, A203_2, c203_2, e203, hx203_0, hx203_1, hx203_2, hl203_2, hi203_2⟩ := at0_T29 HR0.out q203; obtain rfl : ad199 = ad203 := (by injection e203); have qi203 : (0 < l0.length) = True := eq_true (by omega); replace hx203_0 := bc_ HB.out hx203_0; replace hx203_1 := bc_ HB.out hx203_1; replace hx203_2 := bc_ HB.out hx203_2; have HR203_2 := mkA hi203_2; have HC203_2 := mkA hl203_2; clear hi203_2 hl203_2; replace p203 := eq_true p203; replace q203 := eq_true q203; have p204 : 0 ≤ (0 : Int) := (by omega); have q204 : 0 < (l0.length : Int) := dt_; obtain ⟨ad204, A204_2, c204_2, e204, hx204_0, hx204_1, hx204_2, hl204_2, hi204_2⟩ := at0_T29 HR0.out q204; obtain rfl : ad199 = ad204 := (by injection e204); have qi204 : (0 < l0.length) = True := eq_true (by omega); replace hx204_0 := bc_ HB.out hx204_0; replace hx204_1 := bc_ HB.out hx204_1; replace hx204_2 := bc_ HB.out hx204_2; have HR204_2 := mkA hi204_2; have HC204_2 := mkA hl204_2; clear hi204_2 hl204_2; replace p204 := eq_true p204; replace q204 := eq_true q204; have ea_ := Option.some.inj (hx203_2.symm.trans hx204_2); injection ea_ with ea_ en_ ec_; subst ea_; subst ec_; clear en_; have p205 : 0 ≤ ((ji18) : Int) := dt_; have q205 : (ji18) < (((rd_T29 l0 0).f2).length : Int) := dt_; obtain ⟨ad205, e205, hx205_0⟩ := Kd.at_int HR203_2.out (ji18) p205 q205; cases e205; replace hx205_0 := bc_ HB.out hx205_0; replace p205 := eq_true p205; replace q205 := eq_true q205; have p206 : 0 ≤ (0 : Int) := (by omega); have q206 : 0 < (l0.length : Int) := dt_; obtain ⟨ad206, A206_2, c206_2, e206, hx206_0, hx206_1, hx206_2, hl206_2, hi206_2⟩ := at0_T29 HR0.out q206; obtain rfl : ad199 = ad206 := (by injection e206); have qi206 : (0 < l0.length) = True := eq_true (by omega); replace hx206_0 := bc_ HB.out hx206_0; replace hx206_1 := bc_ HB.out hx206_1; replace hx206_2 := bc_ HB.out hx206_2; have HR206_2 := mkA hi206_2; have HC206_2 := mkA hl206_2; clear hi206_2 hl206_2; replace p206 := eq_true p206; replace q206 := eq_true q206; have ea_ := Option.some.inj (hx203_2.symm.trans hx206_2); injection ea_ with ea_ en_ ec_; subst ea_; subst ec_; clear en_; have p207 : 0 ≤ (0 : Int) := (by omega); have q207 : 0 < (l0.length : Int) := dt_; obtain ⟨ad207, A207_2, c207_2, e207, hx207_0, hx207_1, hx207_2, hl207_2, hi207_2⟩ := at0_T29 HR0.out q207; obtain rfl : ad199 = ad207 := (by injection e207); have qi207 : (0 < l0.length) = True := eq_true (by omega); replace hx207_0 := bc_ HB.out hx207_0; replace hx207_1 := bc_ HB.out hx207_1; replace hx207_2 := bc_ HB.out hx207_2; have HR207_2 := mkA hi207_2; have HC207_2 := mkA hl207_2; clear hi207_2 hl207_2; replace p207 := eq_true p207; replace q207 := eq_true q207; have ea_ := Option.some.inj (hx203_2.symm.trans hx207_2); injection ea_ with ea_ en_ ec_; subst ea_; subst ec_; clear en_; have p208 : 0 ≤ ((ji21) : Int) := dt_; have q208 : (ji21) < (((rd_T29 l0 0).f2).length : Int) := dt_; obtain ⟨ad208, e208, hx208_0⟩ := Kd.at_int HR206_2.out (ji21) p208 q208; obtain rfl : ad205 = ad208 := (by injection e208); replace hx208_0 := bc_ HB.out hx208_0; replace p208 := eq_true p208; replace q208 := eq_true q208; obtain ⟨Ao35, co35, eo35⟩ := Kd.R_slice HO_8.out; subst eo35; have p209 : 0 ≤ ((rd ((rd_T29 l0 0).f2) (ji18)) : Int) := dt_; have q209 : (rd ((rd_T29 l0 0).f2) (ji18)) < (x8_3.length : Int) := dt_; obtain ⟨ad209, e209, hx209_0⟩ := Kd.at_int (Kd.R_reads' HO_8.out).2.2 (rd ((rd_T29 l0 0).f2) (ji18)) p209 q209; cases e209; replace p209 := eq_true p209; replace q209 := eq_true q209; have p210 : 0 ≤ ((rd ((rd_T29 l0 0).f2) (ji18)) : Int) := dt_; have q210 : (rd ((rd_T29 l0 0).f2) (ji18)) < (x8_3.length : Int) := dt_; obtain ⟨ad210, e210, hx210_0⟩ := Kd.at_int (Kd.R_reads' HO_8.out).2.2 (rd ((rd_T29 l0 0).f2) (ji18)) p210 q210; obtain rfl : ad209 = ad210 := (by injection e210); replace p210 := eq_true p210; replace q210 := eq_true q210; obtain ⟨Ao36, co36, eo36⟩ := Kd.R_slice HO_9.out; subst eo36; have p211 : 0 ≤ ((rd ((rd_T29 l0 0).f2) (ji21)) : Int) := dt_; have q211 : (rd ((rd_T29 l0 0).f2) (ji21)) < (x9_3.length : Int) := dt_; obtain ⟨ad211, e211, hx211_0⟩ := Kd.at_int (Kd.R_reads' HO_9.out).2.2 (rd ((rd_T29 l0 0).f2) (ji21)) p211 q211; cases e211; replace p211 := eq_true p211; replace q211 := eq_true q211; have p212 : 0 ≤ ((rd ((rd_T29 l0 0).f2) (ji21)) : Int) := dt_; have q212 : (rd ((rd_T29 l0 0).f2) (ji21)) < (x9_3.length : Int) := dt_; obtain ⟨ad212, e212, hx212_0⟩ := Kd.at_int (Kd.R_reads' HO_9.out).2.2 (rd ((rd_T29 l0 0).f2) (ji21)) p212 q212; obtain rfl : ad211 = ad212 := (by injection e212); replace p212 := eq_true p212; replace q212 := eq_true q212; have p32 : 0 ≤ ((rd ((rd_T29 l0 0).f2) (ji18)) : Int) := dt_; have q32 : ((rd ((rd_T29 l0 0).f2) (ji18)) : Int) < ((x8_3.length : Int) : Int) := dt_; obtain ⟨go32, co32, eo32, gb32, gl32, cl32, HG32⟩ := Kd.R_form HO_8.out (by omega); (first | cases eo32 | (injection eo32 with ea_ en_ ec_; (first | subst ea_ | (injection ea_ with ea_; subst ea_)); subst ec_; clear en_)); have GB32 := mkA gb32; have GG32 := mkA HG32; clear gb32 gl32 HG32; (first | simp only [add_plain] at hx209_0 | skip); (first | simp only [add_plain] at hx210_0 | skip); obtain ⟨hx32_0, hf32_0⟩ := Kd.R_celln 0 HO_8.out ((rd ((rd_T29 l0 0).f2) (ji18)) : Int) p32 q32; replace p32 := eq_true p32; replace q32 := eq_true q32; obtain ⟨hy37_, hz37_⟩ := Kd.R_celln 0 HO_8.out ((rd ((rd_T29 l0 0).f2) (ji18)) : Int) (dt_) (dt_); have HP37 := Kd.R_putg HO_8.out ((rd ((rd_T29 l0 0).f2) (ji18)) : Int) (rd ((rd_T29 l0 0).f2) (ji21))) | ((with_reducible refine gate_store (t := 2) (p := 113) rfl ?_); (try (rw [drewN_self w34]; generalize hq_ : World.drewN w34 _ = w34; have n0_ := mkA (Kd.R_at hq_ HO_8.out); have n1_ := mkA (Kd.R_at hq_ HO_9.out); have n2_ := mkA (below_at hq_ HB.out); clear hq_ HO_8 HO_9 HB; have HO_8 := n0_; have HO_9 := n1_; have HB := n2_; clear n0_ n1_ n2_; (try (obtain ⟨hy37_, hz37_⟩ := Kd.R_celln 0 HO_8.out ((rd ((rd_T29 l0 0).f2) (ji18)) : Int) (dt_) (dt_))); (try (have HP37 := Kd.R_putg HO_8.out ((rd ((rd_T29 l0 0).f2) (ji18)) : Int) (rd ((rd_T29 l0 0).f2) (ji21)))))); refine store_event (t := 2) (p := 113) (v := ?vo_w38) (w1 := (w34.setCell ⟨go32, ((rd ((rd_T29 l0 0).f2) (ji18)) : Int).toNat, none⟩ (.int .i64 (rd ((rd_T29 l0 0).f2) (ji21))))) ?hg ?ho ?hn ?hr ?_; (case ho => rfl); (case hg => rfl); (case hn => rfl); (case hr => first | (go_simp; done) | (go_simp; rfl)); intro w38 hw; have hg : w34.grownBy w38 (some go32) := (by rw [hw]; exact HP37.2); have hp_ : Kd.R (Kd.int .i64) 2 w38 w.heap.size (fun k_ => some k_ ≠ (.slice (some ad211) x9_3.length co36 : Value).ownBlock) (.slice (some ⟨go32, 0, none⟩) x8_3.length co35) y213 := (by rw [hw, Ny213.out]; exact HP37.1); clear HP37; have n0_ := mkA (hp_); have n1_ := mkA (Kd.R_after (v := (.slice (some ⟨go32, 0, none⟩) x8_3.length co35)) (v1 := (.slice (some ⟨go32, 0, none⟩) x8_3.length co35)) (ok := (fun _ => True)) (by (with_reducible repeat (first | apply Kd.R_alloc | apply Kd.R_drewN | apply Kd.R_drew)); exact Kd.R_mono HO_9.out (fun _ hk => ⟨trivial, hk⟩)) hg (.inl rfl)); have n2_ := mkA ((by rw [hw]; exact below_set (HB.out) GB32.out : Below w.heap.size w w38)); clear HO_8; clear HO_9; clear HB; have HO_8 := n0_; have HO_9 := n1_; have HB := n2_; clear n0_ n1_ n2_; clear hg hw hp_; have p33 : 0 ≤ ((rd ((rd_T29 l0 0).f2) (ji21)) : Int) := dt_; have q33 : ((rd ((rd_T29 l0 0).f2) (ji21)) : Int) < ((x9_3.length : Int) : Int) := dt_; obtain ⟨go33, co33, eo33, gb33, gl33, cl33, HG33⟩ := Kd.R_form HO_9.out (by omega); (first | cases eo33 | (injection eo33 with ea_ en_ ec_; (first | subst ea_ | (injection ea_ with ea_; subst ea_)); subst ec_; clear en_)); have GB33 := mkA gb33; have GG33 := mkA HG33; clear gb33 gl33 HG33; (first | simp only [add_plain] at hx211_0 | skip); (first | simp only [add_plain] at hx212_0 | skip); obtain ⟨hx33_0, hf33_0⟩ := Kd.R_celln 0 HO_9.out ((rd ((rd_T29 l0 0).f2) (ji21)) : Int) p33 q33; replace p33 := eq_true p33; replace q33 := eq_true q33; have n_ := mkA (Kd.R_mono (ok' := (fun k_ => some k_ ≠ (.slice (some ⟨go32, 0, none⟩) x8_3.length co35 : Value).ownBlock)) HO_9.out (fun k_ hk => hk.2)); clear HO_9; have HO_9 := n_; clear n_; obtain ⟨hy39_, hz39_⟩ := Kd.R_celln 0 HO_9.out ((rd ((rd_T29 l0 0).f2) (ji21)) : Int) (dt_) (dt_); have HP39 := Kd.R_putg HO_9.out ((rd ((rd_T29 l0 0).f2) (ji21)) : Int) (rd ((rd_T29 l0 0).f2) (ji18))) | ((with_reducible refine gate_store (t := 2) (p := 117) rfl ?_); (try (rw [drewN_self w38]; generalize hq_ : World.drewN w38 _ = w38; have n0_ := mkA (Kd.R_at hq_ HO_8.out); have n1_ := mkA (Kd.R_at hq_ HO_9.out); have n2_ := mkA (below_at hq_ HB.out); clear hq_ HO_8 HO_9 HB; have HO_8 := n0_; have HO_9 := n1_; have HB := n2_; clear n0_ n1_ n2_; (try (have n_ := mkA (Kd.R_mono (ok' := (fun k_ => some k_ ≠ (.slice (some ⟨go32, 0, none⟩) x8_3.length co35 : Value).ownBlock)) HO_9.out (fun k_ hk => hk.2)); clear HO_9; have HO_9 := n_; clear n_)); (try (obtain ⟨hy39_, hz39_⟩ := Kd.R_celln 0 HO_9.out ((rd ((rd_T29 l0 0).f2) (ji21)) : Int) (dt_) (dt_))); (try (have HP39 := Kd.R_putg HO_9.out ((rd ((rd_T29 l0 0).f2) (ji21)) : Int) (rd ((rd_T29 l0 0).f2) (ji18)))))); refine store_event (t := 2) (p := 117) (v := ?vo_w40) (w1 := (w38.setCell ⟨go33, ((rd ((rd_T29 l0 0).f2) (ji21)) : Int).toNat, none⟩ (.int .i64 (rd ((rd_T29 l0 0).f2) (ji18))))) ?hg ?ho ?hn ?hr ?_; (case ho => rfl); (case hg => rfl); (case hn => rfl); (case hr => first | (go_simp; done) | (go_simp; rfl)); intro w40 hw; have hg : w38.grownBy w40 (some go33) := (by rw [hw]; exact HP39.2); have hp_ : Kd.R (Kd.int .i64) 2 w40 w.heap.size (fun k_ => some k_ ≠ (.slice (some ⟨go32, 0, none⟩) x8_3.length co35 : Value).ownBlock) (.slice (some ⟨go33, 0, none⟩) x9_3.length co36) y214 := (by rw [hw, Ny214.out]; exact HP39.1); clear HP39; have n0_ := mkA (Kd.R_after (v := (.slice (some ⟨go33, 0, none⟩) x9_3.length co36)) (v1 := (.slice (some ⟨go33, 0, none⟩) x9_3.length co36)) (ok := (fun _ => True)) (by (with_reducible repeat (first | apply Kd.R_alloc | apply Kd.R_drewN | apply Kd.R_drew)); exact Kd.R_mono HO_8.out (fun _ hk => ⟨trivial, hk⟩)) hg (.inl rfl)); have n1_ := mkA (hp_); have n2_ := mkA ((by rw [hw]; exact below_set (HB.out) GB33.out : Below w.heap.size w w40)); clear HO_8; clear HO_9; clear HB; have HO_8 := n0_; have HO_9 := n1_; have HB := n2_; clear n0_ n1_ n2_; clear hg hw hp_)); try (go_quiet (fail); have gt_ := trivial))
         go_roundg k3
         case measure => have := HK1.out; have := HK2.out; have := HK3.out; omega
         case rel => exact ⟨(y213), (y214), (wrap64 (x12_3 + 1)), (by first | rfl | (simp; done) | (simp [*]; done) | (simp [i64_w, i32_w]; done)), H', ⟨by have := HK1.out; have := HK2.out; have := HK3.out; omega⟩, ⟨by (with_reducible repeat (first | apply Kd.R_alloc | apply Kd.R_drewN | apply Kd.R_drew)); exact Kd.R_mono HO_8.out (fun _ hk => hk.2)⟩, ⟨by (with_reducible repeat (first | apply Kd.R_alloc | apply Kd.R_drewN | apply Kd.R_drew)); exact HO_9.out⟩, ⟨by repeat (first | (with_reducible first | exact HB.out | apply below_alloc | apply pw_below_drewN | apply below_drew1) | exact HB.out)⟩⟩
/-! ### spec_l18Tiles: function 73 -/
def spec_l18Tiles.l0 : Nat → Int → Int → List (S29) → Option (Int)
  | 0, _, _, _ => none
  | k + 1, x3, x4, x960 => if 0 < (x960.length : Int) then (if x4 < (((rd_T29 x960 0).f2).length : Int) then (if 0 ≤ x4 then ((spec_l00Max.f x3 (wrap64 ((rd ((rd_T29 x960 0).f2) x4) + 1))).bind fun t226 => (spec_l18Tiles.l0 k t226 (wrap64 (x4 + 1)) x960)) else (none)) else (some x3)) else (none)
def spec_l18Tiles.f (k : Nat) (l0 : List (S29)) : Option (Int) := spec_l18Tiles.l0 k 0 0 l0
theorem spec_l18Tiles.mono_l : ∀ k, (∀ y0 y1 y2, LeO (spec_l18Tiles.l0 k y0 y1 y2) (spec_l18Tiles.l0 (k + 1) y0 y1 y2))
  | 0 => fun _ _ _ r h => by simp [spec_l18Tiles.l0] at h
  | k + 1 => by
    have ih0 := spec_l18Tiles.mono_l k
    · intro y0 y1 y2
      unfold spec_l18Tiles.l0
      repeat' first
      | (with_reducible exact ih0 _ _ _)
      | (with_reducible exact LeO.refl _)
      | (with_reducible exact LeO.none _)
      | (with_reducible refine LeO.ite ?_ ?_)
      | (with_reducible refine LeO.bind ?_ (fun _ => ?_))
      | exact ih0 _ _ _
      | exact LeO.none _
      | refine LeO.ite ?_ ?_
      | refine LeO.bind ?_ (fun _ => ?_)
theorem spec_l18Tiles.mono : ∀ a0 k, LeO (spec_l18Tiles.f k a0) (spec_l18Tiles.f (k + 1) a0) := by
  intro a0 k
  have ih0 := spec_l18Tiles.mono_l k
  unfold spec_l18Tiles.f
  repeat' first
      | (with_reducible exact ih0 _ _ _)
      | (with_reducible exact LeO.refl _)
      | (with_reducible exact LeO.none _)
      | (with_reducible refine LeO.ite ?_ ?_)
      | (with_reducible refine LeO.bind ?_ (fun _ => ?_))
      | exact ih0 _ _ _
      | exact LeO.none _
      | refine LeO.ite ?_ ?_
      | refine LeO.bind ?_ (fun _ => ?_)
open List renaming setIfInBounds_toArray → sA, set_cons_zero → sB, set_cons_succ → sC
open Go.Proofs.YtnidibnhojedoaaW.PrintWords.Aside0 renaming mk → mkA
open Go.Proofs.YtnidibnhojedoaaX (dt_ bc_ p0_ p1_ bl_ cb_ bs0_ bs1_ bs2_ bs3_ bs4_ bs5_ bs6_ bs7_ bs8_ bs9_ bs10_ bs11_ bs12_)
set_option maxHeartbeats 8000000 in
set_option maxRecDepth 100000 in
theorem spec_l18Tiles.calls (k : Nat) (A0 : Option Addr) (l0 : List (S29)) (r : Int) (w : World) (hr0 : Kd.C k29 w A0 l0.length l0) (h : spec_l18Tiles.f k l0 = some r) :
 Calls Try.prog 73 #[.pointer A0] w fun e w' => e = .returned (.int .i64 r) ∧ Drawn0 w w' := by
 have HR0 := mkA hr0
 clear hr0
 have H : (spec_l18Tiles.l0 k 0 0 l0) = some r := h
 clear h
 have H' := mkA H
 clear H
 go_enter Try.func73, Try.ntmps73
 go_wp2
 go_loopg [3, 4] k (fun kq v3 v4 w' => ∃ (x3_1 : Int) (x4_1 : Int), v3 = .int .i64 x3_1 ∧ v4 = .int .i64 x4_1 ∧ Aside0 (spec_l18Tiles.l0 kq x3_1 x4_1 l0 = some r) ∧ Aside0 (kq ≤ k) ∧ Drawn0 w w')
 case atStart => exact ⟨(0), (0), (by first | rfl | (simp; done) | (simp [*]; done) | (simp [i64_w, i32_w]; done)), (by first | rfl | (simp; done) | (simp [*]; done) | (simp [i64_w, i32_w]; done)), H', ⟨Nat.le_refl _⟩, by repeat (first | exact Drawn0.refl _ | apply Drawn0.step)⟩
 case round =>
  clear H'
  obtain ⟨x3_1, x4_1, rfl, rfl, HA, HK1, ⟨m1, rfl⟩⟩ := hrel
  cases gk with
  | zero => exact absurd HA.out (by simp [spec_l18Tiles.l0])
  | succ k1 =>
   have H := HA.out
   clear HA
   simp only [spec_l18Tiles.l0] at H
   by_cases c2 : 0 < (l0.length : Int)
   rotate_left
   · rw [if_neg c2] at H
     exact absurd H (by simp)

   rw [if_pos c2] at H
   have c2b0 : decide (0 < (l0.length : Int)) = true := decide_eq_true c2
   have c2b1 : decide (0 < l0.length) = true := decide_eq_true (by omega)
   clear c2
   by_cases c3 : x4_1 < (((rd_T29 l0 0).f2).length : Int)
   rotate_left
   · rw [if_neg c3] at H
     have c3b0 : decide (x4_1 < (((rd_T29 l0 0).f2).length : Int)) = false := decide_eq_false c3
     clear c3
     obtain rfl := Option.some.inj H
     have p223 : 0 ≤ (0 : Int) := (by omega)
     have q223 : 0 < (l0.length : Int) := dt_
     obtain ⟨ad223, A223_2, c223_2, e223, hx223_0, hx223_1, hx223_2, hl223_2, hi223_2⟩ := at0_T29 HR0.out q223
     cases e223
     have qi223 : (0 < l0.length) = True := eq_true (by omega)
     have HR223_2 := mkA hi223_2
     have HC223_2 := mkA hl223_2
     clear hi223_2 hl223_2
     replace p223 := eq_true p223
     replace q223 := eq_true q223
     go_wp2
     go_ret
     exact ⟨by first | rfl | (simp; done) | (simp [*]; done) | (simp [i64_w, i32_w]; done), by repeat (first | exact Drawn0.refl _ | apply Drawn0.step)⟩
   rw [if_pos c3] at H
   have c3b0 : decide (x4_1 < (((rd_T29 l0 0).f2).length : Int)) = true := decide_eq_true c3
   clear c3
   by_cases c4 : 0 ≤ x4_1
   rotate_left
   · rw [if_neg c4] at H
     exact absurd H (by simp)
   rw [if_pos c4] at H
   have c4b0 : decide (0 ≤ x4_1) = true := decide_eq_true c4
   clear c4
   replace H := Option.bind_eq_some_iff.mp H
   obtain ⟨t226, A50, H⟩ := H
   replace H : (spec_l18Tiles.l0 k1 t226 (wrap64 (x4_1 + 1)) l0) = some r := H
   have A5 := mkA A50
   clear A50
   have H' := mkA H
   clear H
   have p223 : 0 ≤ (0 : Int) := (by omega)
   have q223 : 0 < (l0.length : Int) := dt_
   obtain ⟨ad223, A223_2, c223_2, e223, hx223_0, hx223_1, hx223_2, hl223_2, hi223_2⟩ := at0_T29 HR0.out q223
   cases e223
   have qi223 : (0 < l0.length) = True := eq_true (by omega)
   have HR223_2 := mkA hi223_2
   have HC223_2 := mkA hl223_2
   clear hi223_2 hl223_2
   replace p223 := eq_true p223
   replace q223 := eq_true q223
   have p224 : 0 ≤ (0 : Int) := (by omega)
   have q224 : 0 < (l0.length : Int) := dt_
   obtain ⟨ad224, A224_2, c224_2, e224, hx224_0, hx224_1, hx224_2, hl224_2, hi224_2⟩ := at0_T29 HR0.out q224
   obtain rfl : ad223 = ad224 := (by injection e224)
   have qi224 : (0 < l0.length) = True := eq_true (by omega)
   have HR224_2 := mkA hi224_2
   have HC224_2 := mkA hl224_2
   clear hi224_2 hl224_2
   replace p224 := eq_true p224
   replace q224 := eq_true q224
   have ea_ := Option.some.inj (hx223_2.symm.trans hx224_2)
   injection ea_ with ea_ en_ ec_
   subst ea_
   subst ec_
   clear en_
   have p225 : 0 ≤ (x4_1 : Int) := dt_
   have q225 : x4_1 < (((rd_T29 l0 0).f2).length : Int) := dt_
   obtain ⟨ad225, e225, hx225_0⟩ := Kd.at_int HR224_2.out x4_1 p225 q225
   cases e225
   replace p225 := eq_true p225
   replace q225 := eq_true q225
   go_wp2_with (first | ((with_reducible refine gate_callee (f := 92) rfl ?_); refine goesL_ (some 23) rfl rfl Try.func92 (by kernel_rfl) rfl #[.int .i64 x3_1, .int .i64 (wrap64 ((rd ((rd_T29 l0 0).f2) x4_1) + 1))] rfl (by (try simp only [List.map_toArray, List.map_cons, List.map_nil]); first | done | rfl | (simp only [List.length_drop, List.length_take]; rfl)) ?_; (with_reducible refine (spec_l00Max.calls x3_1 (wrap64 ((rd ((rd_T29 l0 0).f2) x4_1) + 1)) t226 _ A5.out).mono ?_); rintro e w' ⟨rfl, ⟨nd, rfl⟩⟩; refine ⟨_, rfl, ?_⟩))
   go_roundg k1
   case measure => have := HK1.out; omega
   case rel => exact ⟨(t226), (wrap64 (x4_1 + 1)), (by first | rfl | (simp; done) | (simp [*]; done) | (simp [i64_w, i32_w]; done)), (by first | rfl | (simp; done) | (simp [*]; done) | (simp [i64_w, i32_w]; done)), H', ⟨by have := HK1.out; omega⟩, by repeat (first | exact Drawn0.refl _ | apply Drawn0.step)⟩
end Go.Proofs.Ytnidibnhojedoaa.GFnExactSymmetriesOf

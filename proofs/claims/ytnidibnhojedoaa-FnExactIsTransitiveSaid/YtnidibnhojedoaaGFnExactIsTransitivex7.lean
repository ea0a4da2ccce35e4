-- Written by the session's own program (gen.py) out of the translation's print. Lean checks it.
import Derived.Test.YtnidibnhojedoaaGFnExactIsTransitivex0
import Derived.Test.YtnidibnhojedoaaGFnExactIsTransitivex6
namespace Go.Proofs.Ytnidibnhojedoaa.GFnExactIsTransitive
open Go.RowKit Go.Proofs.YtnidibnhojedoaaW.PrintWords Go.Proofs.YtnidibnhojedoaaW.PrintLast Go.Proofs.YtnidibnhojedoaaW.PrintMore
attribute [local go_sem] max2_int min2_int max_two min_two max_three min_three max_four min_four   -- for this text's walks alone
set_option linter.unusedVariables false
set_option linter.unusedSimpArgs false

/-! ### spec_l18All: function 78 -/
mutual
def spec_l18All.l0 : Nat → List (S31) → Int → Int → List (S29) → Option ((List (S31)))
  | 0, _, _, _, _ => none
  | k + 1, x3, x4, x5, x960 => if x5 < 8 then (if (Int.tmod x5 2) = 1 then (if 0 < (x960.length : Int) then (spec_l18All.j1 k x3 x4 x5 (((rd_T29 x960 0).f0) != ((rd_T29 x960 0).f1)) x960) else (none)) else (spec_l18All.j1 k x3 x4 x5 false x960)) else (some x3)
def spec_l18All.j1 : Nat → List (S31) → Int → Int → Bool → List (S29) → Option ((List (S31)))
  | 0, _, _, _, _, _ => none
  | k + 1, x3, x4, x5, x31, x960 => if x31 = true then (spec_l18All.l0 k x3 x4 (wrap64 (x5 + 1)) x960) else (spec_l18All.l1 k x3 x4 x5 0 x960)
def spec_l18All.l1 : Nat → List (S31) → Int → Int → Int → List (S29) → Option ((List (S31)))
  | 0, _, _, _, _, _ => none
  | k + 1, x3, x4, x5, x6, x960 => if 0 < (x960.length : Int) then (if x6 < ((rd_T29 x960 0).f0) then (spec_l18All.l2 k x3 x4 x5 x6 0 x960) else (spec_l18All.l0 k x3 x4 (wrap64 (x5 + 1)) x960)) else (none)
def spec_l18All.l2 : Nat → List (S31) → Int → Int → Int → Int → List (S29) → Option ((List (S31)))
  | 0, _, _, _, _, _, _ => none
  | k + 1, x3, x4, x5, x6, x7, x960 => if 0 < (x960.length : Int) then (if x7 < ((rd_T29 x960 0).f1) then ((spec_l18Images.f k x960 [(⟨x5, x6, x7⟩ : S31)] x4).bind fun bt232 => (if bt232.2 = true then (if x3.length < 5864062014805 then (spec_l18All.l2 k (x3 ++ [(⟨x5, x6, x7⟩ : S31)]) x4 x5 x6 (wrap64 (x7 + 1)) x960) else (none)) else (spec_l18All.l2 k x3 x4 x5 x6 (wrap64 (x7 + 1)) x960))) else (spec_l18All.l1 k x3 x4 x5 (wrap64 (x6 + 1)) x960)) else (none)
end
def spec_l18All.f (k : Nat) (l0 : List (S29)) : Option ((List (S31))) := (spec_l18Tiles.f k l0).bind fun t226 => (spec_l18All.l0 k (([] : List (S31))) t226 0 l0)
theorem spec_l18All.mono_l : ∀ k, (∀ y0 y1 y2 y3, LeO (spec_l18All.l0 k y0 y1 y2 y3) (spec_l18All.l0 (k + 1) y0 y1 y2 y3)) ∧ (∀ y0 y1 y2 y3 y4, LeO (spec_l18All.j1 k y0 y1 y2 y3 y4) (spec_l18All.j1 (k + 1) y0 y1 y2 y3 y4)) ∧ (∀ y0 y1 y2 y3 y4, LeO (spec_l18All.l1 k y0 y1 y2 y3 y4) (spec_l18All.l1 (k + 1) y0 y1 y2 y3 y4)) ∧ (∀ y0 y1 y2 y3 y4 y5, LeO (spec_l18All.l2 k y0 y1 y2 y3 y4 y5) (spec_l18All.l2 (k + 1) y0 y1 y2 y3 y4 y5))
  | 0 => ⟨fun _ _ _ _ r h => by simp [spec_l18All.l0] at h, fun _ _ _ _ _ r h => by simp [spec_l18All.j1] at h, fun _ _ _ _ _ r h => by simp [spec_l18All.l1] at h, fun _ _ _ _ _ _ r h => by simp [spec_l18All.l2] at h⟩
  | k + 1 => by
    obtain ⟨ih0, ih1, ih2, ih3⟩ := spec_l18All.mono_l k
    refine ⟨?_, ?_, ?_, ?_⟩
    · intro y0 y1 y2 y3
      unfold spec_l18All.l0
      repeat' first
      | (with_reducible exact ih0 _ _ _ _)
      | (with_reducible exact ih1 _ _ _ _ _)
      | (with_reducible exact ih2 _ _ _ _ _)
      | (with_reducible exact ih3 _ _ _ _ _ _)
      | (with_reducible exact spec_l18Images.mono _ _ _ _)
      | (with_reducible exact spec_l18Tiles.mono _ _)
      | (with_reducible exact LeO.refl _)
      | (with_reducible exact LeO.none _)
      | (with_reducible refine LeO.ite ?_ ?_)
      | (with_reducible refine LeO.bind ?_ (fun _ => ?_))
      | exact ih0 _ _ _ _
      | exact ih1 _ _ _ _ _
      | exact ih2 _ _ _ _ _
      | exact ih3 _ _ _ _ _ _
      | exact spec_l18Images.mono _ _ _ _
      | exact spec_l18Tiles.mono _ _
      | exact LeO.none _
      | refine LeO.ite ?_ ?_
      | refine LeO.bind ?_ (fun _ => ?_)
    · intro y0 y1 y2 y3 y4
      unfold spec_l18All.j1
      repeat' first
      | (with_reducible exact ih0 _ _ _ _)
      | (with_reducible exact ih1 _ _ _ _ _)
      | (with_reducible exact ih2 _ _ _ _ _)
      | (with_reducible exact ih3 _ _ _ _ _ _)
      | (with_reducible exact spec_l18Images.mono _ _ _ _)
      | (with_reducible exact spec_l18Tiles.mono _ _)
      | (with_reducible exact LeO.refl _)
      | (with_reducible exact LeO.none _)
      | (with_reducible refine LeO.ite ?_ ?_)
      | (with_reducible refine LeO.bind ?_ (fun _ => ?_))
      | exact ih0 _ _ _ _
      | exact ih1 _ _ _ _ _
      | exact ih2 _ _ _ _ _
      | exact ih3 _ _ _ _ _ _
      | exact spec_l18Images.mono _ _ _ _
      | exact spec_l18Tiles.mono _ _
      | exact LeO.none _
      | refine LeO.ite ?_ ?_
      | refine LeO.bind ?_ (fun _ => ?_)
    · intro y0 y1 y2 y3 y4
      unfold spec_l18All.l1
      repeat' first
      | (with_reducible exact ih0 _ _ _ _)
      | (with_reducible exact ih1 _ _ _ _ _)
      | (with_reducible exact ih2 _ _ _ _ _)
      | (with_reducible exact ih3 _ _ _ _ _ _)
      | (with_reducible exact spec_l18Images.mono _ _ _ _)
      | (with_reducible exact spec_l18Tiles.mono _ _)
      | (with_reducible exact LeO.refl _)
      | (with_reducible exact LeO.none _)
      | (with_reducible refine LeO.ite ?_ ?_)
      | (with_reducible refine LeO.bind ?_ (fun _ => ?_))
      | exact ih0 _ _ _ _
      | exact ih1 _ _ _ _ _
      | exact ih2 _ _ _ _ _
      | exact ih3 _ _ _ _ _ _
      | exact spec_l18Images.mono _ _ _ _
      | exact spec_l18Tiles.mono _ _
      | exact LeO.none _
      | refine LeO.ite ?_ ?_
      | refine LeO.bind ?_ (fun _ => ?_)
    · intro y0 y1 y2 y3 y4 y5
      unfold spec_l18All.l2
      repeat' first
      | (with_reducible exact ih0 _ _ _ _)
      | (with_reducible exact ih1 _ _ _ _ _)
      | (with_reducible exact ih2 _ _ _ _ _)
      | (with_reducible exact ih3 _ _ _ _ _ _)
      | (with_reducible exact spec_l18Images.mono _ _ _ _)
      | (with_reducible exact spec_l18Tiles.mono _ _)
      | (with_reducible exact LeO.refl _)
      | (with_reducible exact LeO.none _)
      | (with_reducible refine LeO.ite ?_ ?_)
      | (with_reducible refine LeO.bind ?_ (fun _ => ?_))
      | exact ih0 _ _ _ _
      | exact ih1 _ _ _ _ _
      | exact ih2 _ _ _ _ _
      | exact ih3 _ _ _ _ _ _
      | exact spec_l18Images.mono _ _ _ _
      | exact spec_l18Tiles.mono _ _
      | exact LeO.none _
      | refine LeO.ite ?_ ?_
      | refine LeO.bind ?_ (fun _ => ?_)
theorem spec_l18All.mono : ∀ a0 k, LeO (spec_l18All.f k a0) (spec_l18All.f (k + 1) a0) := by
  intro a0 k
  obtain ⟨ih0, ih1, ih2, ih3⟩ := spec_l18All.mono_l k
  unfold spec_l18All.f
  repeat' first
      | (with_reducible exact ih0 _ _ _ _)
      | (with_reducible exact ih1 _ _ _ _ _)
      | (with_reducible exact ih2 _ _ _ _ _)
      | (with_reducible exact ih3 _ _ _ _ _ _)
      | (with_reducible exact spec_l18Images.mono _ _ _ _)
      | (with_reducible exact spec_l18Tiles.mono _ _)
      | (with_reducible exact LeO.refl _)
      | (with_reducible exact LeO.none _)
      | (with_reducible refine LeO.ite ?_ ?_)
      | (with_reducible refine LeO.bind ?_ (fun _ => ?_))
      | exact ih0 _ _ _ _
      | exact ih1 _ _ _ _ _
      | exact ih2 _ _ _ _ _
      | exact ih3 _ _ _ _ _ _
      | exact spec_l18Images.mono _ _ _ _
      | exact spec_l18Tiles.mono _ _
      | exact LeO.none _
      | refine LeO.ite ?_ ?_
      | refine LeO.bind ?_ (fun _ => ?_)
open List renaming setIfInBounds_toArray → sA, set_cons_zero → sB, set_cons_succ → sC
open Go.Proofs.YtnidibnhojedoaaW.PrintWords.Aside0 renaming mk → mkA
open Go.Proofs.YtnidibnhojedoaaX (dt_ bc_ p0_ p1_ bl_ cb_ bs0_ bs1_ bs2_ bs3_ bs4_ bs5_ bs6_ bs7_ bs8_ bs9_ bs10_ bs11_ bs12_)
set_option maxHeartbeats 8000000 in
set_option maxRecDepth 100000 in
theorem spec_l18All.calls (k : Nat) (A0 : Option Addr) (l0 : List (S29)) (r : List (S31)) (w : World) (hr0 : Kd.C k29 w A0 l0.length l0) (h : spec_l18All.f k l0 = some r) :
 Calls Try.prog 78 #[.pointer A0] w fun e w' => ∃ v0_ : Value, e = .returned (v0_) ∧ Kd.R k31 31 w' w.heap.size (fun _ => True) v0_ r ∧ Below w.heap.size w w' := by
 have hu31 := Try.underlying31
 have HR0 := mkA hr0
 clear hr0
 have HB := mkA (Below.refl w.heap.size w)
 have H : ((spec_l18Tiles.f k l0).bind fun t226 => (spec_l18All.l0 k (([] : List (S31))) t226 0 l0)) = some r := h
 clear h
 obtain ⟨y223, hy223⟩ : ∃ y_ : List (S31), y_ = (([] : List (S31))) := ⟨_, rfl⟩
 replace H : ((spec_l18Tiles.f k l0).bind fun t226 => (spec_l18All.l0 k y223 t226 0 l0)) = some r := by first | (rw [hy223]; with_reducible exact H) | (have H2_ := (Option.bind_some _ _).symm.trans H; rw [hy223]; with_reducible exact H2_) | (have H2_ := (Option.bind_some _ _).symm.trans H; with_reducible exact H2_) | with_reducible exact H | (rw [hy223]; exact H) | exact H
 have Ny223 := mkA hy223
 clear hy223
 replace H := Option.bind_eq_some_iff.mp H
 obtain ⟨t226, A20, H⟩ := H
 replace H : (spec_l18All.l0 k y223 t226 0 l0) = some r := H
 have A2 := mkA A20
 clear A20
 have H' := mkA H
 clear H
 go_enter Try.func78, Try.ntmps78
 go_wp2_with (first | ((with_reducible refine gate_dst (N := 11) rfl ?_); refine Kd.R_lit k31 _ 31 ?hg (N := 11) ?hd (xs := ([] : List (S31))) (inner := []) (ok := fun _ => True) (okp := fun _ => True) ?hr ?hp (fun _ hk => hk) trivial (Below.refl _ _) (Nat.le_refl _) (by simp) ?_; (case hd => rfl); (case hg => rfl); (case hr => first | (go_simp; done) | (go_simp; rfl)); (case hp => exact (Reps.none _ _)); intro v224 w3 ho4 hb hg_ hnew_; clear hg_ hnew_; (first | rw [← Ny223.out] at ho4 | (simp only [Int.reduceToNat] at ho4; rw [← Ny223.out] at ho4)); have n0_ := mkA (Kd.R_lower ho4 (below_size (bs0_ HB.out))); have n1_ := mkA (below_step (bs0_ HB.out) hb); clear HB; have HO225 := n0_; have HB := n1_; clear n0_ n1_; clear hb ho4) | (go_at_call 73; (with_reducible refine (spec_l18Tiles.calls k _ l0 t226 _ ?side1 A2.out).mono ?_); (case side1 => exact cb_ HR0.out HB.out); rintro e w' ⟨rfl, ⟨nd, rfl⟩⟩; (try first | exact ⟨rfl, _, World.drewN_drewN _ _ _⟩ | exact ⟨rfl, _, Eq.trans (World.drewN_drewN _ _ _) (congrArg (World.drewN _) (Nat.add_assoc _ _ _))⟩)))
 repeat (go_quiet (first | ((with_reducible refine gate_dst (N := 11) rfl ?_); refine Kd.R_lit k31 _ 31 ?hg (N := 11) ?hd (xs := ([] : List (S31))) (inner := []) (ok := fun _ => True) (okp := fun _ => True) ?hr ?hp (fun _ hk => hk) trivial (Below.refl _ _) (Nat.le_refl _) (by simp) ?_; (case hd => rfl); (case hg => rfl); (case hr => first | (go_simp; done) | (go_simp; rfl)); (case hp => exact (Reps.none _ _)); intro v224 w3 ho4 hb hg_ hnew_; clear hg_ hnew_; (first | rw [← Ny223.out] at ho4 | (simp only [Int.reduceToNat] at ho4; rw [← Ny223.out] at ho4)); have n0_ := mkA (Kd.R_lower ho4 (below_size (bs0_ HB.out))); have n1_ := mkA (below_step (bs0_ HB.out) hb); clear HB; have HO225 := n0_; have HB := n1_; clear n0_ n1_; clear hb ho4) | (go_at_call 73; (with_reducible refine (spec_l18Tiles.calls k _ l0 t226 _ ?side1 A2.out).mono ?_); (case side1 => exact cb_ HR0.out HB.out); rintro e w' ⟨rfl, ⟨nd, rfl⟩⟩; (try first | exact ⟨rfl, _, World.drewN_drewN _ _ _⟩ | exact ⟨rfl, _, Eq.trans (World.drewN_drewN _ _ _) (congrArg (World.drewN _) (Nat.add_assoc _ _ _))⟩))); try go_wp2_with (first | ((with_reducible refine gate_dst (N := 11) rfl ?_); refine Kd.R_lit k31 _ 31 ?hg (N := 11) ?hd (xs := ([] : List (S31))) (inner := []) (ok := fun _ => True) (okp := fun _ => True) ?hr ?hp (fun _ hk => hk) trivial (Below.refl _ _) (Nat.le_refl _) (by simp) ?_; (case hd => rfl); (case hg => rfl); (case hr => first | (go_simp; done) | (go_simp; rfl)); (case hp => exact (Reps.none _ _)); intro v224 w3 ho4 hb hg_ hnew_; clear hg_ hnew_; (first | rw [← Ny223.out] at ho4 | (simp only [Int.reduceToNat] at ho4; rw [← Ny223.out] at ho4)); have n0_ := mkA (Kd.R_lower ho4 (below_size (bs0_ HB.out))); have n1_ := mkA (below_step (bs0_ HB.out) hb); clear HB; have HO225 := n0_; have HB := n1_; clear n0_ n1_; clear hb ho4) | (go_at_call 73; (with_reducible refine (spec_l18Tiles.calls k _ l0 t226 _ ?side1 A2.out).mono ?_); (case side1 => exact cb_ HR0.out HB.out); rintro e w' ⟨rfl, ⟨nd, rfl⟩⟩; (try first | exact ⟨rfl, _, World.drewN_drewN _ _ _⟩ | exact ⟨rfl, _, Eq.trans (World.drewN_drewN _ _ _) (congrArg (World.drewN _) (Nat.add_assoc _ _ _))⟩))))
 go_loopg [3, 5] k (fun kq v3 v5 w' => ∃ (x3_1 : List (S31)) (x5_1 : Int), v5 = .int .i64 x5_1 ∧ Aside0 (spec_l18All.l0 kq x3_1 t226 x5_1 l0 = some r) ∧ Aside0 (kq ≤ k) ∧ Aside0 (Kd.R k31 31 w' w.heap.size (fun _ => True) v3 x3_1) ∧ Aside0 (Below w.heap.size w w'))
 case atStart => exact ⟨(y223), (0), (by first | rfl | (simp; done) | (simp [*]; done) | (simp [i64_w, i32_w]; done)), H', ⟨Nat.le_refl _⟩, ⟨by (with_reducible repeat (first | apply Kd.R_alloc | apply Kd.R_drewN | apply Kd.R_drew)); exact HO225.out⟩, ⟨by repeat (first | (with_reducible first | exact HB.out | apply below_alloc | apply pw_below_drewN | apply below_drew1) | exact HB.out)⟩⟩
 case round =>
  clear H'
  try clear p2
  obtain ⟨x3_1, x5_1, rfl, HA, HK1, HO_3, HB⟩ := hrel
  cases gk with
  | zero => exact absurd HA.out (by simp [spec_l18All.l0])
  | succ k1 =>
   have H := HA.out
   clear HA
   simp only [spec_l18All.l0] at H
   by_cases c5 : x5_1 < 8
   rotate_left
   · rw [if_neg c5] at H
     have c5b0 : decide (x5_1 < 8) = false := decide_eq_false c5
     clear c5
     obtain rfl := Option.some.inj H
     go_wp2
     repeat (go_quiet (fail); try go_wp2)
     go_ret
     exact ⟨_, by first | rfl | (simp [errW_none, errW_some] <;> rfl) | (simp [*, errW_none, errW_some] <;> rfl), by (with_reducible repeat (first | apply Kd.R_alloc | apply Kd.R_drewN | apply Kd.R_drew)); exact HO_3.out, by repeat (first | (with_reducible first | exact HB.out | apply below_alloc | apply pw_below_drewN | apply below_drew1) | exact HB.out)⟩

   rw [if_pos c5] at H
   have c5b0 : decide (x5_1 < 8) = true := decide_eq_true c5
   clear c5
   have HC6 := mkA H
   clear H
   go_upto_region 6 with (fail)
   repeat (go_quiet (fail); go_upto_region 6 with (fail))
   go_cut [31] (fun v31 wc => ∃ (kq : Nat) (x31_5 : Bool), v31 = .bool x31_5 ∧ Aside0 (spec_l18All.j1 kq x3_1 t226 x5_1 x31_5 l0 = some r) ∧ Aside0 (kq ≤ k1) ∧ Aside0 (Kd.R k31 31 wc w.heap.size (fun _ => True) u3 x3_1) ∧ Aside0 (Below w.heap.size w wc))
   case first =>
    have H := HC6.out
    clear HC6
    by_cases c7 : (Int.tmod x5_1 2) = 1
    rotate_left
    · rw [if_neg c7] at H
      have c7b0 : ((Int.tmod x5_1 2) == 1) = false := beq_eq_false_iff_ne.mpr c7
      have c7b1 : ((Int.tmod x5_1 2) != 1) = true := bne_iff_ne.mpr c7
      (first | rw [c7b0] | (simp only [i64_w, i32_w]; rw [c7b0]) | skip)
      have H' := mkA H
      clear H
      go_wp2
      repeat (go_quiet (fail); try go_wp2)
      go_meet
      case rel => exact ⟨_, (false), (by first | rfl | (simp; done) | (simp [*]; done) | (simp [i64_w, i32_w]; done)), H', ⟨by have := HK1.out; first | omega | exact Nat.le_refl _⟩, ⟨by (with_reducible repeat (first | apply Kd.R_alloc | apply Kd.R_drewN | apply Kd.R_drew)); exact HO_3.out⟩, ⟨by repeat (first | (with_reducible first | exact HB.out | apply below_alloc | apply pw_below_drewN | apply below_drew1) | exact HB.out)⟩⟩
    rw [if_pos c7] at H
    have c7b0 : ((Int.tmod x5_1 2) == 1) = true := beq_iff_eq.mpr c7
    have c7b1 : ((Int.tmod x5_1 2) != 1) = false := bne_eq_false_iff_eq.mpr c7
    clear c7
    (first | rw [c7b0] | (simp only [i64_w, i32_w]; rw [c7b0]) | skip)
    by_cases c8 : 0 < (l0.length : Int)
    rotate_left
    · rw [if_neg c8] at H
      exact absurd H (by simp)
    rw [if_pos c8] at H
    have c8b0 : decide (0 < (l0.length : Int)) = true := decide_eq_true c8
    have c8b1 : decide (0 < l0.length) = true := decide_eq_true (by omega)
    clear c8
    have H' := mkA H
    clear H
    have p227 : 0 ≤ (0 : Int) := (by omega)
    have q227 : 0 < (l0.length : Int) := dt_
    obtain ⟨ad227, A227_2, c227_2, e227, hx227_0, hx227_1, hx227_2, hl227_2, hi227_2⟩ := at0_T29 HR0.out q227
    cases e227
    have qi227 : (0 < l0.length) = True := eq_true (by omega)
    replace hx227_0 := bc_ HB.out hx227_0
    replace hx227_1 := bc_ HB.out hx227_1
    replace hx227_2 := bc_ HB.out hx227_2
    have HR227_2 := mkA hi227_2
    have HC227_2 := mkA hl227_2
    clear hi227_2 hl227_2
    replace p227 := eq_true p227
    replace q227 := eq_true q227
    have p228 : 0 ≤ (0 : Int) := (by omega)
    have q228 : 0 < (l0.length : Int) := dt_
    obtain ⟨ad228, A228_2, c228_2, e228, hx228_0, hx228_1, hx228_2, hl228_2, hi228_2⟩ := at0_T29 HR0.out q228
    obtain rfl : ad227 = ad228 := (by injection e228)
    have qi228 : (0 < l0.length) = True := eq_true (by omega)
    replace hx228_0 := bc_ HB.out hx228_0
    replace hx228_1 := bc_ HB.out hx228_1
    replace hx228_2 := bc_ HB.out hx228_2
    have HR228_2 := mkA hi228_2
    have HC228_2 := mkA hl228_2
    clear hi228_2 hl228_2
    replace p228 := eq_true p228
    replace q228 := eq_true q228
    have ea_ := Option.some.inj (hx227_2.symm.trans hx228_2)
    injection ea_ with ea_ en_ ec_
    subst ea_
    subst ec_
    clear en_
    go_wp2
    repeat (go_quiet (fail); try go_wp2)
    go_meet
    case rel => exact ⟨_, ((((rd_T29 l0 0).f0) != ((rd_T29 l0 0).f1))), (by first | rfl | (simp; done) | (simp [*]; done) | (simp [i64_w, i32_w]; done)), H', ⟨by have := HK1.out; first | omega | exact Nat.le_refl _⟩, ⟨by (with_reducible repeat (first | apply Kd.R_alloc | apply Kd.R_drewN | apply Kd.R_drew)); exact HO_3.out⟩, ⟨by repeat (first | (with_reducible first | exact HB.out | apply below_alloc | apply pw_below_drewN | apply below_drew1) | exact HB.out)⟩⟩
   case rest =>
    clear HC6
    try clear c2
    try clear p2
    try clear q2
    try clear hx2
    try clear qi2
    try clear c5
    try clear c5b0
    try clear c7
    try clear c7b0
    try clear c7b1
    try clear c8
    try clear c8b0
    try clear c8b1
    try clear hx227_0
    try clear hx227_1
    try clear hx227_2
    try clear hx228_0
    try clear hx228_1
    try clear hx228_2
    try clear p2
    try clear p227
    try clear p228
    try clear q227
    try clear q228
    obtain ⟨kq, x31_5, rfl, HA, HJ5, HO_3, HB⟩ := hcut
    cases kq with
    | zero => exact absurd HA.out (by simp [spec_l18All.j1])
    | succ kj5 =>
     have H := HA.out
     clear HA
     simp only [spec_l18All.j1] at H
     by_cases c9 : x31_5 = true
     · subst c9
       have H1 : (spec_l18All.l0 kj5 x3_1 t226 (wrap64 (x5_1 + 1)) l0) = some r := by rw [if_pos rfl] at H; exact H
       clear H
       have H := H1
       clear H1
       have H' := mkA H
       clear H
       go_wp2
       repeat (go_quiet (fail); try go_wp2)
       go_roundg kj5
       case measure => have := HK1.out; have := HJ5.out; omega
       case rel => exact ⟨(x3_1), (wrap64 (x5_1 + 1)), (by first | rfl | (simp; done) | (simp [*]; done) | (simp [i64_w, i32_w]; done)), H', ⟨by have := HK1.out; have := HJ5.out; omega⟩, ⟨by (with_reducible repeat (first | apply Kd.R_alloc | apply Kd.R_drewN | apply Kd.R_drew)); exact HO_3.out⟩, ⟨by repeat (first | (with_reducible first | exact HB.out | apply below_alloc | apply pw_below_drewN | apply below_drew1) | exact HB.out)⟩⟩
     · replace c9 := Bool.eq_false_iff.mpr c9
       subst c9
       have H1 : (spec_l18All.l1 kj5 x3_1 t226 x5_1 0 l0) = some r := by rw [if_neg (show ¬ (false = true) by decide)] at H; exact H
       clear H
       have H := H1
       clear H1
       have H' := mkA H
       clear H
       go_wp2
       repeat (go_quiet (fail); try go_wp2)
       go_loopg [3, 6] kj5 (fun kq v3 v6 w' => ∃ (x3_3 : List (S31)) (x6_3 : Int), v6 = .int .i64 x6_3 ∧ Aside0 (spec_l18All.l1 kq x3_3 t226 x5_1 x6_3 l0 = some r) ∧ Aside0 (kq ≤ kj5) ∧ Aside0 (Kd.R k31 31 w' w.heap.size (fun _ => True) v3 x3_3) ∧ Aside0 (Below w.heap.size w w'))
       case atStart => exact ⟨(x3_1), (0), (by first | rfl | (simp; done) | (simp [*]; done) | (simp [i64_w, i32_w]; done)), H', ⟨Nat.le_refl _⟩, ⟨by (with_reducible repeat (first | apply Kd.R_alloc | apply Kd.R_drewN | apply Kd.R_drew)); exact HO_3.out⟩, ⟨by repeat (first | (with_reducible first | exact HB.out | apply below_alloc | apply pw_below_drewN | apply below_drew1) | exact HB.out)⟩⟩
       case round =>
        clear H'
        try clear c2
        try clear p2
        try clear q2
        try clear hx2
        try clear qi2
        try clear c5
        try clear c5b0
        try clear p6
        try clear c7
        try clear c7b0
        try clear c7b1
        try clear c8
        try clear c8b0
        try clear c8b1
        try clear c9
        try clear hx227_0
        try clear hx227_1
        try clear hx227_2
        try clear hx228_0
        try clear hx228_1
        try clear hx228_2
        try clear p2
        try clear p227
        try clear p228
        try clear q2
        try clear q227
        try clear q228
        obtain ⟨x3_3, x6_3, rfl, HA, HK3, HO_3, HB⟩ := hrel
        cases gk with
        | zero => exact absurd HA.out (by simp [spec_l18All.l1])
        | succ k3 =>
         have H := HA.out
         clear HA
         simp only [spec_l18All.l1] at H
         by_cases c10 : 0 < (l0.length : Int)
         rotate_left
         · rw [if_neg c10] at H
           exact absurd H (by simp)
         rw [if_pos c10] at H
         have c10b0 : decide (0 < (l0.length : Int)) = true := decide_eq_true c10
         have c10b1 : decide (0 < l0.length) = true := decide_eq_true (by omega)
         clear c10
         by_cases c11 : x6_3 < ((rd_T29 l0 0).f0)
         rotate_left
         · rw [if_neg c11] at H
           have c11b0 : decide (x6_3 < ((rd_T29 l0 0).f0)) = false := decide_eq_false c11
           clear c11
           have H' := mkA H
           clear H
           have p229 : 0 ≤ (0 : Int) := (by omega)
           have q229 : 0 < (l0.length : Int) := dt_
           obtain ⟨ad229, A229_2, c229_2, e229, hx229_0, hx229_1, hx229_2, hl229_2, hi229_2⟩ := at0_T29 HR0.out q229
           cases e229
           have qi229 : (0 < l0.length) = True := eq_true (by omega)
           replace hx229_0 := bc_ HB.out hx229_0
           replace hx229_1 := bc_ HB.out hx229_1
           replace hx229_2 := bc_ HB.out hx229_2
           have HR229_2 := mkA hi229_2
           have HC229_2 := mkA hl229_2
           clear hi229_2 hl229_2
           replace p229 := eq_true p229
           replace q229 := eq_true q229
           go_wp2
           repeat (go_quiet (fail); try go_wp2)
           go_roundg k3
           case measure => have := HK1.out; have := HJ5.out; have := HK3.out; omega
           case rel => exact ⟨(x3_3), (wrap64 (x5_1 + 1)), (by first | rfl | (simp; done) | (simp [*]; done) | (simp [i64_w, i32_w]; done)), H', ⟨by have := HK1.out; have := HJ5.out; have := HK3.out; omega⟩, ⟨by (with_reducible repeat (first | apply Kd.R_alloc | apply Kd.R_drewN | apply Kd.R_drew)); exact HO_3.out⟩, ⟨by repeat (first | (with_reducible first | exact HB.out | apply below_alloc | apply pw_below_drewN | apply below_drew1) | exact HB.out)⟩⟩
         rw [if_pos c11] at H
         have c11b0 : decide (x6_3 < ((rd_T29 l0 0).f0)) = true := decide_eq_true c11
         clear c11
         have H' := mkA H
         clear H
         have p229 : 0 ≤ (0 : Int) := (by omega)
         have q229 : 0 < (l0.length : Int) := dt_
         obtain ⟨ad229, A229_2, c229_2, e229, hx229_0, hx229_1, hx229_2, hl229_2, hi229_2⟩ := at0_T29 HR0.out q229
         cases e229
         have qi229 : (0 < l0.length) = True := eq_true (by omega)
         replace hx229_0 := bc_ HB.out hx229_0
         replace hx229_1 := bc_ HB.out hx229_1
         replace hx229_2 := bc_ HB.out hx229_2
         have HR229_2 := mkA hi229_2
         have HC229_2 := mkA hl229_2
         clear hi229_2 hl229_2
         replace p229 := eq_true p229
         replace q229 := eq_true q229
         go_wp2
         repeat (go_quiet (fail); try go_wp2)
         go_loopg [3, 7] k3 (fun kq v3 v7 w' => ∃ (x3_4 : List (S31)) (x7_4 : Int), v7 = .int .i64 x7_4 ∧ Aside0 (spec_l18All.l2 kq x3_4 t226 x5_1 x6_3 x7_4 l0 = some r) ∧ Aside0 (kq ≤ k3) ∧ Aside0 (Kd.R k31 31 w' w.heap.size (fun _ => True) v3 x3_4) ∧ Aside0 (Below w.heap.size w w'))
         case atStart => exact ⟨(x3_3), (0), (by first | rfl | (simp; done) | (simp [*]; done) | (simp [i64_w, i32_w]; done)), H', ⟨Nat.le_refl _⟩, ⟨by (with_reducible repeat (first | apply Kd.R_alloc | apply Kd.R_drewN | apply Kd.R_drew)); exact HO_3.out⟩, ⟨by repeat (first | (with_reducible first | exact HB.out | apply below_alloc | apply pw_below_drewN | apply below_drew1) | exact HB.out)⟩⟩
         case round =>
          clear H'
          try clear c1
          try clear c2
          try clear p2
          try clear q2
          try clear hx2
          try clear qi2
          try clear c5
          try clear c5b0
          try clear p6
          try clear c7
          try clear c7b0
          try clear c7b1
          try clear c8
          try clear c8b0
          try clear c8b1
          try clear c9
          try clear c10
          try clear c10b0
          try clear c10b1
          try clear c11
          try clear c11b0
          try clear hx227_0
          try clear hx227_1
          try clear hx227_2
          try clear hx228_0
          try clear hx228_1
          try clear hx228_2
          try clear hx229_0
          try clear hx229_1
          try clear hx229_2
          try clear p2
          try clear p227
          try clear p228
          try clear p229
          try clear p6
          try clear q2
          try clear q227
          try clear q228
          try clear q229
          obtain ⟨x3_4, x7_4, rfl, HA, HK4, HO_3, HB⟩ := hrel
          cases gk with
          | zero => exact absurd HA.out (by simp [spec_l18All.l2])
          | succ k4 =>
           have H := HA.out
           clear HA
           simp only [spec_l18All.l2] at H
           by_cases c12 : 0 < (l0.length : Int)
           rotate_left
           · rw [if_neg c12] at H
             exact absurd H (by simp)
           rw [if_pos c12] at H
           have c12b0 : decide (0 < (l0.length : Int)) = true := decide_eq_true c12
           have c12b1 : decide (0 < l0.length) = true := decide_eq_true (by omega)
           clear c12
           by_cases c13 : x7_4 < ((rd_T29 l0 0).f1)
           rotate_left
           · rw [if_neg c13] at H
             have c13b0 : decide (x7_4 < ((rd_T29 l0 0).f1)) = false := decide_eq_false c13
             clear c13
             have H' := mkA H
             clear H
             have p230 : 0 ≤ (0 : Int) := (by omega)
             have q230 : 0 < (l0.length : Int) := dt_
             obtain ⟨ad230, A230_2, c230_2, e230, hx230_0, hx230_1, hx230_2, hl230_2, hi230_2⟩ := at0_T29 HR0.out q230
             obtain rfl : ad229 = ad230 := (by injection e230)
             have qi230 : (0 < l0.length) = True := eq_true (by omega)
             replace hx230_0 := bc_ HB.out hx230_0
             replace hx230_1 := bc_ HB.out hx230_1
             replace hx230_2 := bc_ HB.out hx230_2
             have HR230_2 := mkA hi230_2
             have HC230_2 := mkA hl230_2
             clear hi230_2 hl230_2
             replace p230 := eq_true p230
             replace q230 := eq_true q230
             go_wp2
             repeat (go_quiet (fail); try go_wp2)
             go_roundg k4
             case measure => have := HK1.out; have := HJ5.out; have := HK3.out; have := HK4.out; omega
             case rel => exact ⟨(x3_4), (wrap64 (x6_3 + 1)), (by first | rfl | (simp; done) | (simp [*]; done) | (simp [i64_w, i32_w]; done)), H', ⟨by have := HK1.out; have := HJ5.out; have := HK3.out; have := HK4.out; omega⟩, ⟨by (with_reducible repeat (first | apply Kd.R_alloc | apply Kd.R_drewN | apply Kd.R_drew)); exact HO_3.out⟩, ⟨by repeat (first | (with_reducible first | exact HB.out | apply below_alloc | apply pw_below_drewN | apply below_drew1) | exact HB.out)⟩⟩
           rw [if_pos c13] at H
           have c13b0 : decide (x7_4 < ((rd_T29 l0 0).f1)) = true := decide_eq_true c13
           clear c13
           replace H := Option.bind_eq_some_iff.mp H
           obtain ⟨⟨t232, t233⟩, A140, H⟩ := H
           replace H : (if t233 = true then (if x3_4.length < 5864062014805 then (spec_l18All.l2 k4 (x3_4 ++ [(⟨x5_1, x6_3, x7_4⟩ : S31)]) t226 x5_1 x6_3 (wrap64 (x7_4 + 1)) l0) else (none)) else (spec_l18All.l2 k4 x3_4 t226 x5_1 x6_3 (wrap64 (x7_4 + 1)) l0)) = some r := H
           have A14 := mkA A140
           clear A140
           by_cases c15 : t233 = true
           rotate_left
           · replace c15 := Bool.eq_false_iff.mpr c15
             subst c15
             have H1 : (spec_l18All.l2 k4 x3_4 t226 x5_1 x6_3 (wrap64 (x7_4 + 1)) l0) = some r := by rw [if_neg (show ¬ (false = true) by decide)] at H; exact H
             clear H
             have H := H1
             clear H1
             have H' := mkA H
             clear H
             have p230 : 0 ≤ (0 : Int) := (by omega)
             have q230 : 0 < (l0.length : Int) := dt_
             obtain ⟨ad230, A230_2, c230_2, e230, hx230_0, hx230_1, hx230_2, hl230_2, hi230_2⟩ := at0_T29 HR0.out q230
             obtain rfl : ad229 = ad230 := (by injection e230)
             have qi230 : (0 < l0.length) = True := eq_true (by omega)
             replace hx230_0 := bc_ HB.out hx230_0
             replace hx230_1 := bc_ HB.out hx230_1
             replace hx230_2 := bc_ HB.out hx230_2
             have HR230_2 := mkA hi230_2
             have HC230_2 := mkA hl230_2
             clear hi230_2 hl230_2
             replace p230 := eq_true p230
             replace q230 := eq_true q230
             have gt_ := trivial; repeat (clear gt_; try go_wp2_with (first | ((with_reducible refine gate_dst (N := 8) rfl ?_); refine box_event ?hg (N := 8) ?hd (cs := #[.int .i64 0, .int .i64 0, .int .i64 0]) (t := 31) ?hr ?_; (case hd => rfl); (case hg => rfl); (case hr => first | (go_simp; done) | (go_simp; rfl)); intro gb231 hg w22 hbox hb; have n0_ := mkA (Kd.R_below (Kd.R_elderB (by (with_reducible repeat (first | apply Kd.R_alloc | apply Kd.R_drewN | apply Kd.R_drew)); exact HO_3.out) gb231 (Nat.le_of_eq hg.symm)) hb); have n1_ := mkA (below_step (bs0_ HB.out) hb); have n2_ := mkA (hbox); have n3_ := mkA ((by rw [hg]; exact (below_size (bs0_ HB.out)) : w.heap.size ≤ gb231)); have n4_ := mkA ((by rw [hg]; exact (below_size (bs0_ HB.out)) : w.heap.size ≤ gb231)); clear HO_3; clear HB; have HO_3 := n0_; have HB := n1_; have BK231 := n2_; have GW231 := n3_; have GE231 := n4_; clear n0_ n1_ n2_ n3_ n4_; clear hb hbox hg; have hcz23_0 : w22.cell? ⟨gb231, 0, none⟩ = some (.int .i64 0) := (blk_cell BK231.out 0).trans rfl; have hcz23_1 : w22.cell? ⟨gb231, 1, none⟩ = some (.int .i64 0) := (blk_cell BK231.out 1).trans rfl; have hcz23_2 : w22.cell? ⟨gb231, 2, none⟩ = some (.int .i64 0) := (blk_cell BK231.out 2).trans rfl; have hfz23_0 := blk_frozen BK231.out 0; have hfz23_1 := blk_frozen BK231.out 1; have hfz23_2 := blk_frozen BK231.out 2) | (go_at_call 72; (with_reducible refine (spec_l18Images.calls k4 _ l0 _ [(⟨x5_1, x6_3, x7_4⟩ : S31)] t226 t232 false _ ?side1 ?side2 A14.out).mono ?_); (case side1 => exact Kd.C_below HR0.out (bs1_ HB.out GE231.out)); (case side2 => exact Go.Proofs.YtnidibnhojedoaaX.rp_box (t := 31) (fr := (0, 0)) (by (with_reducible repeat (first | refine blk_drewN ?_ _ | refine blk_drew ?_ | refine blk_alloc ?_ _)); refine blk_put (cs := #[.int .i64 x5_1, .int .i64 x6_3, .int .i64 0]) ?_ 2 _ rfl; (with_reducible repeat (first | refine blk_drewN ?_ _ | refine blk_drew ?_ | refine blk_alloc ?_ _)); refine blk_put (cs := #[.int .i64 x5_1, .int .i64 0, .int .i64 0]) ?_ 1 _ rfl; (with_reducible repeat (first | refine blk_drewN ?_ _ | refine blk_drew ?_ | refine blk_alloc ?_ _)); refine blk_put (cs := #[.int .i64 0, .int .i64 0, .int .i64 0]) ?_ 0 _ rfl; (with_reducible repeat (first | refine blk_drewN ?_ _ | refine blk_drew ?_ | refine blk_alloc ?_ _)); exact BK231.out) (k31_mk _ (⟨x5_1, x6_3, x7_4⟩ : S31) )); rintro e w24 ⟨v234, rfl, ho0, hb⟩; have n0_ := mkA (Kd.R_below (by (with_reducible repeat (first | apply Kd.R_alloc | apply Kd.R_drewN | apply Kd.R_drew)); exact (Kd.R_mono (Kd.R_far (p := ⟨gb231, 2, none⟩) (Kd.R_far (p := ⟨gb231, 1, none⟩) (Kd.R_far (p := ⟨gb231, 0, none⟩) (Kd.R_mono HO_3.out (fun k_ hk => (⟨hk, hk.2⟩ : _ ∧ k_ ≠ gb231))) (fun _ hk => hk.2) (.int .i64 x5_1)) (fun _ hk => hk.2) (.int .i64 x6_3)) (fun _ hk => hk.2) (.int .i64 x7_4)) (fun _ h_ => h_.1))) hb); have n1_ := mkA (Kd.R_lower ho0 (below_size (bs1_ HB.out GE231.out))); have n2_ := mkA (blk_below (g := gb231) (o := .cells #[.int .i64 x5_1, .int .i64 x6_3, .int .i64 x7_4] 31 (0, 0)) (by (with_reducible repeat (first | refine blk_drewN ?_ _ | refine blk_drew ?_ | refine blk_alloc ?_ _)); refine blk_put (cs := #[.int .i64 x5_1, .int .i64 x6_3, .int .i64 0]) ?_ 2 _ rfl; (with_reducible repeat (first | refine blk_drewN ?_ _ | refine blk_drew ?_ | refine blk_alloc ?_ _)); refine blk_put (cs := #[.int .i64 x5_1, .int .i64 0, .int .i64 0]) ?_ 1 _ rfl; (with_reducible repeat (first | refine blk_drewN ?_ _ | refine blk_drew ?_ | refine blk_alloc ?_ _)); refine blk_put (cs := #[.int .i64 0, .int .i64 0, .int .i64 0]) ?_ 0 _ rfl; (with_reducible repeat (first | refine blk_drewN ?_ _ | refine blk_drew ?_ | refine blk_alloc ?_ _)); exact BK231.out) hb); have n3_ := mkA (below_step (bs1_ HB.out GE231.out) hb); clear HO_3; clear BK231; clear HB; have HO_3 := n0_; have HO235 := n1_; have BK231 := n2_; have HB := n3_; clear n0_ n1_ n2_ n3_; (try clear hb); (try clear hb2); (try clear hk); (try clear hi); (try clear ho0))); try (go_quiet (fail); have gt_ := trivial))
             go_roundg k4
             case measure => have := HK1.out; have := HJ5.out; have := HK3.out; have := HK4.out; omega
             case rel => exact ⟨(x3_4), (wrap64 (x7_4 + 1)), (by first | rfl | (simp; done) | (simp [*]; done) | (simp [i64_w, i32_w]; done)), H', ⟨by have := HK1.out; have := HJ5.out; have := HK3.out; have := HK4.out; omega⟩, ⟨by (with_reducible repeat (first | apply Kd.R_alloc | apply Kd.R_drewN | apply Kd.R_drew)); exact Kd.R_mono HO_3.out (fun _ hk => trivial)⟩, ⟨by repeat (first | (with_reducible first | exact HB.out | apply below_alloc | apply pw_below_drewN | apply below_drew1 | refine below_set ?_ GE231.out) | exact HB.out)⟩⟩
           subst c15
           have H1 : (if x3_4.length < 5864062014805 then (spec_l18All.l2 k4 (x3_4 ++ [(⟨x5_1, x6_3, x7_4⟩ : S31)]) t226 x5_1 x6_3 (wrap64 (x7_4 + 1)) l0) else (none)) = some r := by rw [if_pos rfl] at H; exact H
           clear H
           have H := H1
           clear H1
           by_cases c16 : x3_4.length < 5864062014805
           rotate_left
           · rw [if_neg c16] at H
             exact absurd H (by simp)
           rw [if_pos c16] at H
           have LMc16 := mkA c16
           clear c16
           obtain ⟨y236, hy236⟩ : ∃ y_ : List (S31), y_ = (x3_4 ++ [(⟨x5_1, x6_3, x7_4⟩ : S31)]) := ⟨_, rfl⟩
           replace H : (spec_l18All.l2 k4 y236 t226 x5_1 x6_3 (wrap64 (x7_4 + 1)) l0) = some r := by first | (rw [hy236]; with_reducible exact H) | (have H2_ := (Option.bind_some _ _).symm.trans H; rw [hy236]; with_reducible exact H2_) | (have H2_ := (Option.bind_some _ _).symm.trans H; with_reducible exact H2_) | with_reducible exact H | (rw [hy236]; exact H) | exact H
           have Ny236 := mkA hy236
           clear hy236
           have H' := mkA H
           clear H
           have p230 : 0 ≤ (0 : Int) := (by omega)
           have q230 : 0 < (l0.length : Int) := dt_
           obtain ⟨ad230, A230_2, c230_2, e230, hx230_0, hx230_1, hx230_2, hl230_2, hi230_2⟩ := at0_T29 HR0.out q230
           obtain rfl : ad229 = ad230 := (by injection e230)
           have qi230 : (0 < l0.length) = True := eq_true (by omega)
           replace hx230_0 := bc_ HB.out hx230_0
           replace hx230_1 := bc_ HB.out hx230_1
           replace hx230_2 := bc_ HB.out hx230_2
           have HR230_2 := mkA hi230_2
           have HC230_2 := mkA hl230_2
           clear hi230_2 hl230_2
           replace p230 := eq_true p230
           replace q230 := eq_true q230
           have gt_ := trivial; repeat (clear gt_; try go_wp2_with (first | ((with_reducible refine gate_dst (N := 8) rfl ?_); refine box_event ?hg (N := 8) ?hd (cs := #[.int .i64 0, .int .i64 0, .int .i64 0]) (t := 31) ?hr ?_; (case hd => rfl); (case hg => rfl); (case hr => first | (go_simp; done) | (go_simp; rfl)); intro gb231 hg w17 hbox hb; have n0_ := mkA (Kd.R_below (Kd.R_elderB (by (with_reducible repeat (first | apply Kd.R_alloc | apply Kd.R_drewN | apply Kd.R_drew)); exact HO_3.out) gb231 (Nat.le_of_eq hg.symm)) hb); have n1_ := mkA (below_step (bs0_ HB.out) hb); have n2_ := mkA (hbox); have n3_ := mkA ((by rw [hg]; exact (below_size (bs0_ HB.out)) : w.heap.size ≤ gb231)); have n4_ := mkA ((by rw [hg]; exact (below_size (bs0_ HB.out)) : w.heap.size ≤ gb231)); clear HO_3; clear HB; have HO_3 := n0_; have HB := n1_; have BK231 := n2_; have GW231 := n3_; have GE231 := n4_; clear n0_ n1_ n2_ n3_ n4_; clear hb hbox hg; have hcz18_0 : w17.cell? ⟨gb231, 0, none⟩ = some (.int .i64 0) := (blk_cell BK231.out 0).trans rfl; have hcz18_1 : w17.cell? ⟨gb231, 1, none⟩ = some (.int .i64 0) := (blk_cell BK231.out 1).trans rfl; have hcz18_2 : w17.cell? ⟨gb231, 2, none⟩ = some (.int .i64 0) := (blk_cell BK231.out 2).trans rfl; have hfz18_0 := blk_frozen BK231.out 0; have hfz18_1 := blk_frozen BK231.out 1; have hfz18_2 := blk_frozen BK231.out 2) | (go_at_call 72; (with_reducible refine (spec_l18Images.calls k4 _ l0 _ [(⟨x5_1, x6_3, x7_4⟩ : S31)] t226 t232 true _ ?side1 ?side2 A14.out).mono ?_); (case side1 => exact Kd.C_below HR0.out (bs1_ HB.out GE231.out)); (case side2 => exact Go.Proofs.YtnidibnhojedoaaX.rp_box (t := 31) (fr := (0, 0)) (by (with_reducible repeat (first | refine blk_drewN ?_ _ | refine blk_drew ?_ | refine blk_alloc ?_ _)); refine blk_put (cs := #[.int .i64 x5_1, .int .i64 x6_3, .int .i64 0]) ?_ 2 _ rfl; (with_reducible repeat (first | refine blk_drewN ?_ _ | refine blk_drew ?_ | refine blk_alloc ?_ _)); refine blk_put (cs := #[.int .i64 x5_1, .int .i64 0, .int .i64 0]) ?_ 1 _ rfl; (with_reducible repeat (first | refine blk_drewN ?_ _ | refine blk_drew ?_ | refine blk_alloc ?_ _)); refine blk_put (cs := #[.int .i64 0, .int .i64 0, .int .i64 0]) ?_ 0 _ rfl; (with_reducible repeat (first | refine blk_drewN ?_ _ | refine blk_drew ?_ | refine blk_alloc ?_ _)); exact BK231.out) (k31_mk _ (⟨x5_1, x6_3, x7_4⟩ : S31) )); rintro e w19 ⟨v234, rfl, ho0, hb⟩; have n0_ := mkA (Kd.R_below (by (with_reducible repeat (first | apply Kd.R_alloc | apply Kd.R_drewN | apply Kd.R_drew)); exact (Kd.R_mono (Kd.R_far (p := ⟨gb231, 2, none⟩) (Kd.R_far (p := ⟨gb231, 1, none⟩) (Kd.R_far (p := ⟨gb231, 0, none⟩) (Kd.R_mono HO_3.out (fun k_ hk => (⟨hk, hk.2⟩ : _ ∧ k_ ≠ gb231))) (fun _ hk => hk.2) (.int .i64 x5_1)) (fun _ hk => hk.2) (.int .i64 x6_3)) (fun _ hk => hk.2) (.int .i64 x7_4)) (fun _ h_ => h_.1))) hb); have n1_ := mkA (Kd.R_lower ho0 (below_size (bs1_ HB.out GE231.out))); have n2_ := mkA (blk_below (g := gb231) (o := .cells #[.int .i64 x5_1, .int .i64 x6_3, .int .i64 x7_4] 31 (0, 0)) (by (with_reducible repeat (first | refine blk_drewN ?_ _ | refine blk_drew ?_ | refine blk_alloc ?_ _)); refine blk_put (cs := #[.int .i64 x5_1, .int .i64 x6_3, .int .i64 0]) ?_ 2 _ rfl; (with_reducible repeat (first | refine blk_drewN ?_ _ | refine blk_drew ?_ | refine blk_alloc ?_ _)); refine blk_put (cs := #[.int .i64 x5_1, .int .i64 0, .int .i64 0]) ?_ 1 _ rfl; (with_reducible repeat (first | refine blk_drewN ?_ _ | refine blk_drew ?_ | refine blk_alloc ?_ _)); refine blk_put (cs := #[.int .i64 0, .int .i64 0, .int .i64 0]) ?_ 0 _ rfl; (with_reducible repeat (first | refine blk_drewN ?_ _ | refine blk_drew ?_ | refine blk_alloc ?_ _)); exact BK231.out) hb); have n3_ := mkA (below_step (bs1_ HB.out GE231.out) hb); clear HO_3; clear BK231; clear HB; have HO_3 := n0_; have HO235 := n1_; have BK231 := n2_; have HB := n3_; clear n0_ n1_ n2_ n3_; (try clear hb); (try clear hb2); (try clear hk); (try clear hi); (try clear ho0); have hcz20_0 : w19.cell? ⟨gb231, 0, none⟩ = some (.int .i64 x5_1) := (blk_cell BK231.out 0).trans rfl; have hcz20_1 : w19.cell? ⟨gb231, 1, none⟩ = some (.int .i64 x6_3) := (blk_cell BK231.out 1).trans rfl; have hcz20_2 : w19.cell? ⟨gb231, 2, none⟩ = some (.int .i64 x7_4) := (blk_cell BK231.out 2).trans rfl; have hfz20_0 := blk_frozen BK231.out 0; have hfz20_1 := blk_frozen BK231.out 1; have hfz20_2 := blk_frozen BK231.out 2) | ((with_reducible refine gate_builtin (b := .append) (xs := #[.tmp 59, .tmp 61]) rfl ?_); at_builtin; refine Kd.R_append k31 (w0 := w) w.heap.size rfl (.tmp 59) (.tmp 61) 59 31 (.agg #[(.int .i64 0), (.int .i64 0), (.int .i64 0)]) 24 rfl Try.underlying59 info31 rfl (by decide) (by omega) u3 x3_4 (⟨x5_1, x6_3, x7_4⟩ : S31) [.int .i64 x5_1, .int .i64 x6_3, .int .i64 x7_4] (fun k_ => k_ ≠ gb231) (fun _ => False) rfl rfl ?aP (fun _ hk => hk.elim) ?aF ?aO ?aB ?aS ?aL ?_; (case aP => exact k31_mkM _ _ _ (⟨x5_1, x6_3, x7_4⟩ : S31)); (case aB => exact (bs1_ HB.out GE231.out)); (case aF => exact (fun k_ hk => Kd.freshB (g := gb231) (o := .cells #[.int .i64 x5_1, .int .i64 x6_3, .int .i64 x7_4] 31 (0, 0)) (bl_ BK231.out) k_ hk)); (case aO => exact (by (with_reducible repeat (first | apply Kd.R_alloc | apply Kd.R_drewN | apply Kd.R_drew)); exact Kd.R_mono HO_3.out (fun _ hk => hk.2))); (case aS => exact (below_size (bs1_ HB.out GE231.out))); (case aL => have := LMc16.out; omega); intro v237 w21 ho hb hg hat; rw [← Ny236.out] at ho; have n0_ := mkA (blk_grown (g := gb231) (o := .cells #[.int .i64 x5_1, .int .i64 x6_3, .int .i64 x7_4] 31 (0, 0)) (bl_ BK231.out) hg (Kd.R_away HO_3.out (fun _ hk => hk.2))); have n1_ := mkA (Kd.R_over' (by (with_reducible repeat (first | apply Kd.R_alloc | apply Kd.R_drewN | apply Kd.R_drew)); exact HO235.out) (Kd.R_typed (by (with_reducible repeat (first | apply Kd.R_alloc | apply Kd.R_drewN | apply Kd.R_drew)); exact HO_3.out)) (by decide) hg); have n2_ := mkA (hb); have n3_ := mkA (ho); clear BK231; clear HO235; clear HB; clear HO_3; have BK231 := n0_; have HO235 := n1_; have HB := n2_; have HO238 := n3_; clear n0_ n1_ n2_ n3_; clear ho hb hg hat)); try (go_quiet (fail); have gt_ := trivial))
           go_roundg k4
           case measure => have := HK1.out; have := HJ5.out; have := HK3.out; have := HK4.out; omega
           case rel => exact ⟨(y236), (wrap64 (x7_4 + 1)), (by first | rfl | (simp; done) | (simp [*]; done) | (simp [i64_w, i32_w]; done)), H', ⟨by have := HK1.out; have := HJ5.out; have := HK3.out; have := HK4.out; omega⟩, ⟨by (with_reducible repeat (first | apply Kd.R_alloc | apply Kd.R_drewN | apply Kd.R_drew)); exact Kd.R_mono HO238.out (fun _ hk => trivial)⟩, ⟨by repeat (first | (with_reducible first | exact HB.out | apply below_alloc | apply pw_below_drewN | apply below_drew1 | refine below_set ?_ GE231.out) | exact HB.out)⟩⟩
/-! ### spec_l00Min: function 97 -/
def spec_l00Min.f (a0 : Int) (a1 : Int) : Option (Int) := if a0 < a1 then (some a0) else (some a1)
set_option maxHeartbeats 8000000 in
set_option maxRecDepth 100000 in
theorem spec_l00Min.calls (a0 : Int) (a1 : Int) (r : Int) (w : World) (h : spec_l00Min.f a0 a1 = some r) :
    Calls Try.prog 97 #[.int .i64 a0, .int .i64 a1] w fun e w' => e = .returned (.int .i64 r) ∧ Drawn0 w w' := by
  have H : (if a0 < a1 then (some a0) else (some a1)) = some r := h
  clear h
  by_cases c3 : a0 < a1
  · rw [if_pos c3] at H
    have c3b0 : decide (a0 < a1) = true := decide_eq_true c3
    clear c3
    obtain rfl := Option.some.inj H
    go_enter Try.func97, Try.ntmps97
    go_wp2
    go_ret
    exact ⟨by first | rfl | (simp; done) | (simp [*]; done) | (simp [i64_w, i32_w]; done), by repeat (first | exact Drawn0.refl _ | apply Drawn0.step)⟩
  · rw [if_neg c3] at H
    have c3b0 : decide (a0 < a1) = false := decide_eq_false c3
    clear c3
    obtain rfl := Option.some.inj H
    go_enter Try.func97, Try.ntmps97
    go_wp2
    go_ret
    exact ⟨by first | rfl | (simp; done) | (simp [*]; done) | (simp [i64_w, i32_w]; done), by repeat (first | exact Drawn0.refl _ | apply Drawn0.step)⟩

end Go.Proofs.Ytnidibnhojedoaa.GFnExactIsTransitive

-- Written by the session's own program (gen.py) out of the translation's print. Lean checks it.
import Derived.Test.YtakagkflgkoiiaaGFnExactLaidCellsx0
import Derived.Test.YtakagkflgkoiiaaGFnExactLaidCellsx3
import Derived.Test.YtakagkflgkoiiaaGFnExactLaidCellsx4
import Derived.Test.YtakagkflgkoiiaaGFnExactLaidCellsx6
namespace Go.Proofs.Ytakagkflgkoiiaa.GFnExactLaidCells
open Go.RowKit Go.Proofs.YtakagkflgkoiiaaW.PrintWords Go.Proofs.YtakagkflgkoiiaaW.PrintLast Go.Proofs.YtakagkflgkoiiaaW.PrintMore
attribute [local go_sem] max2_int min2_int max_two min_two max_three min_three max_four min_four   -- for this text's walks alone
set_option linter.unusedVariables false
set_option linter.unusedSimpArgs false

/-! ### spec_l19Turned: function 95 -/
mutual
def spec_l19Turned.l0 : Nat → Int → List (S105) → Int → List (S53) → Option ((List (S105)))
  | 0, _, _, _, _ => none
  | k + 1, x1, x5, x6, x960 => if 0 < (x960.length : Int) then (if x6 < (((rd_T53 x960 0).f1).length : Int) then (if 0 ≤ x6 then ((spec_l02Turned.f k ((rd_T105 ((rd_T53 x960 0).f1) x6).f0) ((rd_T105 ((rd_T53 x960 0).f1) x6).f1) x1).bind fun bt185 => (if x5.length < 8796093022208 then (spec_l19Turned.l0 k x1 (x5 ++ [(⟨bt185.1, bt185.2⟩ : S105)]) (wrap64 (x6 + 1)) x960) else (none))) else (none)) else ((spec_l03Bounds.f k x5).bind fun bt190 => (spec_l19Turned.l1 k x5 (([] : List (S105))) 0 bt190.1 bt190.2.1))) else (none)
def spec_l19Turned.l1 : Nat → List (S105) → List (S105) → Int → Int → Int → Option ((List (S105)))
  | 0, _, _, _, _, _ => none
  | k + 1, x5, x9, x10, x195000, x195001 => if x10 < (x5.length : Int) then (if 0 ≤ x10 then (spec_l19Turned.l2 k x5 x9 x10 (x9.length : Int) x195000 x195001 (wrap64 (((rd_T105 x5 x10).f0) - x195000)) (wrap64 (((rd_T105 x5 x10).f1) - x195001))) else (none)) else (some x9)
def spec_l19Turned.l2 : Nat → List (S105) → List (S105) → Int → Int → Int → Int → Int → Int → Option ((List (S105)))
  | 0, _, _, _, _, _, _, _, _ => none
  | k + 1, x5, x9, x10, x12, x195000, x195001, x202000, x202001 => if x12 > 0 then (if 0 ≤ (wrap64 (x12 - 1)) then (if (wrap64 (x12 - 1)) < (x9.length : Int) then ((spec_l19Before.f x202000 x202001 ((rd_T105 x9 (wrap64 (x12 - 1))).f0) ((rd_T105 x9 (wrap64 (x12 - 1))).f1)).bind fun t203 => (if t203 = true then (spec_l19Turned.l2 k x5 x9 x10 (wrap64 (x12 - 1)) x195000 x195001 x202000 x202001) else ((some (([] : List (S105)) : List (S105))).bind fun y204 => (if 0 ≤ x12 then (if x12 ≤ (x9.length : Int) then ((some (x9.take (x12 : Int).toNat : List (S105))).bind fun y207 => (if y204.length + y207.length < 8796093022208 then ((some (y204 ++ y207 : List (S105))).bind fun y211 => (if y211.length < 8796093022208 then ((some (y211 ++ [(⟨x202000, x202001⟩ : S105)] : List (S105))).bind fun y214 => ((some (x9.drop (x12 : Int).toNat : List (S105))).bind fun y217 => (if y214.length + y217.length < 8796093022208 then (spec_l19Turned.l1 k x5 (y214 ++ y217) (wrap64 (x10 + 1)) x195000 x195001) else (none)))) else (none))) else (none))) else (none)) else (none))))) else (none)) else (none)) else ((some (([] : List (S105)) : List (S105))).bind fun y224 => (if 0 ≤ x12 then (if x12 ≤ (x9.length : Int) then ((some (x9.take (x12 : Int).toNat : List (S105))).bind fun y227 => (if y224.length + y227.length < 8796093022208 then ((some (y224 ++ y227 : List (S105))).bind fun y231 => (if y231.length < 8796093022208 then ((some (y231 ++ [(⟨x202000, x202001⟩ : S105)] : List (S105))).bind fun y234 => ((some (x9.drop (x12 : Int).toNat : List (S105))).bind fun y237 => (if y234.length + y237.length < 8796093022208 then (spec_l19Turned.l1 k x5 (y234 ++ y237) (wrap64 (x10 + 1)) x195000 x195001) else (none)))) else (none))) else (none))) else (none)) else (none)))
end
def spec_l19Turned.f (k : Nat) (l0 : List (S53)) (a1 : Int) : Option ((List (S105))) := spec_l19Turned.l0 k a1 (([] : List (S105))) 0 l0
theorem spec_l19Turned.mono_l : ∀ k, (∀ y0 y1 y2 y3, LeO (spec_l19Turned.l0 k y0 y1 y2 y3) (spec_l19Turned.l0 (k + 1) y0 y1 y2 y3)) ∧ (∀ y0 y1 y2 y3 y4, LeO (spec_l19Turned.l1 k y0 y1 y2 y3 y4) (spec_l19Turned.l1 (k + 1) y0 y1 y2 y3 y4)) ∧ (∀ y0 y1 y2 y3 y4 y5 y6 y7, LeO (spec_l19Turned.l2 k y0 y1 y2 y3 y4 y5 y6 y7) (spec_l19Turned.l2 (k + 1) y0 y1 y2 y3 y4 y5 y6 y7))
  | 0 => ⟨fun _ _ _ _ r h => by simp [spec_l19Turned.l0] at h, fun _ _ _ _ _ r h => by simp [spec_l19Turned.l1] at h, fun _ _ _ _ _ _ _ _ r h => by simp [spec_l19Turned.l2] at h⟩
  | k + 1 => by
    obtain ⟨ih0, ih1, ih2⟩ := spec_l19Turned.mono_l k
    refine ⟨?_, ?_, ?_⟩
    · intro y0 y1 y2 y3
      unfold spec_l19Turned.l0
      repeat' first
      | (with_reducible exact ih0 _ _ _ _)
      | (with_reducible exact ih1 _ _ _ _ _)
      | (with_reducible exact ih2 _ _ _ _ _ _ _ _)
      | (with_reducible exact spec_l02Turned.mono _ _ _ _)
      | (with_reducible exact spec_l03Bounds.mono _ _)
      | (with_reducible exact LeO.refl _)
      | (with_reducible exact LeO.none _)
      | (with_reducible refine LeO.ite ?_ ?_)
      | (with_reducible refine LeO.bind ?_ (fun _ => ?_))
      | exact ih0 _ _ _ _
      | exact ih1 _ _ _ _ _
      | exact ih2 _ _ _ _ _ _ _ _
      | exact spec_l02Turned.mono _ _ _ _
      | exact spec_l03Bounds.mono _ _
      | exact LeO.none _
      | refine LeO.ite ?_ ?_
      | refine LeO.bind ?_ (fun _ => ?_)
    · intro y0 y1 y2 y3 y4
      unfold spec_l19Turned.l1
      repeat' first
      | (with_reducible exact ih0 _ _ _ _)
      | (with_reducible exact ih1 _ _ _ _ _)
      | (with_reducible exact ih2 _ _ _ _ _ _ _ _)
      | (with_reducible exact spec_l02Turned.mono _ _ _ _)
      | (with_reducible exact spec_l03Bounds.mono _ _)
      | (with_reducible exact LeO.refl _)
      | (with_reducible exact LeO.none _)
      | (with_reducible refine LeO.ite ?_ ?_)
      | (with_reducible refine LeO.bind ?_ (fun _ => ?_))
      | exact ih0 _ _ _ _
      | exact ih1 _ _ _ _ _
      | exact ih2 _ _ _ _ _ _ _ _
      | exact spec_l02Turned.mono _ _ _ _
      | exact spec_l03Bounds.mono _ _
      | exact LeO.none _
      | refine LeO.ite ?_ ?_
      | refine LeO.bind ?_ (fun _ => ?_)
    · intro y0 y1 y2 y3 y4 y5 y6 y7
      unfold spec_l19Turned.l2
      repeat' first
      | (with_reducible exact ih0 _ _ _ _)
      | (with_reducible exact ih1 _ _ _ _ _)
      | (with_reducible exact ih2 _ _ _ _ _ _ _ _)
      | (with_reducible exact spec_l02Turned.mono _ _ _ _)
      | (with_reducible exact spec_l03Bounds.mono _ _)
      | (with_reducible exact LeO.refl _)
      | (with_reducible exact LeO.none _)
      | (with_reducible refine LeO.ite ?_ ?_)
      | (with_reducible refine LeO.bind ?_ (fun _ => ?_))
      | exact ih0 _ _ _ _
      | exact ih1 _ _ _ _ _
      | exact ih2 _ _ _ _ _ _ _ _
      | exact spec_l02Turned.mono _ _ _ _
      | exact spec_l03Bounds.mono _ _
      | exact LeO.none _
      | refine LeO.ite ?_ ?_
      | refine LeO.bind ?_ (fun _ => ?_)
theorem spec_l19Turned.mono : ∀ a0 a1 k, LeO (spec_l19Turned.f k a0 a1) (spec_l19Turned.f (k + 1) a0 a1) := by
  intro a0 a1 k
  obtain ⟨ih0, ih1, ih2⟩ := spec_l19Turned.mono_l k
  unfold spec_l19Turned.f
  repeat' first
      | (with_reducible exact ih0 _ _ _ _)
      | (with_reducible exact ih1 _ _ _ _ _)
      | (with_reducible exact ih2 _ _ _ _ _ _ _ _)
      | (with_reducible exact spec_l02Turned.mono _ _ _ _)
      | (with_reducible exact spec_l03Bounds.mono _ _)
      | (with_reducible exact LeO.refl _)
      | (with_reducible exact LeO.none _)
      | (with_reducible refine LeO.ite ?_ ?_)
      | (with_reducible refine LeO.bind ?_ (fun _ => ?_))
      | exact ih0 _ _ _ _
      | exact ih1 _ _ _ _ _
      | exact ih2 _ _ _ _ _ _ _ _
      | exact spec_l02Turned.mono _ _ _ _
      | exact spec_l03Bounds.mono _ _
      | exact LeO.none _
      | refine LeO.ite ?_ ?_
      | refine LeO.bind ?_ (fun _ => ?_)
def spec_l19Turned.T11 : Bool × List (List Nat × List Nat) := (true, [([], []), ([], []), ([0, 1], [0, 1]), ([2], [2]), ([3], [3]), ([], []), ([5], [5]), ([4, 6], [4, 6]), ([], []), ([], []), ([8, 9], [8, 9]), ([10], [10]), ([11], [11]), ([], []), ([13], [13]), ([12, 14], [12, 14]), ([7, 15], [7, 15]), ([], []), ([17, 16, 0, 1, 2, 3, 4, 5, 6, 7, 8, 9, 10, 11, 12, 13, 14, 15, 16, 17], [16, 17])])
def spec_l19Turned.B11 : List Nat := [0, 0, 3, 7, 15, 0, 32, 127, 0, 0, 768, 1792, 3840, 0, 8192, 32512, 65535, 0, 262143]
theorem spec_l19Turned.tab11 : rtab .any (opsOf Try.f95 11) = spec_l19Turned.T11 := by kernel_rfl
theorem spec_l19Turned.bits11 : waitsOk spec_l19Turned.T11.2 spec_l19Turned.B11 = true := by kernel_rfl
def spec_l19Turned.T13 : Bool × List (List Nat × List Nat) := (true, [([], []), ([0], [0]), ([1], [1]), ([2], [2]), ([2], [2]), ([2], [2]), ([5, 2], [2, 5]), ([4, 6, 2], [2, 4, 6]), ([7, 2], [2, 7]), ([3, 8, 2, 2], [2, 3, 8]), ([2, 9], [2, 9])])
def spec_l19Turned.B13 : List Nat := [0, 1, 3, 7, 7, 7, 39, 119, 247, 511, 1023]
theorem spec_l19Turned.tab13 : rtab .any (opsOf Try.f95 13) = spec_l19Turned.T13 := by kernel_rfl
theorem spec_l19Turned.bits13 : waitsOk spec_l19Turned.T13.2 spec_l19Turned.B13 = true := by kernel_rfl
open List renaming setIfInBounds_toArray → sA, set_cons_zero → sB, set_cons_succ → sC
open Go.Proofs.YtakagkflgkoiiaaW.PrintWords.Aside0 renaming mk → mkA
open Go.Proofs.YtakagkflgkoiiaaX (dt_ bc_ p0_ p1_ bl_ cb_ bs0_ bs1_ bs2_ bs3_ bs4_ bs5_ bs6_ bs7_ bs8_ bs9_ bs10_ bs11_ bs12_)
abbrev spec_l19Turned.d0 : Array Bool := #[false, false, false, false, false, false, false, false, false, false, false, false, false, false, false, false, false, false, false]
abbrev spec_l19Turned.d1 : Array Bool := #[true, false, false, false, false, false, false, false, false, false, false, false, false, false, false, false, false, false, false]
abbrev spec_l19Turned.d2 : Array Bool := #[true, true, false, false, false, false, false, false, false, false, false, false, false, false, false, false, false, false, false]
abbrev spec_l19Turned.d3 : Array Bool := #[true, true, true, false, false, false, false, false, false, false, false, false, false, false, false, false, false, false, false]
abbrev spec_l19Turned.d4 : Array Bool := #[true, true, true, true, false, false, false, false, false, false, false, false, false, false, false, false, false, false, false]
abbrev spec_l19Turned.d5 : Array Bool := #[true, true, true, true, false, true, false, false, false, false, false, false, false, false, false, false, false, false, false]
abbrev spec_l19Turned.d6 : Array Bool := #[true, true, true, true, false, true, false, false, true, false, false, false, false, false, false, false, false, false, false]
abbrev spec_l19Turned.d7 : Array Bool := #[true, true, true, true, false, true, false, false, true, true, false, false, false, false, false, false, false, false, false]
abbrev spec_l19Turned.d8 : Array Bool := #[true, true, true, true, false, true, false, false, true, true, true, false, false, false, false, false, false, false, false]
abbrev spec_l19Turned.d9 : Array Bool := #[true, true, true, true, false, true, false, false, true, true, true, true, false, false, false, false, false, false, false]
abbrev spec_l19Turned.d10 : Array Bool := #[true, true, true, true, false, true, false, false, true, true, true, true, false, true, false, false, false, false, false]
abbrev spec_l19Turned.d11 : Array Bool := #[true, true, true, true, true, true, false, false, true, true, true, true, false, true, false, false, false, false, false]
abbrev spec_l19Turned.d12 : Array Bool := #[true, true, true, true, true, true, true, false, true, true, true, true, false, true, false, false, false, false, false]
abbrev spec_l19Turned.d13 : Array Bool := #[true, true, true, true, true, true, true, true, true, true, true, true, false, true, false, false, false, false, false]
abbrev spec_l19Turned.d14 : Array Bool := #[true, true, true, true, true, true, true, true, true, true, true, true, true, true, false, false, false, false, false]
abbrev spec_l19Turned.d15 : Array Bool := #[true, true, true, true, true, true, true, true, true, true, true, true, true, true, true, false, false, false, false]
abbrev spec_l19Turned.d16 : Array Bool := #[true, true, true, true, true, true, true, true, true, true, true, true, true, true, true, true, false, false, false]
abbrev spec_l19Turned.d17 : Array Bool := #[true, true, true, true, true, true, true, true, true, true, true, true, true, true, true, true, true, false, false]
abbrev spec_l19Turned.d18 : Array Bool := #[true, true, true, true, true, true, true, true, true, true, true, true, true, true, true, true, true, true, false]
abbrev spec_l19Turned.d19 : Array Bool := #[true, true, true, true, true, true, true, true, true, true, true, true, true, true, true, true, true, true, true]
abbrev spec_l19Turned.d20 : Array Bool := #[false, false, false, false, false, false, false, false, false, false, false]
abbrev spec_l19Turned.d21 : Array Bool := #[true, false, false, false, false, false, false, false, false, false, false]
abbrev spec_l19Turned.d22 : Array Bool := #[true, true, false, false, false, false, false, false, false, false, false]
abbrev spec_l19Turned.d23 : Array Bool := #[true, true, true, false, false, false, false, false, false, false, false]
abbrev spec_l19Turned.d24 : Array Bool := #[true, true, true, false, true, false, false, false, false, false, false]
abbrev spec_l19Turned.d25 : Array Bool := #[true, true, true, false, true, true, false, false, false, false, false]
abbrev spec_l19Turned.d26 : Array Bool := #[true, true, true, false, true, true, true, false, false, false, false]
abbrev spec_l19Turned.d27 : Array Bool := #[true, true, true, false, true, true, true, true, false, false, false]
abbrev spec_l19Turned.d28 : Array Bool := #[true, true, true, true, true, true, true, true, false, false, false]
abbrev spec_l19Turned.d29 : Array Bool := #[true, true, true, true, true, true, true, true, true, false, false]
abbrev spec_l19Turned.d30 : Array Bool := #[true, true, true, true, true, true, true, true, true, true, false]
abbrev spec_l19Turned.d31 : Array Bool := #[true, true, true, true, true, true, true, true, true, true, true]
abbrev spec_l19Turned.d32 : Array Bool := #[true, true, true, true, false, false, false, false, false, false, false]
abbrev spec_l19Turned.d33 : Array Bool := #[true, true, true, true, true, false, false, false, false, false, false]
abbrev spec_l19Turned.d34 : Array Bool := #[true, true, true, true, true, true, false, false, false, false, false]
abbrev spec_l19Turned.d35 : Array Bool := #[true, true, true, true, true, true, true, false, false, false, false]
set_option maxHeartbeats 8000000 in
set_option maxRecDepth 100000 in
theorem spec_l19Turned.calls (k : Nat) (A0 : Option Addr) (l0 : List (S53)) (a1 : Int) (r : List (S105)) (w : World) (hr0 : Kd.C k53 w A0 l0.length l0) (h : spec_l19Turned.f k l0 a1 = some r) :
 Calls Try.prog 95 #[.pointer A0, .int .i64 a1] w fun e w' => ∃ v0_ : Value, e = .returned (v0_) ∧ Kd.R k105 105 w' w.heap.size (fun _ => True) v0_ r ∧ Below w.heap.size w w' := by
 have hu105 := Try.underlying105
 have HR0 := mkA hr0
 clear hr0
 have HB := mkA (Below.refl w.heap.size w)
 have H : (spec_l19Turned.l0 k a1 (([] : List (S105))) 0 l0) = some r := h
 clear h
 obtain ⟨y179, hy179⟩ : ∃ y_ : List (S105), y_ = (([] : List (S105))) := ⟨_, rfl⟩
 replace H : (spec_l19Turned.l0 k a1 y179 0 l0) = some r := by first | (rw [hy179]; with_reducible exact H) | (have H2_ := (Option.bind_some _ _).symm.trans H; rw [hy179]; with_reducible exact H2_) | (have H2_ := (Option.bind_some _ _).symm.trans H; with_reducible exact H2_) | with_reducible exact H | (rw [hy179]; exact H) | exact H
 have Ny179 := mkA hy179
 clear hy179
 have H' := mkA H
 clear H
 go_enter Try.func95, Try.ntmps95
 go_wp2_with (first | ((with_reducible refine gate_dst (N := 14) rfl ?_); refine Kd.R_lit k105 _ 105 ?hg (N := 14) ?hd (xs := ([] : List (S105))) (inner := []) (ok := fun _ => True) (okp := fun _ => True) ?hr ?hp (fun _ hk => hk) trivial (Below.refl _ _) (Nat.le_refl _) (by simp) ?_; (case hd => rfl); (case hg => rfl); (case hr => first | (go_simp; done) | (go_simp; rfl)); (case hp => exact (Reps.none _ _)); intro v180 w3 ho4 hb hg_ hnew_; clear hg_ hnew_; (first | rw [← Ny179.out] at ho4 | (simp only [Int.reduceToNat] at ho4; rw [← Ny179.out] at ho4)); have n0_ := mkA (Kd.R_lower ho4 (below_size (bs0_ HB.out))); have n1_ := mkA (below_step (bs0_ HB.out) hb); clear HB; have HO181 := n0_; have HB := n1_; clear n0_ n1_; clear hb ho4))
 go_loopg [5, 6] k (fun kq v5 v6 w' => ∃ (x5_1 : List (S105)) (x6_1 : Int), v6 = .int .i64 x6_1 ∧ Aside0 (spec_l19Turned.l0 kq a1 x5_1 x6_1 l0 = some r) ∧ Aside0 (kq ≤ k) ∧ Aside0 (Kd.R k105 105 w' w.heap.size (fun _ => True) v5 x5_1) ∧ Aside0 (Below w.heap.size w w'))
 case atStart => exact ⟨(y179), (0), (by first | rfl | (simp; done) | (simp [*]; done) | (simp [i64_w, i32_w]; done)), H', ⟨Nat.le_refl _⟩, ⟨by (with_reducible repeat (first | apply Kd.R_alloc | apply Kd.R_drewN | apply Kd.R_drew)); exact HO181.out⟩, ⟨by repeat (first | (with_reducible first | exact HB.out | apply below_alloc | apply pw_below_drewN | apply below_drew1) | exact HB.out)⟩⟩
 case round =>
  clear H'
  try clear p2
  obtain ⟨x5_1, x6_1, rfl, HA, HK1, HO_5, HB⟩ := hrel
  cases gk with
  | zero => exact absurd HA.out (by simp [spec_l19Turned.l0])
  | succ k1 =>
   have H := HA.out
   clear HA
   simp only [spec_l19Turned.l0] at H
   by_cases c5 : 0 < (l0.length : Int)
   rotate_left
   · rw [if_neg c5] at H
     exact absurd H (by simp)

   rw [if_pos c5] at H
   have c5b0 : decide (0 < (l0.length : Int)) = true := decide_eq_true c5
   have c5b1 : decide (0 < l0.length) = true := decide_eq_true (by omega)
   clear c5
   by_cases c6 : x6_1 < (((rd_T53 l0 0).f1).length : Int)
   · rw [if_pos c6] at H
     have c6b0 : decide (x6_1 < (((rd_T53 l0 0).f1).length : Int)) = true := decide_eq_true c6
     clear c6
     by_cases c7 : 0 ≤ x6_1
     rotate_left
     · rw [if_neg c7] at H
       exact absurd H (by simp)
     rw [if_pos c7] at H
     have c7b0 : decide (0 ≤ x6_1) = true := decide_eq_true c7
     clear c7
     replace H := Option.bind_eq_some_iff.mp H
     obtain ⟨⟨t185, t186⟩, A80, H⟩ := H
     replace H : (if x5_1.length < 8796093022208 then (spec_l19Turned.l0 k1 a1 (x5_1 ++ [(⟨t185, t186⟩ : S105)]) (wrap64 (x6_1 + 1)) l0) else (none)) = some r := H
     have A8 := mkA A80
     clear A80
     by_cases c9 : x5_1.length < 8796093022208
     rotate_left
     · rw [if_neg c9] at H
       exact absurd H (by simp)
     rw [if_pos c9] at H
     have LMc9 := mkA c9
     clear c9
     obtain ⟨y187, hy187⟩ : ∃ y_ : List (S105), y_ = (x5_1 ++ [(⟨t185, t186⟩ : S105)]) := ⟨_, rfl⟩
     replace H : (spec_l19Turned.l0 k1 a1 y187 (wrap64 (x6_1 + 1)) l0) = some r := by first | (rw [hy187]; with_reducible exact H) | (have H2_ := (Option.bind_some _ _).symm.trans H; rw [hy187]; with_reducible exact H2_) | (have H2_ := (Option.bind_some _ _).symm.trans H; with_reducible exact H2_) | with_reducible exact H | (rw [hy187]; exact H) | exact H
     have Ny187 := mkA hy187
     clear hy187
     have H' := mkA H
     clear H
     have p182 : 0 ≤ (0 : Int) := (by omega)
     have q182 : 0 < (l0.length : Int) := dt_
     obtain ⟨ad182, A182_1, c182_1, e182, hx182_0, hx182_1, hx182_2, hx182_3, hl182_1, hi182_1⟩ := at0_T53 HR0.out q182
     cases e182
     have qi182 : (0 < l0.length) = True := eq_true (by omega)
     replace hx182_0 := bc_ HB.out hx182_0
     replace hx182_1 := bc_ HB.out hx182_1
     replace hx182_2 := bc_ HB.out hx182_2
     replace hx182_3 := bc_ HB.out hx182_3
     have HR182_1 := mkA hi182_1
     have HC182_1 := mkA hl182_1
     clear hi182_1 hl182_1
     replace p182 := eq_true p182
     replace q182 := eq_true q182
     have p183 : 0 ≤ (0 : Int) := (by omega)
     have q183 : 0 < (l0.length : Int) := dt_
     obtain ⟨ad183, A183_1, c183_1, e183, hx183_0, hx183_1, hx183_2, hx183_3, hl183_1, hi183_1⟩ := at0_T53 HR0.out q183
     obtain rfl : ad182 = ad183 := (by injection e183)
     have qi183 : (0 < l0.length) = True := eq_true (by omega)
     replace hx183_0 := bc_ HB.out hx183_0
     replace hx183_1 := bc_ HB.out hx183_1
     replace hx183_2 := bc_ HB.out hx183_2
     replace hx183_3 := bc_ HB.out hx183_3
     have HR183_1 := mkA hi183_1
     have HC183_1 := mkA hl183_1
     clear hi183_1 hl183_1
     replace p183 := eq_true p183
     replace q183 := eq_true q183
     have ea_ := Option.some.inj (hx182_1.symm.trans hx183_1)
     injection ea_ with ea_ en_ ec_
     subst ea_
     subst ec_
     clear en_
     have p184 : 0 ≤ (x6_1 : Int) := dt_
     have q184 : x6_1 < (((rd_T53 l0 0).f1).length : Int) := dt_
     obtain ⟨ad184, e184, hx184_0, hx184_1⟩ := at_T105 HR183_1.out x6_1 p184 q184
     cases e184
     replace hx184_0 := bc_ HB.out hx184_0
     replace hx184_1 := bc_ HB.out hx184_1
     replace p184 := eq_true p184
     replace q184 := eq_true q184
     go_wp2_with (first | ((with_reducible refine gate_callee (f := 110) rfl ?_); refine goesL_ (some 33) rfl rfl Try.func110 (by kernel_rfl) rfl #[.agg #[.int .i64 ((rd_T105 ((rd_T53 l0 0).f1) x6_1).f0), .int .i64 ((rd_T105 ((rd_T53 l0 0).f1) x6_1).f1)], .int .i64 a1] rfl (by (try simp only [List.map_toArray, List.map_cons, List.map_nil]); first | done | rfl | (simp only [List.length_drop, List.length_take]; rfl)) ?_; (with_reducible refine (spec_l02Turned.calls k1 ((rd_T105 ((rd_T53 l0 0).f1) x6_1).f0) ((rd_T105 ((rd_T53 l0 0).f1) x6_1).f1) a1 t185 t186 _ A8.out).mono ?_); rintro e w10 ⟨rfl, hb⟩; refine ⟨_, rfl, ?_⟩; have n0_ := mkA (Kd.R_below (by (with_reducible repeat (first | apply Kd.R_alloc | apply Kd.R_drewN | apply Kd.R_drew)); exact HO_5.out) hb); have n1_ := mkA (below_step (bs0_ HB.out) hb); clear HO_5; clear HB; have HO_5 := n0_; have HB := n1_; clear n0_ n1_; (try clear hb); (try clear hb2); (try clear hk); (try clear hi)) | ((with_reducible refine gate_builtin (b := .append) (xs := #[.tmp 24, .tmp 34]) rfl ?_); at_builtin; refine Kd.R_append k105 (w0 := w) w.heap.size rfl (.tmp 24) (.tmp 34) 51 105 (.agg #[(.int .i64 0), (.int .i64 0)]) 16 rfl Try.underlying51 info105 rfl (by decide) (by omega) u5 x5_1 (⟨t185, t186⟩ : S105) [.int .i64 t185, .int .i64 t186] (fun _ => True) (fun _ => False) rfl rfl ?aP (fun _ hk => hk.elim) ?aF ?aO ?aB ?aS ?aL ?_; (case aP => exact k105_mkM _ _ _ (⟨t185, t186⟩ : S105)); (case aB => exact (bs0_ HB.out)); (case aF => exact (fun _ _ => trivial)); (case aO => exact (by (with_reducible repeat (first | apply Kd.R_alloc | apply Kd.R_drewN | apply Kd.R_drew)); exact HO_5.out)); (case aS => exact (below_size (bs0_ HB.out))); (case aL => have := LMc9.out; omega); intro v188 w11 ho hb hg hat; rw [← Ny187.out] at ho; have n0_ := mkA (hb); have n1_ := mkA (ho); clear HB; clear HO_5; have HB := n0_; have HO189 := n1_; clear n0_ n1_; clear ho hb hg hat))
     go_roundg k1
     case measure => have := HK1.out; omega
     case rel => exact ⟨(y187), (wrap64 (x6_1 + 1)), (by first | rfl | (simp; done) | (simp [*]; done) | (simp [i64_w, i32_w]; done)), H', ⟨by have := HK1.out; omega⟩, ⟨by (with_reducible repeat (first | apply Kd.R_alloc | apply Kd.R_drewN | apply Kd.R_drew)); exact HO189.out⟩, ⟨by repeat (first | (with_reducible first | exact HB.out | apply below_alloc | apply pw_below_drewN | apply below_drew1) | exact HB.out)⟩⟩
   · rw [if_neg c6] at H
     have c6b0 : decide (x6_1 < (((rd_T53 l0 0).f1).length : Int)) = false := decide_eq_false c6
     clear c6
     replace H := Option.bind_eq_some_iff.mp H
     obtain ⟨⟨t190, t191, t192, t193⟩, A120, H⟩ := H
     replace H : (spec_l19Turned.l1 k1 x5_1 (([] : List (S105))) 0 t190 t191) = some r := H
     have A12 := mkA A120
     clear A120
     obtain ⟨y196, hy196⟩ : ∃ y_ : List (S105), y_ = (([] : List (S105))) := ⟨_, rfl⟩
     replace H : (spec_l19Turned.l1 k1 x5_1 y196 0 t190 t191) = some r := by first | (rw [hy196]; with_reducible exact H) | (have H2_ := (Option.bind_some _ _).symm.trans H; rw [hy196]; with_reducible exact H2_) | (have H2_ := (Option.bind_some _ _).symm.trans H; with_reducible exact H2_) | with_reducible exact H | (rw [hy196]; exact H) | exact H
     have Ny196 := mkA hy196
     clear hy196
     have H' := mkA H
     clear H
     have p182 : 0 ≤ (0 : Int) := (by omega)
     have q182 : 0 < (l0.length : Int) := dt_
     obtain ⟨ad182, A182_1, c182_1, e182, hx182_0, hx182_1, hx182_2, hx182_3, hl182_1, hi182_1⟩ := at0_T53 HR0.out q182
     cases e182
     have qi182 : (0 < l0.length) = True := eq_true (by omega)
     replace hx182_0 := bc_ HB.out hx182_0
     replace hx182_1 := bc_ HB.out hx182_1
     replace hx182_2 := bc_ HB.out hx182_2
     replace hx182_3 := bc_ HB.out hx182_3
     have HR182_1 := mkA hi182_1
     have HC182_1 := mkA hl182_1
     clear hi182_1 hl182_1
     replace p182 := eq_true p182
     replace q182 := eq_true q182
     obtain ⟨Ao13, co13, eo13⟩ := Kd.R_slice HO_5.out
     subst eo13
     go_wp2_with (first | ((with_reducible refine gate_callee (f := 93) rfl ?_); refine goesL_ (some 38) rfl rfl Try.func93 (by kernel_rfl) rfl #[.slice Ao13 x5_1.length co13] rfl (by (try simp only [List.map_toArray, List.map_cons, List.map_nil]); first | done | rfl | (simp only [List.length_drop, List.length_take]; rfl)) ?_; (with_reducible refine (spec_l03Bounds.calls k1 _ _ x5_1 t190 t191 t192 t193 _ ?side1 ?side2 A12.out).mono ?_); (case side1 => repeat (first | exact (Kd.R_reads' HO_5.out).2.2 | (with_reducible refine Kd.C_alloc ?_ _) | (with_reducible refine Kd.C_drewN ?_ _) | (with_reducible refine Kd.C_drew ?_))); (case side2 => exact (Kd.R_reads' HO_5.out).2.1); rintro e w14 ⟨rfl, hb⟩; refine ⟨_, rfl, ?_⟩; have n0_ := mkA (Kd.R_below (by (with_reducible repeat (first | apply Kd.R_alloc | apply Kd.R_drewN | apply Kd.R_drew)); exact HO_5.out) hb); have n1_ := mkA (below_step (bs0_ HB.out) hb); clear HO_5; clear HB; have HO_5 := n0_; have HB := n1_; clear n0_ n1_; (try clear hb); (try clear hb2); (try clear hk); (try clear hi)) | ((with_reducible refine gate_dst (N := 7) rfl ?_); refine box_event ?hg (N := 7) ?hd (cs := #[.int .i64 0, .int .i64 0]) (t := 105) ?hr ?_; (case hd => rfl); (case hg => rfl); (case hr => first | (go_simp; done) | (go_simp; rfl)); intro gb194 hg w15 hbox hb; have n0_ := mkA (Kd.R_below (Kd.R_elderB (by (with_reducible repeat (first | apply Kd.R_alloc | apply Kd.R_drewN | apply Kd.R_drew)); exact HO_5.out) gb194 (Nat.le_of_eq hg.symm)) hb); have n1_ := mkA (below_step (bs0_ HB.out) hb); have n2_ := mkA (hbox); have n3_ := mkA ((by rw [hg]; exact (below_size (bs0_ HB.out)) : w.heap.size ≤ gb194)); have n4_ := mkA ((by rw [hg]; exact (below_size (bs0_ HB.out)) : w.heap.size ≤ gb194)); clear HO_5; clear HB; have HO_5 := n0_; have HB := n1_; have BK194 := n2_; have GW194 := n3_; have GE194 := n4_; clear n0_ n1_ n2_ n3_ n4_; clear hb hbox hg) | ((with_reducible refine gate_dst (N := 8) rfl ?_); refine box_event ?hg (N := 8) ?hd (cs := #[.int .i64 0, .int .i64 0]) (t := 105) ?hr ?_; (case hd => rfl); (case hg => rfl); (case hr => first | (go_simp; done) | (go_simp; rfl)); intro gb195 hg w16 hbox hb; have n0_ := mkA (Kd.R_below (Kd.R_elderB (by (with_reducible repeat (first | apply Kd.R_alloc | apply Kd.R_drewN | apply Kd.R_drew)); exact HO_5.out) gb195 (Nat.le_of_eq hg.symm)) hb); have n1_ := mkA (blk_below (g := gb194) (o := .cells #[.int .i64 0, .int .i64 0] 105 (0, 0)) (bl_ BK194.out) hb); have n2_ := mkA (below_step (bs1_ HB.out GE194.out) hb); have n3_ := mkA (hbox); have n4_ := mkA ((by rw [hg]; exact (below_size (bs1_ HB.out GE194.out)) : w.heap.size ≤ gb195)); have n5_ := mkA ((by rw [hg]; exact (below_size (bs1_ HB.out GE194.out)) : w.heap.size ≤ gb195)); have n6_ := mkA ((by rw [hg]; exact Nat.ne_of_lt (blk_lt (g := gb194) (o := .cells #[.int .i64 0, .int .i64 0] 105 (0, 0)) (bl_ BK194.out)) : gb194 ≠ gb195)); have n7_ := mkA ((by rw [hg]; exact Nat.ne_of_gt (blk_lt (g := gb194) (o := .cells #[.int .i64 0, .int .i64 0] 105 (0, 0)) (bl_ BK194.out)) : gb195 ≠ gb194)); clear HO_5; clear BK194; clear HB; have HO_5 := n0_; have BK194 := n1_; have HB := n2_; have BK195 := n3_; have GW195 := n4_; have GE195 := n5_; have NB194_195 := n6_; have NB195_194 := n7_; clear n0_ n1_ n2_ n3_ n4_ n5_ n6_ n7_; clear hb hbox hg; have hnb17 := NB194_195.out; have hnc17 := NB195_194.out; have hcz18_0 : w16.cell? ⟨gb194, 0, none⟩ = some (.int .i64 0) := (blk_cell BK194.out 0).trans rfl; have hcz18_1 : w16.cell? ⟨gb194, 1, none⟩ = some (.int .i64 0) := (blk_cell BK194.out 1).trans rfl; have hfz18_0 := blk_frozen BK194.out 0; have hfz18_1 := blk_frozen BK194.out 1; have hcz19_0 : w16.cell? ⟨gb195, 0, none⟩ = some (.int .i64 0) := (blk_cell BK195.out 0).trans rfl; have hcz19_1 : w16.cell? ⟨gb195, 1, none⟩ = some (.int .i64 0) := (blk_cell BK195.out 1).trans rfl; have hfz19_0 := blk_frozen BK195.out 0; have hfz19_1 := blk_frozen BK195.out 1) | ((with_reducible refine gate_dst (N := 41) rfl ?_); refine Kd.R_lit k105 _ 105 ?hg (N := 41) ?hd (xs := ([] : List (S105))) (inner := []) (ok := fun _ => True) (okp := fun _ => True) ?hr ?hp (fun _ hk => hk) trivial (Below.refl _ _) (Nat.le_refl _) (by simp) ?_; (case hd => rfl); (case hg => rfl); (case hr => first | (go_simp; done) | (go_simp; rfl)); (case hp => exact (Reps.none _ _)); intro v197 w20 ho21 hb hg_ hnew_; clear hg_ hnew_; (first | rw [← Ny196.out] at ho21 | (simp only [Int.reduceToNat] at ho21; rw [← Ny196.out] at ho21)); have n0_ := mkA (Kd.R_elder' (by (with_reducible repeat (first | apply Kd.R_alloc | apply Kd.R_drewN | apply Kd.R_drew)); exact (Kd.R_mono (Kd.R_mono (Kd.R_far (p := ⟨gb195, 1, none⟩) (Kd.R_far (p := ⟨gb195, 0, none⟩) (Kd.R_far (p := ⟨gb194, 1, none⟩) (Kd.R_far (p := ⟨gb194, 0, none⟩) (Kd.R_mono (Kd.R_mono HO_5.out (fun k_ hk => (⟨hk, hk.1.2⟩ : _ ∧ k_ ≠ gb194))) (fun k_ hk => (⟨hk, hk.1.2⟩ : _ ∧ k_ ≠ gb195))) (fun _ hk => hk.1.2) (.int .i64 t190)) (fun _ hk => hk.1.2) (.int .i64 t191)) (fun _ hk => hk.2) (.int .i64 t192)) (fun _ hk => hk.2) (.int .i64 t193)) (fun _ h_ => h_.1)) (fun _ h_ => h_.1))) (Kd.R_base ho21) hb); have n1_ := mkA (Kd.R_lower (Kd.R_newB (Kd.R_newB (Kd.R_new' ho21 (Kd.R_lt (by (with_reducible repeat (first | apply Kd.R_alloc | apply Kd.R_drewN | apply Kd.R_drew)); exact (Kd.R_mono (Kd.R_mono (Kd.R_far (p := ⟨gb195, 1, none⟩) (Kd.R_far (p := ⟨gb195, 0, none⟩) (Kd.R_far (p := ⟨gb194, 1, none⟩) (Kd.R_far (p := ⟨gb194, 0, none⟩) (Kd.R_mono (Kd.R_mono HO_5.out (fun k_ hk => (⟨hk, hk.1.2⟩ : _ ∧ k_ ≠ gb194))) (fun k_ hk => (⟨hk, hk.1.2⟩ : _ ∧ k_ ≠ gb195))) (fun _ hk => hk.1.2) (.int .i64 t190)) (fun _ hk => hk.1.2) (.int .i64 t191)) (fun _ hk => hk.2) (.int .i64 t192)) (fun _ hk => hk.2) (.int .i64 t193)) (fun _ h_ => h_.1)) (fun _ h_ => h_.1))))) (g := gb194) (o := .cells #[.int .i64 t190, .int .i64 t191] 105 (0, 0)) (by (with_reducible repeat (first | refine blk_drewN ?_ _ | refine blk_drew ?_ | refine blk_alloc ?_ _)); refine blk_far ?_ NB194_195.out _; (with_reducible repeat (first | refine blk_drewN ?_ _ | refine blk_drew ?_ | refine blk_alloc ?_ _)); refine blk_far ?_ NB194_195.out _; (with_reducible repeat (first | refine blk_drewN ?_ _ | refine blk_drew ?_ | refine blk_alloc ?_ _)); refine blk_put (cs := #[.int .i64 t190, .int .i64 0]) ?_ 1 _ rfl; (with_reducible repeat (first | refine blk_drewN ?_ _ | refine blk_drew ?_ | refine blk_alloc ?_ _)); refine blk_put (cs := #[.int .i64 0, .int .i64 0]) ?_ 0 _ rfl; (with_reducible repeat (first | refine blk_drewN ?_ _ | refine blk_drew ?_ | refine blk_alloc ?_ _)); exact BK194.out)) (g := gb195) (o := .cells #[.int .i64 t192, .int .i64 t193] 105 (0, 0)) (by (with_reducible repeat (first | refine blk_drewN ?_ _ | refine blk_drew ?_ | refine blk_alloc ?_ _)); refine blk_put (cs := #[.int .i64 t192, .int .i64 0]) ?_ 1 _ rfl; (with_reducible repeat (first | refine blk_drewN ?_ _ | refine blk_drew ?_ | refine blk_alloc ?_ _)); refine blk_put (cs := #[.int .i64 0, .int .i64 0]) ?_ 0 _ rfl; (with_reducible repeat (first | refine blk_drewN ?_ _ | refine blk_drew ?_ | refine blk_alloc ?_ _)); refine blk_far ?_ NB195_194.out _; (with_reducible repeat (first | refine blk_drewN ?_ _ | refine blk_drew ?_ | refine blk_alloc ?_ _)); refine blk_far ?_ NB195_194.out _; (with_reducible repeat (first | refine blk_drewN ?_ _ | refine blk_drew ?_ | refine blk_alloc ?_ _)); exact BK195.out)) (below_size (bs2_ HB.out GE194.out GE195.out))); have n2_ := mkA (blk_below (g := gb194) (o := .cells #[.int .i64 t190, .int .i64 t191] 105 (0, 0)) (by (with_reducible repeat (first | refine blk_drewN ?_ _ | refine blk_drew ?_ | refine blk_alloc ?_ _)); refine blk_far ?_ NB194_195.out _; (with_reducible repeat (first | refine blk_drewN ?_ _ | refine blk_drew ?_ | refine blk_alloc ?_ _)); refine blk_far ?_ NB194_195.out _; (with_reducible repeat (first | refine blk_drewN ?_ _ | refine blk_drew ?_ | refine blk_alloc ?_ _)); refine blk_put (cs := #[.int .i64 t190, .int .i64 0]) ?_ 1 _ rfl; (with_reducible repeat (first | refine blk_drewN ?_ _ | refine blk_drew ?_ | refine blk_alloc ?_ _)); refine blk_put (cs := #[.int .i64 0, .int .i64 0]) ?_ 0 _ rfl; (with_reducible repeat (first | refine blk_drewN ?_ _ | refine blk_drew ?_ | refine blk_alloc ?_ _)); exact BK194.out) hb); have n3_ := mkA (blk_below (g := gb195) (o := .cells #[.int .i64 t192, .int .i64 t193] 105 (0, 0)) (by (with_reducible repeat (first | refine blk_drewN ?_ _ | refine blk_drew ?_ | refine blk_alloc ?_ _)); refine blk_put (cs := #[.int .i64 t192, .int .i64 0]) ?_ 1 _ rfl; (with_reducible repeat (first | refine blk_drewN ?_ _ | refine blk_drew ?_ | refine blk_alloc ?_ _)); refine blk_put (cs := #[.int .i64 0, .int .i64 0]) ?_ 0 _ rfl; (with_reducible repeat (first | refine blk_drewN ?_ _ | refine blk_drew ?_ | refine blk_alloc ?_ _)); refine blk_far ?_ NB195_194.out _; (with_reducible repeat (first | refine blk_drewN ?_ _ | refine blk_drew ?_ | refine blk_alloc ?_ _)); refine blk_far ?_ NB195_194.out _; (with_reducible repeat (first | refine blk_drewN ?_ _ | refine blk_drew ?_ | refine blk_alloc ?_ _)); exact BK195.out) hb); have n4_ := mkA (below_step (bs2_ HB.out GE194.out GE195.out) hb); clear HO_5; clear BK194; clear BK195; clear HB; have HO_5 := n0_; have HO198 := n1_; have BK194 := n2_; have BK195 := n3_; have HB := n4_; clear n0_ n1_ n2_ n3_ n4_; clear hb ho21))
     go_loopg [9, 10] k1 (fun kq v9 v10 w' => ∃ (x9_2 : List (S105)) (x10_2 : Int), v10 = .int .i64 x10_2 ∧ Aside0 (spec_l19Turned.l1 kq x5_1 x9_2 x10_2 t190 t191 = some r) ∧ Aside0 (kq ≤ k1) ∧ Aside0 (Kd.R k105 105 w' w.heap.size (fun k_ => some k_ ≠ (v9 : Value).ownBlock ∧ k_ ≠ gb194 ∧ k_ ≠ gb195) (.slice Ao13 x5_1.length co13) x5_1) ∧ Aside0 (Kd.R k105 105 w' w.heap.size (fun k_ => some k_ ≠ ((.slice Ao13 x5_1.length co13) : Value).ownBlock ∧ k_ ≠ gb194 ∧ k_ ≠ gb195) v9 x9_2) ∧ Aside0 (w'.heap[gb194]? = some (.cells #[.int .i64 t190, .int .i64 t191] 105 (0, 0))) ∧ Aside0 (w'.heap[gb195]? = some (.cells #[.int .i64 t192, .int .i64 t193] 105 (0, 0))) ∧ Aside0 (Below w.heap.size w w'))
     case atStart => exact ⟨(y196), (0), (by first | rfl | (simp; done) | (simp [*]; done) | (simp [i64_w, i32_w]; done)), H', ⟨Nat.le_refl _⟩, ⟨by (with_reducible repeat (first | apply Kd.R_alloc | apply Kd.R_drewN | apply Kd.R_drew)); exact Kd.R_mono HO_5.out (fun _ hk => ⟨hk.2, ⟨hk.1.1.2, hk.1.2⟩⟩)⟩, ⟨by (with_reducible repeat (first | apply Kd.R_alloc | apply Kd.R_drewN | apply Kd.R_drew)); exact Kd.R_mono HO198.out (fun _ hk => ⟨hk.1.1.2, ⟨hk.1.2, hk.2⟩⟩)⟩, ⟨by (with_reducible repeat (first | refine blk_drewN ?_ _ | refine blk_drew ?_ | refine blk_alloc ?_ _)); exact BK194.out⟩, ⟨by (with_reducible repeat (first | refine blk_drewN ?_ _ | refine blk_drew ?_ | refine blk_alloc ?_ _)); exact BK195.out⟩, ⟨by repeat (first | (with_reducible first | exact HB.out | apply below_alloc | apply pw_below_drewN | apply below_drew1 | refine below_set ?_ GE194.out | refine below_set ?_ GE195.out) | exact HB.out)⟩⟩
     case round =>
      clear H'
      try clear c1
      try clear p1
      try clear q1
      try clear hx1
      try clear qi1
      try clear p2
      try clear c5
      try clear c5b0
      try clear c5b1
      try clear c6
      try clear c6b0
      try clear p6
      try clear c7
      try clear c7b0
      try clear c9
      try clear c11
      try clear c17
      try clear c18
      try clear p18
      try clear q18
      try clear hx18
      try clear qi18
      try clear hcz18_0
      try clear hcz18_1
      try clear hcz19_0
      try clear hcz19_1
      try clear hfz18_0
      try clear hfz18_1
      try clear hfz19_0
      try clear hfz19_1
      try clear hx182_0
      try clear hx182_1
      try clear hx182_2
      try clear hx182_3
      try clear hx183_0
      try clear hx183_1
      try clear hx183_2
      try clear hx183_3
      try clear hx184_0
      try clear hx184_1
      try clear p182
      try clear p183
      try clear p184
      try clear p2
      try clear q182
      try clear q183
      try clear q184
      obtain ⟨x9_2, x10_2, rfl, HA, HK2, HO_5, HO_9, BK194, BK195, HB⟩ := hrel
      cases gk with
      | zero => exact absurd HA.out (by simp [spec_l19Turned.l1])
      | succ k2 =>
       have H := HA.out
       clear HA
       simp only [spec_l19Turned.l1] at H
       by_cases c22 : x10_2 < (x5_1.length : Int)
       rotate_left
       · rw [if_neg c22] at H
         have c22b0 : decide (x10_2 < (x5_1.length : Int)) = false := decide_eq_false c22
         clear c22
         obtain rfl := Option.some.inj H
         go_wp2
         go_ret
         exact ⟨_, by first | rfl | (simp [errW_none, errW_some] <;> rfl) | (simp [*, errW_none, errW_some] <;> rfl), by (with_reducible repeat (first | apply Kd.R_alloc | apply Kd.R_drewN | apply Kd.R_drew)); exact Kd.R_mono HO_9.out (fun _ hk => trivial), by repeat (first | (with_reducible first | exact HB.out | apply below_alloc | apply pw_below_drewN | apply below_drew1 | refine below_set ?_ GE194.out | refine below_set ?_ GE195.out) | exact HB.out)⟩
       rw [if_pos c22] at H
       have c22b0 : decide (x10_2 < (x5_1.length : Int)) = true := decide_eq_true c22
       clear c22
       by_cases c23 : 0 ≤ x10_2
       rotate_left
       · rw [if_neg c23] at H
         exact absurd H (by simp)
       rw [if_pos c23] at H
       have c23b0 : decide (0 ≤ x10_2) = true := decide_eq_true c23
       clear c23
       have H' := mkA H
       clear H
       try go_wp2
       have n0_ := mkA (Kd.R_drew HO_5.out)
       have n1_ := mkA (Kd.R_drew HO_9.out)
       have n2_ := mkA (blk_drew BK194.out)
       have n3_ := mkA (blk_drew BK195.out)
       have n4_ := mkA (below_drew1 HB.out)
       clear HO_5
       clear HO_9
       clear BK194
       clear BK195
       clear HB
       have HO_5 := n0_
       have HO_9 := n1_
       have BK194 := n2_
       have BK195 := n3_
       have HB := n4_
       clear n0_ n1_ n2_ n3_ n4_
       have p199 : 0 ≤ (x10_2 : Int) := dt_
       have q199 : x10_2 < (x5_1.length : Int) := dt_
       obtain ⟨ad199, e199, hx199_0, hx199_1⟩ := at_T105 (Kd.R_reads' HO_5.out).2.2 x10_2 p199 q199
       cases e199
       replace p199 := eq_true p199
       replace q199 := eq_true q199
       have p200 : 0 ≤ (x10_2 : Int) := dt_
       have q200 : x10_2 < (x5_1.length : Int) := dt_
       obtain ⟨ad200, e200, hx200_0, hx200_1⟩ := at_T105 (Kd.R_reads' HO_5.out).2.2 x10_2 p200 q200
       obtain rfl : ad199 = ad200 := (by injection e200)
       replace p200 := eq_true p200
       replace q200 := eq_true q200
       refine start_ (n := 19) (S := fun w' => w'.cell? ⟨gb194, 0, none⟩ = some (.int .i64 t190) ∧ w'.cell? ⟨gb194, 1, none⟩ = some (.int .i64 t191) ∧ w'.cell? (ad199.add ((x10_2).toNat * 2)) = some (.int .i64 ((rd_T105 x5_1 x10_2).f0)) ∧ w'.cell? ⟨(ad199.add ((x10_2).toNat * 2)).block, (ad199.add ((x10_2).toNat * 2)).off + 1, none⟩ = some (.int .i64 ((rd_T105 x5_1 x10_2).f1)) ∧ w'.cell? (ad199.add ((x10_2).toNat * 2)) = some (.int .i64 ((rd_T105 x5_1 x10_2).f0)) ∧ w'.cell? ⟨(ad199.add ((x10_2).toNat * 2)).block, (ad199.add ((x10_2).toNat * 2)).off + 1, none⟩ = some (.int .i64 ((rd_T105 x5_1 x10_2).f1))) (ds := []) spec_l19Turned.d0 (by kernel_rfl) rfl rfl ⟨(blk_cell BK194.out 0).trans rfl, (blk_cell BK194.out 1).trans rfl, hx199_0, hx199_1, hx200_0, hx200_1⟩ (fun hHeld => ?_); refine with_tabW spec_l19Turned.tab11 spec_l19Turned.bits11 (fun HT_ HW_ => ?_)
       generalize wr.drew = w24 at HO_5 HO_9 BK194 BK195 HB hx199_0 hx199_1 hx200_0 hx200_1 hHeld ⊢
       refine p1_ HT_.out 0 48 spec_l19Turned.d1 ?_
       refine p1_ HT_.out 1 49 spec_l19Turned.d2 ?_
       refine p1_ HT_.out 2 50 spec_l19Turned.d3 ?_
       refine p1_ HT_.out 3 51 spec_l19Turned.d4 ?_
       refine p1_ HT_.out 5 53 spec_l19Turned.d5 ?_
       refine p1_ HT_.out 8 56 spec_l19Turned.d6 ?_
       refine p1_ HT_.out 9 57 spec_l19Turned.d7 ?_
       refine p1_ HT_.out 10 58 spec_l19Turned.d8 ?_
       refine p1_ HT_.out 11 59 spec_l19Turned.d9 ?_
       refine p1_ HT_.out 13 61 spec_l19Turned.d10 ?_
       refine take_ (i := 4) (N := some 52) (v := ?_) (a' := ?_) spec_l19Turned.d11 rfl rfl (take_ofW HT_.out HW_.out (by kernel_rfl)) (fun _ _ _ h => h) (Or.inl ⟨by rfl, ?_⟩) hHeld ?_ ?_
       rotate_left
       · rintro w' ⟨s0, s1, s2, s3, s4, s5⟩
         go_simp
         with_reducible rfl
       rotate_left
       · simp only [Act.put, sA, sB, sC, i64_w, i32_w]
         rfl
       refine take_ (i := 6) (N := some 54) (v := ?_) (a' := ?_) spec_l19Turned.d12 rfl rfl (take_ofW HT_.out HW_.out (by kernel_rfl)) (fun _ _ _ h => h) (Or.inl ⟨by rfl, ?_⟩) hHeld ?_ ?_
       rotate_left
       · rintro w' ⟨s0, s1, s2, s3, s4, s5⟩
         go_simp
         with_reducible rfl
       rotate_left
       · simp only [Act.put, sA, sB, sC, i64_w, i32_w]
         rfl
       refine p1_ HT_.out 7 55 spec_l19Turned.d13 ?_
       refine take_ (i := 12) (N := some 60) (v := ?_) (a' := ?_) spec_l19Turned.d14 rfl rfl (take_ofW HT_.out HW_.out (by kernel_rfl)) (fun _ _ _ h => h) (Or.inl ⟨by rfl, ?_⟩) hHeld ?_ ?_
       rotate_left
       · rintro w' ⟨s0, s1, s2, s3, s4, s5⟩
         go_simp
         with_reducible rfl
       rotate_left
       · simp only [Act.put, sA, sB, sC, i64_w, i32_w]
         rfl
       refine take_ (i := 14) (N := some 62) (v := ?_) (a' := ?_) spec_l19Turned.d15 rfl rfl (take_ofW HT_.out HW_.out (by kernel_rfl)) (fun _ _ _ h => h) (Or.inl ⟨by rfl, ?_⟩) hHeld ?_ ?_
       rotate_left
       · rintro w' ⟨s0, s1, s2, s3, s4, s5⟩
         go_simp
         with_reducible rfl
       rotate_left
       · simp only [Act.put, sA, sB, sC, i64_w, i32_w]
         rfl
       refine p1_ HT_.out 15 63 spec_l19Turned.d16 ?_
       refine p1_ HT_.out 16 64 spec_l19Turned.d17 ?_
       refine one_ (i := 17) (N := some 11) spec_l19Turned.d18 rfl rfl (one_of HT_.out (by kernel_rfl)) (by decide) (fun K hK => ?_)
       refine box_step ?hg (N := 11) ?hd (cs := #[.int .i64 0, .int .i64 0]) (t := 105) ?hr ?_; (case hd => rfl); (case hg => rfl); (case hr => first | (go_simp; done) | (go_simp; rfl))
       intro gb201 hg w25 hbox hb
       have HS2_ := (hb.cell (World.block_lt_of_cell? _ _ (hHeld.2.2.1))).trans (hHeld.2.2.1)
       have HS3_ := (hb.cell (World.block_lt_of_cell? _ _ (hHeld.2.2.2.1))).trans (hHeld.2.2.2.1)
       have HS4_ := (hb.cell (World.block_lt_of_cell? _ _ (hHeld.2.2.2.2.1))).trans (hHeld.2.2.2.2.1)
       have HS5_ := (hb.cell (World.block_lt_of_cell? _ _ (hHeld.2.2.2.2.2))).trans (hHeld.2.2.2.2.2)
       have n0_ := mkA (Kd.R_below (Kd.R_elderB (by (with_reducible repeat (first | apply Kd.R_alloc | apply Kd.R_drewN | apply Kd.R_drew)); exact HO_5.out) gb201 (Nat.le_of_eq hg.symm)) hb)
       have n1_ := mkA (Kd.R_below (Kd.R_elderB (by (with_reducible repeat (first | apply Kd.R_alloc | apply Kd.R_drewN | apply Kd.R_drew)); exact HO_9.out) gb201 (Nat.le_of_eq hg.symm)) hb)
       have n2_ := mkA (blk_below (g := gb194) (o := .cells #[.int .i64 t190, .int .i64 t191] 105 (0, 0)) (bl_ BK194.out) hb)
       have n3_ := mkA (blk_below (g := gb195) (o := .cells #[.int .i64 t192, .int .i64 t193] 105 (0, 0)) (bl_ BK195.out) hb)
       have n4_ := mkA (below_step (bs2_ HB.out GE194.out GE195.out) hb)
       have n5_ := mkA (hbox)
       have n6_ := mkA ((by rw [hg]; exact (below_size (bs2_ HB.out GE194.out GE195.out)) : w.heap.size ≤ gb201))
       have n7_ := mkA ((by rw [hg]; exact (below_size (bs2_ HB.out GE194.out GE195.out)) : w.heap.size ≤ gb201))
       have n8_ := mkA ((by rw [hg]; exact Nat.ne_of_lt (blk_lt (g := gb194) (o := .cells #[.int .i64 t190, .int .i64 t191] 105 (0, 0)) (bl_ BK194.out)) : gb194 ≠ gb201))
       have n9_ := mkA ((by rw [hg]; exact Nat.ne_of_gt (blk_lt (g := gb194) (o := .cells #[.int .i64 t190, .int .i64 t191] 105 (0, 0)) (bl_ BK194.out)) : gb201 ≠ gb194))
       have n10_ := mkA ((by rw [hg]; exact Nat.ne_of_lt (blk_lt (g := gb195) (o := .cells #[.int .i64 t192, .int .i64 t193] 105 (0, 0)) (bl_ BK195.out)) : gb195 ≠ gb201))
       have n11_ := mkA ((by rw [hg]; exact Nat.ne_of_gt (blk_lt (g := gb195) (o := .cells #[.int .i64 t192, .int .i64 t193] 105 (0, 0)) (bl_ BK195.out)) : gb201 ≠ gb195))
       clear HO_5
       clear HO_9
       clear BK194
       clear BK195
       clear HB
       have HO_5 := n0_
       have HO_9 := n1_
       have BK194 := n2_
       have BK195 := n3_
       have HB := n4_
       have BK201 := n5_
       have GW201 := n6_
       have GE201 := n7_
       have NB194_201 := n8_
       have NB201_194 := n9_
       have NB195_201 := n10_
       have NB201_195 := n11_
       clear n0_ n1_ n2_ n3_ n4_ n5_ n6_ n7_ n8_ n9_ n10_ n11_
       clear hb hbox hg
       refine hK.out _ _ ⟨(blk_cell BK194.out 0).trans rfl, (blk_cell BK194.out 1).trans rfl, HS2_, HS3_, HS4_, HS5_⟩ (fun hHeld => ?_)
       clear hK K
       refine norm_ (a' := ?_) ?_ ?_
       rotate_left
       · show Act.put _ (some 11) _ = _
         simp only [Act.put, sA, sB, sC, i64_w, i32_w]
         rfl
       refine one_ (i := 18) (N := none) spec_l19Turned.d19 rfl rfl (one_of HT_.out (by kernel_rfl)) (by decide) (fun K hK => ?_)
       have hs26 : w25.cell? ⟨gb201, 0, none⟩ = some (.int .i64 0) := (blk_cell BK201.out 0).trans rfl
       have hfs26 := blk_frozen BK201.out 0
       have hns26_0 := NB194_201.out
       have hns26_1 := NB195_201.out
       have hms26_0 := NB201_194.out
       have hms26_1 := NB201_195.out
       have hs27 : w25.cell? ⟨gb201, 1, none⟩ = some (.int .i64 0) := (blk_cell BK201.out 1).trans rfl
       have hfs27 := blk_frozen BK201.out 1
       have hns27_0 := NB194_201.out
       have hns27_1 := NB195_201.out
       have hms27_0 := NB201_194.out
       have hms27_1 := NB201_195.out
       refine skip_ (w1 := ?_) (by rfl) rfl ?_ ?_
       rotate_left
       · go_simp
         rfl
       refine hK.out _ _ ⟨((cell_far (p := ⟨gb201, _, none⟩) NB194_201.out _).trans (((cell_far (p := ⟨gb201, _, none⟩) NB194_201.out _).trans (hHeld.1)))), ((cell_far (p := ⟨gb201, _, none⟩) NB194_201.out _).trans (((cell_far (p := ⟨gb201, _, none⟩) NB194_201.out _).trans (hHeld.2.1)))), ((cell_far (p := ⟨gb201, _, none⟩) (by first | exact Kd.own_blk (Kd.R_away HO_5.out (fun _ hk => hk.2)) | (rw [add_block]; exact Kd.own_blk (Kd.R_away HO_5.out (fun _ hk => hk.2))) | (show (Addr.add _ _).block ≠ _; rw [add_block]; exact Kd.own_blk (Kd.R_away HO_5.out (fun _ hk => hk.2))) | (dsimp only; exact Kd.own_blk (Kd.R_away HO_5.out (fun _ hk => hk.2)))) _).trans (((cell_far (p := ⟨gb201, _, none⟩) (by first | exact Kd.own_blk (Kd.R_away HO_5.out (fun _ hk => hk.2)) | (rw [add_block]; exact Kd.own_blk (Kd.R_away HO_5.out (fun _ hk => hk.2))) | (show (Addr.add _ _).block ≠ _; rw [add_block]; exact Kd.own_blk (Kd.R_away HO_5.out (fun _ hk => hk.2))) | (dsimp only; exact Kd.own_blk (Kd.R_away HO_5.out (fun _ hk => hk.2)))) _).trans (hHeld.2.2.1)))), ((cell_far (p := ⟨gb201, _, none⟩) (by first | exact Kd.own_blk (Kd.R_away HO_5.out (fun _ hk => hk.2)) | (rw [add_block]; exact Kd.own_blk (Kd.R_away HO_5.out (fun _ hk => hk.2))) | (show (Addr.add _ _).block ≠ _; rw [add_block]; exact Kd.own_blk (Kd.R_away HO_5.out (fun _ hk => hk.2))) | (dsimp only; exact Kd.own_blk (Kd.R_away HO_5.out (fun _ hk => hk.2)))) _).trans (((cell_far (p := ⟨gb201, _, none⟩) (by first | exact Kd.own_blk (Kd.R_away HO_5.out (fun _ hk => hk.2)) | (rw [add_block]; exact Kd.own_blk (Kd.R_away HO_5.out (fun _ hk => hk.2))) | (show (Addr.add _ _).block ≠ _; rw [add_block]; exact Kd.own_blk (Kd.R_away HO_5.out (fun _ hk => hk.2))) | (dsimp only; exact Kd.own_blk (Kd.R_away HO_5.out (fun _ hk => hk.2)))) _).trans (hHeld.2.2.2.1)))), ((cell_far (p := ⟨gb201, _, none⟩) (by first | exact Kd.own_blk (Kd.R_away HO_5.out (fun _ hk => hk.2)) | (rw [add_block]; exact Kd.own_blk (Kd.R_away HO_5.out (fun _ hk => hk.2))) | (show (Addr.add _ _).block ≠ _; rw [add_block]; exact Kd.own_blk (Kd.R_away HO_5.out (fun _ hk => hk.2))) | (dsimp only; exact Kd.own_blk (Kd.R_away HO_5.out (fun _ hk => hk.2)))) _).trans (((cell_far (p := ⟨gb201, _, none⟩) (by first | exact Kd.own_blk (Kd.R_away HO_5.out (fun _ hk => hk.2)) | (rw [add_block]; exact Kd.own_blk (Kd.R_away HO_5.out (fun _ hk => hk.2))) | (show (Addr.add _ _).block ≠ _; rw [add_block]; exact Kd.own_blk (Kd.R_away HO_5.out (fun _ hk => hk.2))) | (dsimp only; exact Kd.own_blk (Kd.R_away HO_5.out (fun _ hk => hk.2)))) _).trans (hHeld.2.2.2.2.1)))), ((cell_far (p := ⟨gb201, _, none⟩) (by first | exact Kd.own_blk (Kd.R_away HO_5.out (fun _ hk => hk.2)) | (rw [add_block]; exact Kd.own_blk (Kd.R_away HO_5.out (fun _ hk => hk.2))) | (show (Addr.add _ _).block ≠ _; rw [add_block]; exact Kd.own_blk (Kd.R_away HO_5.out (fun _ hk => hk.2))) | (dsimp only; exact Kd.own_blk (Kd.R_away HO_5.out (fun _ hk => hk.2)))) _).trans (((cell_far (p := ⟨gb201, _, none⟩) (by first | exact Kd.own_blk (Kd.R_away HO_5.out (fun _ hk => hk.2)) | (rw [add_block]; exact Kd.own_blk (Kd.R_away HO_5.out (fun _ hk => hk.2))) | (show (Addr.add _ _).block ≠ _; rw [add_block]; exact Kd.own_blk (Kd.R_away HO_5.out (fun _ hk => hk.2))) | (dsimp only; exact Kd.own_blk (Kd.R_away HO_5.out (fun _ hk => hk.2)))) _).trans (hHeld.2.2.2.2.2))))⟩ (fun hHeld => ?_)
       clear hK K
       refine done_ (done_of HT_.out (by kernel_rfl)) ?_
       obtain ⟨Ao28, co28, eo28⟩ := Kd.R_slice HO_9.out
       subst eo28
       try go_wp2
       go_loopg [12] k2 (fun kq v12 w' => ∃ (x12_3 : Int), v12 = .int .i64 x12_3 ∧ Aside0 (spec_l19Turned.l2 kq x5_1 x9_2 x10_2 x12_3 t190 t191 (wrap64 (((rd_T105 x5_1 x10_2).f0) - t190)) (wrap64 (((rd_T105 x5_1 x10_2).f1) - t191)) = some r) ∧ Aside0 (kq ≤ k2) ∧ Aside0 (Kd.R k105 105 w' w.heap.size (fun k_ => some k_ ≠ ((.slice Ao28 x9_2.length co28) : Value).ownBlock ∧ k_ ≠ gb194 ∧ k_ ≠ gb195 ∧ k_ ≠ gb201) (.slice (some ad199) x5_1.length co13) x5_1) ∧ Aside0 (Kd.R k105 105 w' w.heap.size (fun k_ => some k_ ≠ ((.slice (some ad199) x5_1.length co13) : Value).ownBlock ∧ k_ ≠ gb194 ∧ k_ ≠ gb195 ∧ k_ ≠ gb201) (.slice Ao28 x9_2.length co28) x9_2) ∧ Aside0 (w'.heap[gb194]? = some (.cells #[.int .i64 t190, .int .i64 t191] 105 (0, 0))) ∧ Aside0 (w'.heap[gb195]? = some (.cells #[.int .i64 t192, .int .i64 t193] 105 (0, 0))) ∧ Aside0 (w'.heap[gb201]? = some (.cells #[.int .i64 (wrap64 (((rd_T105 x5_1 x10_2).f0) - t190)), .int .i64 (wrap64 (((rd_T105 x5_1 x10_2).f1) - t191))] 105 (0, 0))) ∧ Aside0 (Below w.heap.size w w'))
       case atStart => exact ⟨((x9_2.length : Int)), (by first | rfl | (simp; done) | (simp [*]; done) | (simp [i64_w, i32_w]; done)), H', ⟨Nat.le_refl _⟩, ⟨by (with_reducible repeat (first | apply Kd.R_alloc | apply Kd.R_drewN | apply Kd.R_drew)); exact Kd.R_mono (Kd.R_far (p := ⟨gb201, 1, none⟩) (Kd.R_far (p := ⟨gb201, 0, none⟩) (Kd.R_mono HO_5.out (fun k_ hk => (⟨hk, hk.2⟩ : _ ∧ k_ ≠ gb201))) (fun _ hk => hk.2) (.int .i64 (wrap64 (((rd_T105 x5_1 x10_2).f0) - t190)))) (fun _ hk => hk.2) (.int .i64 (wrap64 (((rd_T105 x5_1 x10_2).f1) - t191)))) (fun _ hk => ⟨hk.1.1.1, ⟨hk.1.1.2.1, ⟨hk.1.1.2.2, hk.1.2⟩⟩⟩)⟩, ⟨by (with_reducible repeat (first | apply Kd.R_alloc | apply Kd.R_drewN | apply Kd.R_drew)); exact Kd.R_mono (Kd.R_far (p := ⟨gb201, 1, none⟩) (Kd.R_far (p := ⟨gb201, 0, none⟩) (Kd.R_mono HO_9.out (fun k_ hk => (⟨hk, hk.2⟩ : _ ∧ k_ ≠ gb201))) (fun _ hk => hk.2) (.int .i64 (wrap64 (((rd_T105 x5_1 x10_2).f0) - t190)))) (fun _ hk => hk.2) (.int .i64 (wrap64 (((rd_T105 x5_1 x10_2).f1) - t191)))) (fun _ hk => ⟨hk.1.1.1, ⟨hk.1.1.2.1, ⟨hk.1.1.2.2, hk.1.2⟩⟩⟩)⟩, ⟨by (with_reducible repeat (first | refine blk_drewN ?_ _ | refine blk_drew ?_ | refine blk_alloc ?_ _)); refine blk_far ?_ NB194_201.out _; (with_reducible repeat (first | refine blk_drewN ?_ _ | refine blk_drew ?_ | refine blk_alloc ?_ _)); refine blk_far ?_ NB194_201.out _; (with_reducible repeat (first | refine blk_drewN ?_ _ | refine blk_drew ?_ | refine blk_alloc ?_ _)); exact BK194.out⟩, ⟨by (with_reducible repeat (first | refine blk_drewN ?_ _ | refine blk_drew ?_ | refine blk_alloc ?_ _)); refine blk_far ?_ NB195_201.out _; (with_reducible repeat (first | refine blk_drewN ?_ _ | refine blk_drew ?_ | refine blk_alloc ?_ _)); refine blk_far ?_ NB195_201.out _; (with_reducible repeat (first | refine blk_drewN ?_ _ | refine blk_drew ?_ | refine blk_alloc ?_ _)); exact BK195.out⟩, ⟨by (with_reducible repeat (first | refine blk_drewN ?_ _ | refine blk_drew ?_ | refine blk_alloc ?_ _)); refine blk_put (cs := #[.int .i64 (wrap64 (((rd_T105 x5_1 x10_2).f0) - t190)), .int .i64 0]) ?_ 1 _ rfl; (with_reducible repeat (first | refine blk_drewN ?_ _ | refine blk_drew ?_ | refine blk_alloc ?_ _)); refine blk_put (cs := #[.int .i64 0, .int .i64 0]) ?_ 0 _ rfl; (with_reducible repeat (first | refine blk_drewN ?_ _ | refine blk_drew ?_ | refine blk_alloc ?_ _)); exact BK201.out⟩, ⟨by repeat (first | (with_reducible first | exact HB.out | apply below_alloc | apply pw_below_drewN | apply below_drew1 | refine below_set ?_ GE194.out | refine below_set ?_ GE195.out | refine below_set ?_ GE201.out) | exact HB.out)⟩⟩
       case round =>
        clear H'
        try clear c1
        try clear p1
        try clear q1
        try clear hx1
        try clear qi1
        try clear c2
        try clear p2
        try clear q2
        try clear hx2
        try clear c5
        try clear c5b0
        try clear c5b1
        try clear c6
        try clear c6b0
        try clear p6
        try clear c7
        try clear c7b0
        try clear c9
        try clear c11
        try clear c17
        try clear c18
        try clear p18
        try clear q18
        try clear hx18
        try clear qi18
        try clear p19
        try clear q19
        try clear hx19
        try clear p20
        try clear q20
        try clear hx20
        try clear c22
        try clear c22b0
        try clear c23
        try clear c23b0
        try clear hcz18_0
        try clear hcz18_1
        try clear hcz19_0
        try clear hcz19_1
        try clear hfz18_0
        try clear hfz18_1
        try clear hfz19_0
        try clear hfz19_1
        try clear hx182_0
        try clear hx182_1
        try clear hx182_2
        try clear hx182_3
        try clear hx183_0
        try clear hx183_1
        try clear hx183_2
        try clear hx183_3
        try clear hx184_0
        try clear hx184_1
        try clear hx199_0
        try clear hx199_1
        try clear hx200_0
        try clear hx200_1
        try clear p1
        try clear p18
        try clear p182
        try clear p183
        try clear p184
        try clear p199
        try clear p2
        try clear p200
        try clear p6
        try clear q1
        try clear q18
        try clear q182
        try clear q183
        try clear q184
        try clear q199
        try clear q200
        obtain ⟨x12_3, rfl, HA, HK3, HO_5, HO_9, BK194, BK195, BK201, HB⟩ := hrel
        cases gk with
        | zero => exact absurd HA.out (by simp [spec_l19Turned.l2])
        | succ k3 =>
         have H := HA.out
         clear HA
         simp only [spec_l19Turned.l2] at H
         by_cases c29 : x12_3 > 0
         rotate_left
         · rw [if_neg c29] at H
           have c29b0 : decide (0 < x12_3) = false := decide_eq_false c29
           clear c29
           obtain ⟨y224, hy224⟩ : ∃ y_ : List (S105), y_ = (([] : List (S105))) := ⟨_, rfl⟩
           replace H : (if 0 ≤ x12_3 then (if x12_3 ≤ (x9_2.length : Int) then ((some (x9_2.take (x12_3 : Int).toNat : List (S105))).bind fun y227 => (if y224.length + y227.length < 8796093022208 then ((some (y224 ++ y227 : List (S105))).bind fun y231 => (if y231.length < 8796093022208 then ((some (y231 ++ [(⟨(wrap64 (((rd_T105 x5_1 x10_2).f0) - t190)), (wrap64 (((rd_T105 x5_1 x10_2).f1) - t191))⟩ : S105)] : List (S105))).bind fun y234 => ((some (x9_2.drop (x12_3 : Int).toNat : List (S105))).bind fun y237 => (if y234.length + y237.length < 8796093022208 then (spec_l19Turned.l1 k3 x5_1 (y234 ++ y237) (wrap64 (x10_2 + 1)) t190 t191) else (none)))) else (none))) else (none))) else (none)) else (none)) = some r := by first | (rw [hy224]; with_reducible exact H) | (have H2_ := (Option.bind_some _ _).symm.trans H; rw [hy224]; with_reducible exact H2_) | (have H2_ := (Option.bind_some _ _).symm.trans H; with_reducible exact H2_) | with_reducible exact H | (rw [hy224]; exact H) | exact H
           have Ny224 := mkA hy224
           clear hy224
           by_cases c56 : 0 ≤ x12_3
           rotate_left
           · rw [if_neg c56] at H
             exact absurd H (by simp)
           rw [if_pos c56] at H
           have c56b0 := eq_true c56
           have c56b1 : decide (0 ≤ x12_3) = true := decide_eq_true c56
           clear c56
           by_cases c57 : x12_3 ≤ (x9_2.length : Int)
           rotate_left
           · rw [if_neg c57] at H
             exact absurd H (by simp)
           rw [if_pos c57] at H
           have c57b0 := eq_true c57
           have c57b1 : decide (x12_3 ≤ (x9_2.length : Int)) = true := decide_eq_true c57
           clear c57
           obtain ⟨y227, hy227⟩ : ∃ y_ : List (S105), y_ = (x9_2.take (x12_3 : Int).toNat) := ⟨_, rfl⟩
           replace H : (if y224.length + y227.length < 8796093022208 then ((some (y224 ++ y227 : List (S105))).bind fun y231 => (if y231.length < 8796093022208 then ((some (y231 ++ [(⟨(wrap64 (((rd_T105 x5_1 x10_2).f0) - t190)), (wrap64 (((rd_T105 x5_1 x10_2).f1) - t191))⟩ : S105)] : List (S105))).bind fun y234 => ((some (x9_2.drop (x12_3 : Int).toNat : List (S105))).bind fun y237 => (if y234.length + y237.length < 8796093022208 then (spec_l19Turned.l1 k3 x5_1 (y234 ++ y237) (wrap64 (x10_2 + 1)) t190 t191) else (none)))) else (none))) else (none)) = some r := by first | (rw [hy227]; with_reducible exact H) | (have H2_ := (Option.bind_some _ _).symm.trans H; rw [hy227]; with_reducible exact H2_) | (have H2_ := (Option.bind_some _ _).symm.trans H; with_reducible exact H2_) | with_reducible exact H | (rw [hy227]; exact H) | exact H
           have Ny227 := mkA hy227
           clear hy227
           by_cases c58 : y224.length + y227.length < 8796093022208
           rotate_left
           · rw [if_neg c58] at H
             exact absurd H (by simp)
           rw [if_pos c58] at H
           have LMc58 := mkA c58
           clear c58
           obtain ⟨y231, hy231⟩ : ∃ y_ : List (S105), y_ = (y224 ++ y227) := ⟨_, rfl⟩
           replace H : (if y231.length < 8796093022208 then ((some (y231 ++ [(⟨(wrap64 (((rd_T105 x5_1 x10_2).f0) - t190)), (wrap64 (((rd_T105 x5_1 x10_2).f1) - t191))⟩ : S105)] : List (S105))).bind fun y234 => ((some (x9_2.drop (x12_3 : Int).toNat : List (S105))).bind fun y237 => (if y234.length + y237.length < 8796093022208 then (spec_l19Turned.l1 k3 x5_1 (y234 ++ y237) (wrap64 (x10_2 + 1)) t190 t191) else (none)))) else (none)) = some r := by first | (rw [hy231]; with_reducible exact H) | (have H2_ := (Option.bind_some _ _).symm.trans H; rw [hy231]; with_reducible exact H2_) | (have H2_ := (Option.bind_some _ _).symm.trans H; with_reducible exact H2_) | with_reducible exact H | (rw [hy231]; exact H) | exact H
           have Ny231 := mkA hy231
           clear hy231
           by_cases c59 : y231.length < 8796093022208
           rotate_left
           · rw [if_neg c59] at H
             exact absurd H (by simp)
           rw [if_pos c59] at H
           have LMc59 := mkA c59
           clear c59
           obtain ⟨y234, hy234⟩ : ∃ y_ : List (S105), y_ = (y231 ++ [(⟨(wrap64 (((rd_T105 x5_1 x10_2).f0) - t190)), (wrap64 (((rd_T105 x5_1 x10_2).f1) - t191))⟩ : S105)]) := ⟨_, rfl⟩
           replace H : ((some (x9_2.drop (x12_3 : Int).toNat : List (S105))).bind fun y237 => (if y234.length + y237.length < 8796093022208 then (spec_l19Turned.l1 k3 x5_1 (y234 ++ y237) (wrap64 (x10_2 + 1)) t190 t191) else (none))) = some r := by first | (rw [hy234]; with_reducible exact H) | (have H2_ := (Option.bind_some _ _).symm.trans H; rw [hy234]; with_reducible exact H2_) | (have H2_ := (Option.bind_some _ _).symm.trans H; with_reducible exact H2_) | with_reducible exact H | (rw [hy234]; exact H) | exact H
           have Ny234 := mkA hy234
           clear hy234
           have c60b0 := eq_true (dt_ : 0 ≤ x12_3)
           have c61b0 := eq_true (dt_ : x12_3 ≤ (x9_2.length : Int))
           obtain ⟨y237, hy237⟩ : ∃ y_ : List (S105), y_ = (x9_2.drop (x12_3 : Int).toNat) := ⟨_, rfl⟩
           replace H : (if y234.length + y237.length < 8796093022208 then (spec_l19Turned.l1 k3 x5_1 (y234 ++ y237) (wrap64 (x10_2 + 1)) t190 t191) else (none)) = some r := by first | (rw [hy237]; with_reducible exact H) | (have H2_ := (Option.bind_some _ _).symm.trans H; rw [hy237]; with_reducible exact H2_) | (have H2_ := (Option.bind_some _ _).symm.trans H; with_reducible exact H2_) | with_reducible exact H | (rw [hy237]; exact H) | exact H
           have Ny237 := mkA hy237
           clear hy237
           by_cases c62 : y234.length + y237.length < 8796093022208
           rotate_left
           · rw [if_neg c62] at H
             exact absurd H (by simp)
           rw [if_pos c62] at H
           have LMc62 := mkA c62
           clear c62
           obtain ⟨y241, hy241⟩ : ∃ y_ : List (S105), y_ = (y234 ++ y237) := ⟨_, rfl⟩
           replace H : (spec_l19Turned.l1 k3 x5_1 y241 (wrap64 (x10_2 + 1)) t190 t191) = some r := by first | (rw [hy241]; with_reducible exact H) | (have H2_ := (Option.bind_some _ _).symm.trans H; rw [hy241]; with_reducible exact H2_) | (have H2_ := (Option.bind_some _ _).symm.trans H; with_reducible exact H2_) | with_reducible exact H | (rw [hy241]; exact H) | exact H
           have Ny241 := mkA hy241
           clear hy241
           have H' := mkA H
           clear H
           try go_wp2
           have n0_ := mkA (Kd.R_drew HO_5.out)
           have n1_ := mkA (Kd.R_drew HO_9.out)
           have n2_ := mkA (blk_drew BK194.out)
           have n3_ := mkA (blk_drew BK195.out)
           have n4_ := mkA (blk_drew BK201.out)
           have n5_ := mkA (below_drew1 HB.out)
           clear HO_5
           clear HO_9
           clear BK194
           clear BK195
           clear BK201
           clear HB
           have HO_5 := n0_
           have HO_9 := n1_
           have BK194 := n2_
           have BK195 := n3_
           have BK201 := n4_
           have HB := n5_
           clear n0_ n1_ n2_ n3_ n4_ n5_
           refine start_ (n := 11) (S := fun w' => True) (ds := []) spec_l19Turned.d20 (by kernel_rfl) rfl rfl trivial (fun hHeld => ?_); refine with_tabW spec_l19Turned.tab13 spec_l19Turned.bits13 (fun HT_ HW_ => ?_)
           generalize wr.drew = w63 at HO_5 HO_9 BK194 BK195 BK201 HB hHeld ⊢
           refine p1_ HT_.out 0 67 spec_l19Turned.d21 ?_
           refine p1_ HT_.out 1 68 spec_l19Turned.d22 ?_
           refine p1_ HT_.out 2 69 spec_l19Turned.d23 ?_
           refine p0_ HT_.out 3 70 spec_l19Turned.d32 ?_
           refine p0_ HT_.out 4 71 spec_l19Turned.d33 ?_
           refine p0_ HT_.out 5 72 spec_l19Turned.d34 ?_
           refine p0_ HT_.out 6 73 spec_l19Turned.d35 ?_
           refine p0_ HT_.out 7 74 spec_l19Turned.d28 ?_
           refine p0_ HT_.out 8 75 spec_l19Turned.d29 ?_
           refine p0_ HT_.out 9 76 spec_l19Turned.d30 ?_
           refine p1_ HT_.out 10 77 spec_l19Turned.d31 ?_
           refine done_ (done_of HT_.out (by kernel_rfl)) ?_
           try go_wp2_with (first | ((with_reducible refine gate_dst (N := 80) rfl ?_); refine Kd.R_lit k105 _ 105 ?hg (N := 80) ?hd (xs := ([] : List (S105))) (inner := []) (ok := fun _ => True) (okp := fun _ => True) ?hr ?hp (fun _ hk => hk) trivial (Below.refl _ _) (Nat.le_refl _) (by simp) ?_; (case hd => rfl); (case hg => rfl); (case hr => first | (go_simp; done) | (go_simp; rfl)); (case hp => exact (Reps.none _ _)); intro v225 w64 ho65 hb hg_ hnew_; clear hg_ hnew_; (first | rw [← Ny224.out] at ho65 | (simp only [Int.reduceToNat] at ho65; rw [← Ny224.out] at ho65)); have n0_ := mkA (Kd.R_elder' (by (with_reducible repeat (first | apply Kd.R_alloc | apply Kd.R_drewN | apply Kd.R_drew)); exact HO_5.out) (Kd.R_base ho65) hb); have n1_ := mkA (Kd.R_elder' (by (with_reducible repeat (first | apply Kd.R_alloc | apply Kd.R_drewN | apply Kd.R_drew)); exact HO_9.out) (Kd.R_base ho65) hb); have n2_ := mkA (Kd.R_lower (Kd.R_newB (Kd.R_newB (Kd.R_newB (Kd.R_new' (Kd.R_new' ho65 (Kd.R_lt (by (with_reducible repeat (first | apply Kd.R_alloc | apply Kd.R_drewN | apply Kd.R_drew)); exact HO_5.out))) (Kd.R_lt (by (with_reducible repeat (first | apply Kd.R_alloc | apply Kd.R_drewN | apply Kd.R_drew)); exact HO_9.out))) (g := gb194) (o := .cells #[.int .i64 t190, .int .i64 t191] 105 (0, 0)) (bl_ BK194.out)) (g := gb195) (o := .cells #[.int .i64 t192, .int .i64 t193] 105 (0, 0)) (bl_ BK195.out)) (g := gb201) (o := .cells #[.int .i64 (wrap64 (((rd_T105 x5_1 x10_2).f0) - t190)), .int .i64 (wrap64 (((rd_T105 x5_1 x10_2).f1) - t191))] 105 (0, 0)) (bl_ BK201.out)) (below_size (bs3_ HB.out GE194.out GE195.out GE201.out))); have n3_ := mkA (blk_below (g := gb194) (o := .cells #[.int .i64 t190, .int .i64 t191] 105 (0, 0)) (bl_ BK194.out) hb); have n4_ := mkA (blk_below (g := gb195) (o := .cells #[.int .i64 t192, .int .i64 t193] 105 (0, 0)) (bl_ BK195.out) hb); have n5_ := mkA (blk_below (g := gb201) (o := .cells #[.int .i64 (wrap64 (((rd_T105 x5_1 x10_2).f0) - t190)), .int .i64 (wrap64 (((rd_T105 x5_1 x10_2).f1) - t191))] 105 (0, 0)) (bl_ BK201.out) hb); have n6_ := mkA (below_step (bs3_ HB.out GE194.out GE195.out GE201.out) hb); clear HO_5; clear HO_9; clear BK194; clear BK195; clear BK201; clear HB; have HO_5 := n0_; have HO_9 := n1_; have HO226 := n2_; have BK194 := n3_; have BK195 := n4_; have BK201 := n5_; have HB := n6_; clear n0_ n1_ n2_ n3_ n4_ n5_ n6_; clear hb ho65; have q66 : (x12_3 : Int) ≤ ((x9_2.length : Int) : Int) := dt_; obtain ⟨i066, hi066, _, hsz66, _⟩ := info_parts info105; have hroom66 : x9_2.length ≤ co28 := (Kd.R_reads' HO_9.out).2.1; have hC66 : Kd.C k105 _ Ao28 x9_2.length x9_2 := (Kd.R_reads' HO_9.out).2.2; have hcut66 := cut_to (P := Try.prog) 51 105 .i64 Try.underlying51 hi066 Ao28 x9_2.length co28 x12_3 (dt_) q66 hroom66; have hr66 := Kd.C_take (m := (x12_3 : Int).toNat) hC66 (by omega); have hy66 : y227.length = (x12_3 : Int).toNat := (by rw [Ny227.out, List.length_take]; omega); rw [← Ny227.out] at hr66; rw [← hy66] at hcut66; have HR230 := mkA hr66; have HC230 := mkA (show y227.length ≤ co28 from by omega); clear hr66 hC66 hroom66 hi066 hsz66; have KY66 := mkA hy66; clear hy66; have KL66 := mkA (show (x12_3 : Int).toNat ≤ x9_2.length from by omega); replace q66 := eq_true q66) | ((with_reducible refine gate_builtin (b := .append) (xs := #[.tmp 80, .tmp 83]) rfl ?_); at_builtin; refine Kd.R_append_rows k105 (w0 := w) w.heap.size rfl (.tmp 80) (.tmp 83) 51 105 (.agg #[(.int .i64 0), (.int .i64 0)]) 16 rfl Try.underlying51 info105 rfl (by decide) (by omega) v225 y224 y227 _ _ _ (fun k_ => some k_ ≠ (.slice (some ad199) x5_1.length co13 : Value).ownBlock ∧ some k_ ≠ (.slice Ao28 x9_2.length co28 : Value).ownBlock ∧ k_ ≠ gb194 ∧ k_ ≠ gb195 ∧ k_ ≠ gb201) (fun _ => False) rfl rfl ?aO ?aR (fun _ _ h => h) (fun _ h => h.elim) ?aF ?aB ?aS ?aL ?_; (case aR => repeat (first | exact (by repeat (first | (with_reducible exact HR230.out) | (with_reducible refine Kd.C_alloc ?_ _) | (with_reducible refine Kd.C_drewN ?_ _) | (with_reducible refine Kd.C_drew ?_) | exact HR230.out)) | (with_reducible refine Kd.C_alloc ?_ _) | (with_reducible refine Kd.C_drewN ?_ _) | (with_reducible refine Kd.C_drew ?_))); (case aB => exact (bs3_ HB.out GE194.out GE195.out GE201.out)); (case aF => exact (fun k_ hk => ⟨Kd.fresh' (Kd.R_lt (by (with_reducible repeat (first | apply Kd.R_alloc | apply Kd.R_drewN | apply Kd.R_drew)); exact HO_5.out)) k_ hk, Kd.fresh' (Kd.R_lt (by (with_reducible repeat (first | apply Kd.R_alloc | apply Kd.R_drewN | apply Kd.R_drew)); exact HO_9.out)) k_ hk, Kd.freshB (g := gb194) (o := .cells #[.int .i64 t190, .int .i64 t191] 105 (0, 0)) (bl_ BK194.out) k_ hk, Kd.freshB (g := gb195) (o := .cells #[.int .i64 t192, .int .i64 t193] 105 (0, 0)) (bl_ BK195.out) k_ hk, Kd.freshB (g := gb201) (o := .cells #[.int .i64 (wrap64 (((rd_T105 x5_1 x10_2).f0) - t190)), .int .i64 (wrap64 (((rd_T105 x5_1 x10_2).f1) - t191))] 105 (0, 0)) (bl_ BK201.out) k_ hk⟩)); (case aO => exact (by (with_reducible repeat (first | apply Kd.R_alloc | apply Kd.R_drewN | apply Kd.R_drew)); exact Kd.R_mono HO226.out (fun _ hk => ⟨hk.1.1.1.1.2, ⟨hk.1.1.1.2, ⟨hk.1.1.2, ⟨hk.1.2, hk.2⟩⟩⟩⟩))); (case aS => exact (below_size (bs3_ HB.out GE194.out GE195.out GE201.out))); (case aL => have := LMc58.out; omega); intro v232 w67 ho hb hg hat; rw [← Ny231.out] at ho; have n0_ := mkA (Kd.R_after (ok := (fun k_ => some k_ ≠ (.slice Ao28 x9_2.length co28 : Value).ownBlock ∧ k_ ≠ gb194 ∧ k_ ≠ gb195 ∧ k_ ≠ gb201)) (by (with_reducible repeat (first | apply Kd.R_alloc | apply Kd.R_drewN | apply Kd.R_drew)); exact HO_5.out) hg hat); have n1_ := mkA (Kd.R_after (ok := (fun k_ => some k_ ≠ (.slice (some ad199) x5_1.length co13 : Value).ownBlock ∧ k_ ≠ gb194 ∧ k_ ≠ gb195 ∧ k_ ≠ gb201)) (by (with_reducible repeat (first | apply Kd.R_alloc | apply Kd.R_drewN | apply Kd.R_drew)); exact HO_9.out) hg hat); have n2_ := mkA (blk_grown (g := gb194) (o := .cells #[.int .i64 t190, .int .i64 t191] 105 (0, 0)) (bl_ BK194.out) hg (Kd.R_away HO226.out (fun _ hk => hk.1.1.2))); have n3_ := mkA (blk_grown (g := gb195) (o := .cells #[.int .i64 t192, .int .i64 t193] 105 (0, 0)) (bl_ BK195.out) hg (Kd.R_away HO226.out (fun _ hk => hk.1.2))); have n4_ := mkA (blk_grown (g := gb201) (o := .cells #[.int .i64 (wrap64 (((rd_T105 x5_1 x10_2).f0) - t190)), .int .i64 (wrap64 (((rd_T105 x5_1 x10_2).f1) - t191))] 105 (0, 0)) (bl_ BK201.out) hg (Kd.R_away HO226.out (fun _ hk => hk.2))); have n5_ := mkA (hb); have n6_ := mkA ((show Kd.C k105 w67 Ao28 y227.length y227 from by rw [Ny227.out]; exact Kd.C_take (m := (x12_3 : Int).toNat) ((Kd.R_reads' (Kd.R_after (ok := (fun k_ => some k_ ≠ (.slice (some ad199) x5_1.length co13 : Value).ownBlock ∧ k_ ≠ gb194 ∧ k_ ≠ gb195 ∧ k_ ≠ gb201)) (by (with_reducible repeat (first | apply Kd.R_alloc | apply Kd.R_drewN | apply Kd.R_drew)); exact HO_9.out) hg hat)).2.2) KL66.out)); have n7_ := mkA (ho); clear HO_5; clear HO_9; clear BK194; clear BK195; clear BK201; clear HB; clear HR230; clear HO226; have HO_5 := n0_; have HO_9 := n1_; have BK194 := n2_; have BK195 := n3_; have BK201 := n4_; have HB := n5_; have HR230 := n6_; have HO233 := n7_; clear n0_ n1_ n2_ n3_ n4_ n5_ n6_ n7_; clear ho hb hg hat; have hnb68 := NB201_194.out; have hnc68 := NB194_201.out; have hnb69 := NB201_195.out; have hnc69 := NB195_201.out; have hcz70_0 : w67.cell? ⟨gb201, 0, none⟩ = some (.int .i64 (wrap64 (((rd_T105 x5_1 x10_2).f0) - t190))) := (blk_cell BK201.out 0).trans rfl; have hcz70_1 : w67.cell? ⟨gb201, 1, none⟩ = some (.int .i64 (wrap64 (((rd_T105 x5_1 x10_2).f1) - t191))) := (blk_cell BK201.out 1).trans rfl; have hfz70_0 := blk_frozen BK201.out 0; have hfz70_1 := blk_frozen BK201.out 1) | ((with_reducible refine gate_builtin (b := .append) (xs := #[.tmp 85, .tmp 87]) rfl ?_); at_builtin; refine Kd.R_append k105 (w0 := w) w.heap.size rfl (.tmp 85) (.tmp 87) 51 105 (.agg #[(.int .i64 0), (.int .i64 0)]) 16 rfl Try.underlying51 info105 rfl (by decide) (by omega) v232 y231 (⟨(wrap64 (((rd_T105 x5_1 x10_2).f0) - t190)), (wrap64 (((rd_T105 x5_1 x10_2).f1) - t191))⟩ : S105) [.int .i64 (wrap64 (((rd_T105 x5_1 x10_2).f0) - t190)), .int .i64 (wrap64 (((rd_T105 x5_1 x10_2).f1) - t191))] (fun k_ => some k_ ≠ (.slice (some ad199) x5_1.length co13 : Value).ownBlock ∧ some k_ ≠ (.slice Ao28 x9_2.length co28 : Value).ownBlock ∧ k_ ≠ gb194 ∧ k_ ≠ gb195 ∧ k_ ≠ gb201) (fun _ => False) rfl rfl ?aP (fun _ hk => hk.elim) ?aF ?aO ?aB ?aS ?aL ?_; (case aP => exact k105_mkM _ _ _ (⟨(wrap64 (((rd_T105 x5_1 x10_2).f0) - t190)), (wrap64 (((rd_T105 x5_1 x10_2).f1) - t191))⟩ : S105)); (case aB => exact (bs3_ HB.out GE194.out GE195.out GE201.out)); (case aF => exact (fun k_ hk => ⟨Kd.fresh' (Kd.R_lt (by (with_reducible repeat (first | apply Kd.R_alloc | apply Kd.R_drewN | apply Kd.R_drew)); exact HO_5.out)) k_ hk, Kd.fresh' (Kd.R_lt (by (with_reducible repeat (first | apply Kd.R_alloc | apply Kd.R_drewN | apply Kd.R_drew)); exact HO_9.out)) k_ hk, Kd.freshB (g := gb194) (o := .cells #[.int .i64 t190, .int .i64 t191] 105 (0, 0)) (bl_ BK194.out) k_ hk, Kd.freshB (g := gb195) (o := .cells #[.int .i64 t192, .int .i64 t193] 105 (0, 0)) (bl_ BK195.out) k_ hk, Kd.freshB (g := gb201) (o := .cells #[.int .i64 (wrap64 (((rd_T105 x5_1 x10_2).f0) - t190)), .int .i64 (wrap64 (((rd_T105 x5_1 x10_2).f1) - t191))] 105 (0, 0)) (bl_ BK201.out) k_ hk⟩)); (case aO => exact (by (with_reducible repeat (first | apply Kd.R_alloc | apply Kd.R_drewN | apply Kd.R_drew)); exact HO233.out)); (case aS => exact (below_size (bs3_ HB.out GE194.out GE195.out GE201.out))); (case aL => have := LMc59.out; omega); intro v235 w71 ho hb hg hat; rw [← Ny234.out] at ho; have n0_ := mkA (Kd.R_after (ok := (fun k_ => some k_ ≠ (.slice Ao28 x9_2.length co28 : Value).ownBlock ∧ k_ ≠ gb194 ∧ k_ ≠ gb195 ∧ k_ ≠ gb201)) (by (with_reducible repeat (first | apply Kd.R_alloc | apply Kd.R_drewN | apply Kd.R_drew)); exact HO_5.out) hg hat); have n1_ := mkA (Kd.R_after (ok := (fun k_ => some k_ ≠ (.slice (some ad199) x5_1.length co13 : Value).ownBlock ∧ k_ ≠ gb194 ∧ k_ ≠ gb195 ∧ k_ ≠ gb201)) (by (with_reducible repeat (first | apply Kd.R_alloc | apply Kd.R_drewN | apply Kd.R_drew)); exact HO_9.out) hg hat); have n2_ := mkA (blk_grown (g := gb194) (o := .cells #[.int .i64 t190, .int .i64 t191] 105 (0, 0)) (bl_ BK194.out) hg (Kd.R_away HO233.out (fun _ hk => hk.2.2.1))); have n3_ := mkA (blk_grown (g := gb195) (o := .cells #[.int .i64 t192, .int .i64 t193] 105 (0, 0)) (bl_ BK195.out) hg (Kd.R_away HO233.out (fun _ hk => hk.2.2.2.1))); have n4_ := mkA (blk_grown (g := gb201) (o := .cells #[.int .i64 (wrap64 (((rd_T105 x5_1 x10_2).f0) - t190)), .int .i64 (wrap64 (((rd_T105 x5_1 x10_2).f1) - t191))] 105 (0, 0)) (bl_ BK201.out) hg (Kd.R_away HO233.out (fun _ hk => hk.2.2.2.2))); have n5_ := mkA (hb); have n6_ := mkA ((show Kd.C k105 w71 Ao28 y227.length y227 from by rw [Ny227.out]; exact Kd.C_take (m := (x12_3 : Int).toNat) ((Kd.R_reads' (Kd.R_after (ok := (fun k_ => some k_ ≠ (.slice (some ad199) x5_1.length co13 : Value).ownBlock ∧ k_ ≠ gb194 ∧ k_ ≠ gb195 ∧ k_ ≠ gb201)) (by (with_reducible repeat (first | apply Kd.R_alloc | apply Kd.R_drewN | apply Kd.R_drew)); exact HO_9.out) hg hat)).2.2) KL66.out)); have n7_ := mkA (ho); clear HO_5; clear HO_9; clear BK194; clear BK195; clear BK201; clear HB; clear HR230; clear HO233; have HO_5 := n0_; have HO_9 := n1_; have BK194 := n2_; have BK195 := n3_; have BK201 := n4_; have HB := n5_; have HR230 := n6_; have HO236 := n7_; clear n0_ n1_ n2_ n3_ n4_ n5_ n6_ n7_; clear ho hb hg hat; have q72 : (x12_3 : Int) ≤ ((x9_2.length : Int) : Int) := dt_; obtain ⟨i072, hi072, _, hsz72, _⟩ := info_parts info105; have hroom72 : x9_2.length ≤ co28 := (Kd.R_reads' HO_9.out).2.1; have hC72 : Kd.C k105 _ Ao28 x9_2.length x9_2 := (Kd.R_reads' HO_9.out).2.2; have q072 : (0 : Int) ≤ (x12_3 : Int) := dt_; have hcut72 := cut_from (P := Try.prog) 51 105 .i64 Try.underlying51 hi072 2 hsz72 Ao28 x9_2.length co28 x12_3 q072 q72; have hr72 := Kd.C_drop (m := (x12_3 : Int).toNat) (c := co28) hC72 (by omega) hroom72; obtain ⟨A72, hA72⟩ : ∃ A1, A1 = (if co28 = (x12_3 : Int).toNat then Ao28 else (Ao28 : Option Addr).map (·.add ((x12_3 : Int).toNat * 2))) := ⟨_, rfl⟩; obtain ⟨c72, hc72⟩ : ∃ c1, c1 = co28 - (x12_3 : Int).toNat := ⟨_, rfl⟩; have hy72 : y237.length = x9_2.length - (x12_3 : Int).toNat := (by rw [Ny237.out, List.length_drop] <;> omega); rw [show (x9_2).drop (x12_3 : Int).toNat = y237 from Ny237.out.symm] at hr72; replace hr72 : Kd.C k105 _ A72 y237.length y237 := (by rw [hA72]; exact hr72); rw [← hy72, ← hA72, ← hc72] at hcut72; have HR240 := mkA hr72; have HC240 := mkA (show y237.length ≤ c72 from by rw [hy72, hc72]; exact Nat.sub_le_sub_right hroom72 _); clear hr72 hC72 hroom72 hi072 hsz72 hc72; have KY72 := mkA hy72; have KA72 := mkA hA72; clear hy72 hA72; have KL72 := mkA (show (x12_3 : Int).toNat ≤ x9_2.length from by omega); replace q72 := eq_true q72) | ((with_reducible refine gate_builtin (b := .append) (xs := #[.tmp 89, .tmp 92]) rfl ?_); at_builtin; refine Kd.R_append_rows k105 (w0 := w) w.heap.size rfl (.tmp 89) (.tmp 92) 51 105 (.agg #[(.int .i64 0), (.int .i64 0)]) 16 rfl Try.underlying51 info105 rfl (by decide) (by omega) v235 y234 y237 _ _ _ (fun k_ => some k_ ≠ (.slice (some ad199) x5_1.length co13 : Value).ownBlock ∧ some k_ ≠ (.slice Ao28 x9_2.length co28 : Value).ownBlock ∧ k_ ≠ gb194 ∧ k_ ≠ gb195 ∧ k_ ≠ gb201) (fun _ => False) rfl rfl ?aO ?aR (fun _ _ h => h) (fun _ h => h.elim) ?aF ?aB ?aS ?aL ?_; (case aR => repeat (first | exact (by repeat (first | (with_reducible exact HR240.out) | (with_reducible refine Kd.C_alloc ?_ _) | (with_reducible refine Kd.C_drewN ?_ _) | (with_reducible refine Kd.C_drew ?_) | exact HR240.out)) | (with_reducible refine Kd.C_alloc ?_ _) | (with_reducible refine Kd.C_drewN ?_ _) | (with_reducible refine Kd.C_drew ?_))); (case aB => exact (bs3_ HB.out GE194.out GE195.out GE201.out)); (case aF => exact (fun k_ hk => ⟨Kd.fresh' (Kd.R_lt (by (with_reducible repeat (first | apply Kd.R_alloc | apply Kd.R_drewN | apply Kd.R_drew)); exact HO_5.out)) k_ hk, Kd.fresh' (Kd.R_lt (by (with_reducible repeat (first | apply Kd.R_alloc | apply Kd.R_drewN | apply Kd.R_drew)); exact HO_9.out)) k_ hk, Kd.freshB (g := gb194) (o := .cells #[.int .i64 t190, .int .i64 t191] 105 (0, 0)) (bl_ BK194.out) k_ hk, Kd.freshB (g := gb195) (o := .cells #[.int .i64 t192, .int .i64 t193] 105 (0, 0)) (bl_ BK195.out) k_ hk, Kd.freshB (g := gb201) (o := .cells #[.int .i64 (wrap64 (((rd_T105 x5_1 x10_2).f0) - t190)), .int .i64 (wrap64 (((rd_T105 x5_1 x10_2).f1) - t191))] 105 (0, 0)) (bl_ BK201.out) k_ hk⟩)); (case aO => exact (by (with_reducible repeat (first | apply Kd.R_alloc | apply Kd.R_drewN | apply Kd.R_drew)); exact HO236.out)); (case aS => exact (below_size (bs3_ HB.out GE194.out GE195.out GE201.out))); (case aL => have := LMc62.out; omega); intro v242 w73 ho hb hg hat; rw [← Ny241.out] at ho; have n0_ := mkA (Kd.R_after (ok := (fun k_ => some k_ ≠ (.slice Ao28 x9_2.length co28 : Value).ownBlock ∧ k_ ≠ gb194 ∧ k_ ≠ gb195 ∧ k_ ≠ gb201)) (by (with_reducible repeat (first | apply Kd.R_alloc | apply Kd.R_drewN | apply Kd.R_drew)); exact HO_5.out) hg hat); have n1_ := mkA (Kd.R_after (ok := (fun k_ => some k_ ≠ (.slice (some ad199) x5_1.length co13 : Value).ownBlock ∧ k_ ≠ gb194 ∧ k_ ≠ gb195 ∧ k_ ≠ gb201)) (by (with_reducible repeat (first | apply Kd.R_alloc | apply Kd.R_drewN | apply Kd.R_drew)); exact HO_9.out) hg hat); have n2_ := mkA (blk_grown (g := gb194) (o := .cells #[.int .i64 t190, .int .i64 t191] 105 (0, 0)) (bl_ BK194.out) hg (Kd.R_away HO236.out (fun _ hk => hk.2.2.1))); have n3_ := mkA (blk_grown (g := gb195) (o := .cells #[.int .i64 t192, .int .i64 t193] 105 (0, 0)) (bl_ BK195.out) hg (Kd.R_away HO236.out (fun _ hk => hk.2.2.2.1))); have n4_ := mkA (blk_grown (g := gb201) (o := .cells #[.int .i64 (wrap64 (((rd_T105 x5_1 x10_2).f0) - t190)), .int .i64 (wrap64 (((rd_T105 x5_1 x10_2).f1) - t191))] 105 (0, 0)) (bl_ BK201.out) hg (Kd.R_away HO236.out (fun _ hk => hk.2.2.2.2))); have n5_ := mkA (hb); have n6_ := mkA ((show Kd.C k105 w73 Ao28 y227.length y227 from by rw [Ny227.out]; exact Kd.C_take (m := (x12_3 : Int).toNat) ((Kd.R_reads' (Kd.R_after (ok := (fun k_ => some k_ ≠ (.slice (some ad199) x5_1.length co13 : Value).ownBlock ∧ k_ ≠ gb194 ∧ k_ ≠ gb195 ∧ k_ ≠ gb201)) (by (with_reducible repeat (first | apply Kd.R_alloc | apply Kd.R_drewN | apply Kd.R_drew)); exact HO_9.out) hg hat)).2.2) KL66.out)); have n7_ := mkA ((show Kd.C k105 w73 A72 y237.length y237 from by rw [Ny237.out, KA72.out]; exact Kd.C_drop (m := (x12_3 : Int).toNat) (c := co28) ((Kd.R_reads' (Kd.R_after (ok := (fun k_ => some k_ ≠ (.slice (some ad199) x5_1.length co13 : Value).ownBlock ∧ k_ ≠ gb194 ∧ k_ ≠ gb195 ∧ k_ ≠ gb201)) (by (with_reducible repeat (first | apply Kd.R_alloc | apply Kd.R_drewN | apply Kd.R_drew)); exact HO_9.out) hg hat)).2.2) KL72.out ((Kd.R_reads' (Kd.R_after (ok := (fun k_ => some k_ ≠ (.slice (some ad199) x5_1.length co13 : Value).ownBlock ∧ k_ ≠ gb194 ∧ k_ ≠ gb195 ∧ k_ ≠ gb201)) (by (with_reducible repeat (first | apply Kd.R_alloc | apply Kd.R_drewN | apply Kd.R_drew)); exact HO_9.out) hg hat)).2.1))); have n8_ := mkA (ho); clear HO_5; clear HO_9; clear BK194; clear BK195; clear BK201; clear HB; clear HR230; clear HR240; clear HO236; have HO_5 := n0_; have HO_9 := n1_; have BK194 := n2_; have BK195 := n3_; have BK201 := n4_; have HB := n5_; have HR230 := n6_; have HR240 := n7_; have HO243 := n8_; clear n0_ n1_ n2_ n3_ n4_ n5_ n6_ n7_ n8_; clear ho hb hg hat))
           go_roundg k3
           case measure => have := HK1.out; have := HK2.out; have := HK3.out; omega
           case rel => exact ⟨(y241), (wrap64 (x10_2 + 1)), (by first | rfl | (simp; done) | (simp [*]; done) | (simp [i64_w, i32_w]; done)), H', ⟨by have := HK1.out; have := HK2.out; have := HK3.out; omega⟩, ⟨by (with_reducible repeat (first | apply Kd.R_alloc | apply Kd.R_drewN | apply Kd.R_drew)); exact Kd.R_mono HO_5.out (fun _ hk => ⟨hk.2, ⟨hk.1.2.1, hk.1.2.2.1⟩⟩)⟩, ⟨by (with_reducible repeat (first | apply Kd.R_alloc | apply Kd.R_drewN | apply Kd.R_drew)); exact Kd.R_mono HO243.out (fun _ hk => ⟨hk.1, ⟨hk.2.2.1, hk.2.2.2.1⟩⟩)⟩, ⟨by (with_reducible repeat (first | refine blk_drewN ?_ _ | refine blk_drew ?_ | refine blk_alloc ?_ _)); exact BK194.out⟩, ⟨by (with_reducible repeat (first | refine blk_drewN ?_ _ | refine blk_drew ?_ | refine blk_alloc ?_ _)); exact BK195.out⟩, ⟨by repeat (first | (with_reducible first | exact HB.out | apply below_alloc | apply pw_below_drewN | apply below_drew1 | refine below_set ?_ GE194.out | refine below_set ?_ GE195.out | refine below_set ?_ GE201.out) | exact HB.out)⟩⟩
         rw [if_pos c29] at H
         have c29b0 : decide (0 < x12_3) = true := decide_eq_true c29
         clear c29
         obtain ⟨ji30, hji30⟩ : ∃ j_ : Int, (wrap64 (x12_3 - 1)) = j_ := ⟨_, rfl⟩
         replace H : (if 0 ≤ (ji30) then (if (ji30) < (x9_2.length : Int) then ((spec_l19Before.f (wrap64 (((rd_T105 x5_1 x10_2).f0) - t190)) (wrap64 (((rd_T105 x5_1 x10_2).f1) - t191)) ((rd_T105 x9_2 (ji30)).f0) ((rd_T105 x9_2 (ji30)).f1)).bind fun t203 => (if t203 = true then (spec_l19Turned.l2 k3 x5_1 x9_2 x10_2 ji30 t190 t191 (wrap64 (((rd_T105 x5_1 x10_2).f0) - t190)) (wrap64 (((rd_T105 x5_1 x10_2).f1) - t191))) else ((some (([] : List (S105)) : List (S105))).bind fun y204 => (if 0 ≤ x12_3 then (if x12_3 ≤ (x9_2.length : Int) then ((some (x9_2.take (x12_3 : Int).toNat : List (S105))).bind fun y207 => (if y204.length + y207.length < 8796093022208 then ((some (y204 ++ y207 : List (S105))).bind fun y211 => (if y211.length < 8796093022208 then ((some (y211 ++ [(⟨(wrap64 (((rd_T105 x5_1 x10_2).f0) - t190)), (wrap64 (((rd_T105 x5_1 x10_2).f1) - t191))⟩ : S105)] : List (S105))).bind fun y214 => ((some (x9_2.drop (x12_3 : Int).toNat : List (S105))).bind fun y217 => (if y214.length + y217.length < 8796093022208 then (spec_l19Turned.l1 k3 x5_1 (y214 ++ y217) (wrap64 (x10_2 + 1)) t190 t191) else (none)))) else (none))) else (none))) else (none)) else (none))))) else (none)) else (none)) = some r := by first | (rw [hji30] at H; exact H) | (simp only [hji30] at H ⊢; exact H)
         have hji30w : (IntKind.i64.wrap (x12_3 - 1)) = ji30 := (i64_w _).trans hji30
         by_cases c31 : 0 ≤ (ji30)
         rotate_left
         · rw [if_neg c31] at H
           exact absurd H (by simp)
         rw [if_pos c31] at H
         have c31b0 : decide (0 ≤ (ji30)) = true := decide_eq_true c31
         clear c31
         by_cases c32 : (ji30) < (x9_2.length : Int)
         rotate_left
         · rw [if_neg c32] at H
           exact absurd H (by simp)
         rw [if_pos c32] at H
         have c32b0 : decide ((ji30) < (x9_2.length : Int)) = true := decide_eq_true c32
         clear c32
         replace H := Option.bind_eq_some_iff.mp H
         obtain ⟨t203, A330, H⟩ := H
         replace H : (if t203 = true then (spec_l19Turned.l2 k3 x5_1 x9_2 x10_2 ji30 t190 t191 (wrap64 (((rd_T105 x5_1 x10_2).f0) - t190)) (wrap64 (((rd_T105 x5_1 x10_2).f1) - t191))) else ((some (([] : List (S105)) : List (S105))).bind fun y204 => (if 0 ≤ x12_3 then (if x12_3 ≤ (x9_2.length : Int) then ((some (x9_2.take (x12_3 : Int).toNat : List (S105))).bind fun y207 => (if y204.length + y207.length < 8796093022208 then ((some (y204 ++ y207 : List (S105))).bind fun y211 => (if y211.length < 8796093022208 then ((some (y211 ++ [(⟨(wrap64 (((rd_T105 x5_1 x10_2).f0) - t190)), (wrap64 (((rd_T105 x5_1 x10_2).f1) - t191))⟩ : S105)] : List (S105))).bind fun y214 => ((some (x9_2.drop (x12_3 : Int).toNat : List (S105))).bind fun y217 => (if y214.length + y217.length < 8796093022208 then (spec_l19Turned.l1 k3 x5_1 (y214 ++ y217) (wrap64 (x10_2 + 1)) t190 t191) else (none)))) else (none))) else (none))) else (none)) else (none)))) = some r := H
         have A33 := mkA A330
         clear A330
         by_cases c34 : t203 = true
         · subst c34
           have H1 : (spec_l19Turned.l2 k3 x5_1 x9_2 x10_2 ji30 t190 t191 (wrap64 (((rd_T105 x5_1 x10_2).f0) - t190)) (wrap64 (((rd_T105 x5_1 x10_2).f1) - t191))) = some r := by rw [if_pos rfl] at H; exact H
           clear H
           have H := H1
           clear H1
           have H' := mkA H
           clear H
           try go_wp2
           have n0_ := mkA (Kd.R_drew HO_5.out)
           have n1_ := mkA (Kd.R_drew HO_9.out)
           have n2_ := mkA (blk_drew BK194.out)
           have n3_ := mkA (blk_drew BK195.out)
           have n4_ := mkA (blk_drew BK201.out)
           have n5_ := mkA (below_drew1 HB.out)
           clear HO_5
           clear HO_9
           clear BK194
           clear BK195
           clear BK201
           clear HB
           have HO_5 := n0_
           have HO_9 := n1_
           have BK194 := n2_
           have BK195 := n3_
           have BK201 := n4_
           have HB := n5_
           clear n0_ n1_ n2_ n3_ n4_ n5_
           have p202 : 0 ≤ ((ji30) : Int) := dt_
           have q202 : (ji30) < (x9_2.length : Int) := dt_
           obtain ⟨ad202, e202, hx202_0, hx202_1⟩ := at_T105 (Kd.R_reads' HO_9.out).2.2 (ji30) p202 q202
           cases e202
           replace p202 := eq_true p202
           replace q202 := eq_true q202
           refine start_ (n := 11) (S := fun w' => w'.cell? ⟨gb201, 0, none⟩ = some (.int .i64 (wrap64 (((rd_T105 x5_1 x10_2).f0) - t190))) ∧ w'.cell? ⟨gb201, 1, none⟩ = some (.int .i64 (wrap64 (((rd_T105 x5_1 x10_2).f1) - t191))) ∧ w'.cell? (ad202.add (((ji30)).toNat * 2)) = some (.int .i64 ((rd_T105 x9_2 (ji30)).f0)) ∧ w'.cell? ⟨(ad202.add (((ji30)).toNat * 2)).block, (ad202.add (((ji30)).toNat * 2)).off + 1, none⟩ = some (.int .i64 ((rd_T105 x9_2 (ji30)).f1))) (ds := []) spec_l19Turned.d20 (by kernel_rfl) rfl rfl ⟨(blk_cell BK201.out 0).trans rfl, (blk_cell BK201.out 1).trans rfl, hx202_0, hx202_1⟩ (fun hHeld => ?_); refine with_tabW spec_l19Turned.tab13 spec_l19Turned.bits13 (fun HT_ HW_ => ?_)
           generalize wr.drew = w35 at HO_5 HO_9 BK194 BK195 BK201 HB hx202_0 hx202_1 hHeld ⊢
           refine p1_ HT_.out 0 67 spec_l19Turned.d21 ?_
           refine p1_ HT_.out 1 68 spec_l19Turned.d22 ?_
           refine p1_ HT_.out 2 69 spec_l19Turned.d23 ?_
           refine p1_ HT_.out 4 71 spec_l19Turned.d24 ?_
           refine p1_ HT_.out 5 72 spec_l19Turned.d25 ?_
           refine p1_ HT_.out 6 73 spec_l19Turned.d26 ?_
           refine p1_ HT_.out 7 74 spec_l19Turned.d27 ?_
           refine take_ (i := 3) (N := some 70) (v := ?_) (a' := ?_) spec_l19Turned.d28 rfl rfl (take_ofW HT_.out HW_.out (by kernel_rfl)) (fun _ _ _ h => h) (Or.inl ⟨by rfl, ?_⟩) hHeld ?_ ?_
           rotate_left
           · rintro w' ⟨s0, s1, s2, s3⟩
             go_simp
             with_reducible rfl
           rotate_left
           · simp only [Act.put, sA, sB, sC, i64_w, i32_w]
             rfl
           refine take_ (i := 8) (N := some 75) (v := ?_) (a' := ?_) spec_l19Turned.d29 rfl rfl (take_ofW HT_.out HW_.out (by kernel_rfl)) (fun _ _ _ h => h) (Or.inl ⟨by rfl, ?_⟩) hHeld ?_ ?_
           rotate_left
           · rintro w' ⟨s0, s1, s2, s3⟩
             go_simp
             with_reducible rfl
           rotate_left
           · simp only [Act.put, sA, sB, sC, i64_w, i32_w]
             rfl
           refine one_ (i := 9) (N := some 76) spec_l19Turned.d30 rfl rfl (one_of HT_.out (by kernel_rfl)) (by decide) (fun K hK => ?_)
           refine goes_ Try.func92 (by kernel_rfl) rfl #[.agg #[.int .i64 (wrap64 (((rd_T105 x5_1 x10_2).f0) - t190)), .int .i64 (wrap64 (((rd_T105 x5_1 x10_2).f1) - t191))], .agg #[.int .i64 ((rd_T105 x9_2 (ji30)).f0), .int .i64 ((rd_T105 x9_2 (ji30)).f1)]] (by rfl) rfl rfl (by (try simp only [List.map_toArray, List.map_cons, List.map_nil]); first | done | (simp only [hji30]; rfl) | rfl | (simp only [List.length_drop, List.length_take]; rfl)) ?_
           with_reducible refine (spec_l19Before.calls (wrap64 (((rd_T105 x5_1 x10_2).f0) - t190)) (wrap64 (((rd_T105 x5_1 x10_2).f1) - t191)) ((rd_T105 x9_2 (ji30)).f0) ((rd_T105 x9_2 (ji30)).f1) true _ A33.out).mono ?_
           rintro e w36 ⟨rfl, hb⟩
           have HS2_ := (hb.cell (World.block_lt_of_cell? _ _ (hHeld.2.2.1))).trans (hHeld.2.2.1)
           have HS3_ := (hb.cell (World.block_lt_of_cell? _ _ (hHeld.2.2.2))).trans (hHeld.2.2.2)
           refine ⟨_, rfl, ?_⟩
           have n0_ := mkA (Kd.R_below (by (with_reducible repeat (first | apply Kd.R_alloc | apply Kd.R_drewN | apply Kd.R_drew)); exact HO_5.out) hb)
           have n1_ := mkA (Kd.R_below (by (with_reducible repeat (first | apply Kd.R_alloc | apply Kd.R_drewN | apply Kd.R_drew)); exact HO_9.out) hb)
           have n2_ := mkA (blk_below (g := gb194) (o := .cells #[.int .i64 t190, .int .i64 t191] 105 (0, 0)) (bl_ BK194.out) hb)
           have n3_ := mkA (blk_below (g := gb195) (o := .cells #[.int .i64 t192, .int .i64 t193] 105 (0, 0)) (bl_ BK195.out) hb)
           have n4_ := mkA (blk_below (g := gb201) (o := .cells #[.int .i64 (wrap64 (((rd_T105 x5_1 x10_2).f0) - t190)), .int .i64 (wrap64 (((rd_T105 x5_1 x10_2).f1) - t191))] 105 (0, 0)) (bl_ BK201.out) hb)
           have n5_ := mkA (below_step (bs3_ HB.out GE194.out GE195.out GE201.out) hb)
           clear HO_5
           clear HO_9
           clear BK194
           clear BK195
           clear BK201
           clear HB
           have HO_5 := n0_
           have HO_9 := n1_
           have BK194 := n2_
           have BK195 := n3_
           have BK201 := n4_
           have HB := n5_
           clear n0_ n1_ n2_ n3_ n4_ n5_
           (try clear hb)
           (try clear hb2)
           (try clear hk)
           (try clear hi)
           refine hK.out _ _ ⟨(blk_cell BK201.out 0).trans rfl, (blk_cell BK201.out 1).trans rfl, HS2_, HS3_⟩ (fun hHeld => ?_)
           clear hK K
           refine norm_ (a' := ?_) ?_ ?_
           rotate_left
           · show Act.put _ (some 76) _ = _
             simp only [Act.put, sA, sB, sC, i64_w, i32_w]
             rfl
           refine p1_ HT_.out 10 77 spec_l19Turned.d31 ?_
           refine done_ (done_of HT_.out (by kernel_rfl)) ?_
           try go_wp2
           go_roundg k3
           case measure => have := HK1.out; have := HK2.out; have := HK3.out; omega
           case rel => exact ⟨(ji30), (by first | rfl | (simp; done) | (simp only [← hji30] <;> (first | rfl | simp)) | (simp [*]; done)), H', ⟨by have := HK1.out; have := HK2.out; have := HK3.out; omega⟩, ⟨by (with_reducible repeat (first | apply Kd.R_alloc | apply Kd.R_drewN | apply Kd.R_drew)); exact HO_5.out⟩, ⟨by (with_reducible repeat (first | apply Kd.R_alloc | apply Kd.R_drewN | apply Kd.R_drew)); exact HO_9.out⟩, ⟨by (with_reducible repeat (first | refine blk_drewN ?_ _ | refine blk_drew ?_ | refine blk_alloc ?_ _)); exact BK194.out⟩, ⟨by (with_reducible repeat (first | refine blk_drewN ?_ _ | refine blk_drew ?_ | refine blk_alloc ?_ _)); exact BK195.out⟩, ⟨by (with_reducible repeat (first | refine blk_drewN ?_ _ | refine blk_drew ?_ | refine blk_alloc ?_ _)); exact BK201.out⟩, ⟨by repeat (first | (with_reducible first | exact HB.out | apply below_alloc | apply pw_below_drewN | apply below_drew1 | refine below_set ?_ GE194.out | refine below_set ?_ GE195.out | refine below_set ?_ GE201.out) | exact HB.out)⟩⟩
         · replace c34 := Bool.eq_false_iff.mpr c34
           subst c34
           have H1 : ((some (([] : List (S105)) : List (S105))).bind fun y204 => (if 0 ≤ x12_3 then (if x12_3 ≤ (x9_2.length : Int) then ((some (x9_2.take (x12_3 : Int).toNat : List (S105))).bind fun y207 => (if y204.length + y207.length < 8796093022208 then ((some (y204 ++ y207 : List (S105))).bind fun y211 => (if y211.length < 8796093022208 then ((some (y211 ++ [(⟨(wrap64 (((rd_T105 x5_1 x10_2).f0) - t190)), (wrap64 (((rd_T105 x5_1 x10_2).f1) - t191))⟩ : S105)] : List (S105))).bind fun y214 => ((some (x9_2.drop (x12_3 : Int).toNat : List (S105))).bind fun y217 => (if y214.length + y217.length < 8796093022208 then (spec_l19Turned.l1 k3 x5_1 (y214 ++ y217) (wrap64 (x10_2 + 1)) t190 t191) else (none)))) else (none))) else (none))) else (none)) else (none))) = some r := by rw [if_neg (show ¬ (false = true) by decide)] at H; exact H
           clear H
           have H := H1
           clear H1
           obtain ⟨y204, hy204⟩ : ∃ y_ : List (S105), y_ = (([] : List (S105))) := ⟨_, rfl⟩
           replace H : (if 0 ≤ x12_3 then (if x12_3 ≤ (x9_2.length : Int) then ((some (x9_2.take (x12_3 : Int).toNat : List (S105))).bind fun y207 => (if y204.length + y207.length < 8796093022208 then ((some (y204 ++ y207 : List (S105))).bind fun y211 => (if y211.length < 8796093022208 then ((some (y211 ++ [(⟨(wrap64 (((rd_T105 x5_1 x10_2).f0) - t190)), (wrap64 (((rd_T105 x5_1 x10_2).f1) - t191))⟩ : S105)] : List (S105))).bind fun y214 => ((some (x9_2.drop (x12_3 : Int).toNat : List (S105))).bind fun y217 => (if y214.length + y217.length < 8796093022208 then (spec_l19Turned.l1 k3 x5_1 (y214 ++ y217) (wrap64 (x10_2 + 1)) t190 t191) else (none)))) else (none))) else (none))) else (none)) else (none)) = some r := by first | (rw [hy204]; with_reducible exact H) | (have H2_ := (Option.bind_some _ _).symm.trans H; rw [hy204]; with_reducible exact H2_) | (have H2_ := (Option.bind_some _ _).symm.trans H; with_reducible exact H2_) | with_reducible exact H | (rw [hy204]; exact H) | exact H
           have Ny204 := mkA hy204
           clear hy204
           by_cases c37 : 0 ≤ x12_3
           rotate_left
           · rw [if_neg c37] at H
             exact absurd H (by simp)
           rw [if_pos c37] at H
           have c37b0 := eq_true c37
           have c37b1 : decide (0 ≤ x12_3) = true := decide_eq_true c37
           clear c37
           by_cases c38 : x12_3 ≤ (x9_2.length : Int)
           rotate_left
           · rw [if_neg c38] at H
             exact absurd H (by simp)
           rw [if_pos c38] at H
           have c38b0 := eq_true c38
           have c38b1 : decide (x12_3 ≤ (x9_2.length : Int)) = true := decide_eq_true c38
           clear c38
           obtain ⟨y207, hy207⟩ : ∃ y_ : List (S105), y_ = (x9_2.take (x12_3 : Int).toNat) := ⟨_, rfl⟩
           replace H : (if y204.length + y207.length < 8796093022208 then ((some (y204 ++ y207 : List (S105))).bind fun y211 => (if y211.length < 8796093022208 then ((some (y211 ++ [(⟨(wrap64 (((rd_T105 x5_1 x10_2).f0) - t190)), (wrap64 (((rd_T105 x5_1 x10_2).f1) - t191))⟩ : S105)] : List (S105))).bind fun y214 => ((some (x9_2.drop (x12_3 : Int).toNat : List (S105))).bind fun y217 => (if y214.length + y217.length < 8796093022208 then (spec_l19Turned.l1 k3 x5_1 (y214 ++ y217) (wrap64 (x10_2 + 1)) t190 t191) else (none)))) else (none))) else (none)) = some r := by first | (rw [hy207]; with_reducible exact H) | (have H2_ := (Option.bind_some _ _).symm.trans H; rw [hy207]; with_reducible exact H2_) | (have H2_ := (Option.bind_some _ _).symm.trans H; with_reducible exact H2_) | with_reducible exact H | (rw [hy207]; exact H) | exact H
           have Ny207 := mkA hy207
           clear hy207
           by_cases c39 : y204.length + y207.length < 8796093022208
           rotate_left
           · rw [if_neg c39] at H
             exact absurd H (by simp)
           rw [if_pos c39] at H
           have LMc39 := mkA c39
           clear c39
           obtain ⟨y211, hy211⟩ : ∃ y_ : List (S105), y_ = (y204 ++ y207) := ⟨_, rfl⟩
           replace H : (if y211.length < 8796093022208 then ((some (y211 ++ [(⟨(wrap64 (((rd_T105 x5_1 x10_2).f0) - t190)), (wrap64 (((rd_T105 x5_1 x10_2).f1) - t191))⟩ : S105)] : List (S105))).bind fun y214 => ((some (x9_2.drop (x12_3 : Int).toNat : List (S105))).bind fun y217 => (if y214.length + y217.length < 8796093022208 then (spec_l19Turned.l1 k3 x5_1 (y214 ++ y217) (wrap64 (x10_2 + 1)) t190 t191) else (none)))) else (none)) = some r := by first | (rw [hy211]; with_reducible exact H) | (have H2_ := (Option.bind_some _ _).symm.trans H; rw [hy211]; with_reducible exact H2_) | (have H2_ := (Option.bind_some _ _).symm.trans H; with_reducible exact H2_) | with_reducible exact H | (rw [hy211]; exact H) | exact H
           have Ny211 := mkA hy211
           clear hy211
           by_cases c40 : y211.length < 8796093022208
           rotate_left
           · rw [if_neg c40] at H
             exact absurd H (by simp)
           rw [if_pos c40] at H
           have LMc40 := mkA c40
           clear c40
           obtain ⟨y214, hy214⟩ : ∃ y_ : List (S105), y_ = (y211 ++ [(⟨(wrap64 (((rd_T105 x5_1 x10_2).f0) - t190)), (wrap64 (((rd_T105 x5_1 x10_2).f1) - t191))⟩ : S105)]) := ⟨_, rfl⟩
           replace H : ((some (x9_2.drop (x12_3 : Int).toNat : List (S105))).bind fun y217 => (if y214.length + y217.length < 8796093022208 then (spec_l19Turned.l1 k3 x5_1 (y214 ++ y217) (wrap64 (x10_2 + 1)) t190 t191) else (none))) = some r := by first | (rw [hy214]; with_reducible exact H) | (have H2_ := (Option.bind_some _ _).symm.trans H; rw [hy214]; with_reducible exact H2_) | (have H2_ := (Option.bind_some _ _).symm.trans H; with_reducible exact H2_) | with_reducible exact H | (rw [hy214]; exact H) | exact H
           have Ny214 := mkA hy214
           clear hy214
           have c41b0 := eq_true (dt_ : 0 ≤ x12_3)
           have c42b0 := eq_true (dt_ : x12_3 ≤ (x9_2.length : Int))
           obtain ⟨y217, hy217⟩ : ∃ y_ : List (S105), y_ = (x9_2.drop (x12_3 : Int).toNat) := ⟨_, rfl⟩
           replace H : (if y214.length + y217.length < 8796093022208 then (spec_l19Turned.l1 k3 x5_1 (y214 ++ y217) (wrap64 (x10_2 + 1)) t190 t191) else (none)) = some r := by first | (rw [hy217]; with_reducible exact H) | (have H2_ := (Option.bind_some _ _).symm.trans H; rw [hy217]; with_reducible exact H2_) | (have H2_ := (Option.bind_some _ _).symm.trans H; with_reducible exact H2_) | with_reducible exact H | (rw [hy217]; exact H) | exact H
           have Ny217 := mkA hy217
           clear hy217
           by_cases c43 : y214.length + y217.length < 8796093022208
           rotate_left
           · rw [if_neg c43] at H
             exact absurd H (by simp)
           rw [if_pos c43] at H
           have LMc43 := mkA c43
           clear c43
           obtain ⟨y221, hy221⟩ : ∃ y_ : List (S105), y_ = (y214 ++ y217) := ⟨_, rfl⟩
           replace H : (spec_l19Turned.l1 k3 x5_1 y221 (wrap64 (x10_2 + 1)) t190 t191) = some r := by first | (rw [hy221]; with_reducible exact H) | (have H2_ := (Option.bind_some _ _).symm.trans H; rw [hy221]; with_reducible exact H2_) | (have H2_ := (Option.bind_some _ _).symm.trans H; with_reducible exact H2_) | with_reducible exact H | (rw [hy221]; exact H) | exact H
           have Ny221 := mkA hy221
           clear hy221
           have H' := mkA H
           clear H
           try go_wp2
           have n0_ := mkA (Kd.R_drew HO_5.out)
           have n1_ := mkA (Kd.R_drew HO_9.out)
           have n2_ := mkA (blk_drew BK194.out)
           have n3_ := mkA (blk_drew BK195.out)
           have n4_ := mkA (blk_drew BK201.out)
           have n5_ := mkA (below_drew1 HB.out)
           clear HO_5
           clear HO_9
           clear BK194
           clear BK195
           clear BK201
           clear HB
           have HO_5 := n0_
           have HO_9 := n1_
           have BK194 := n2_
           have BK195 := n3_
           have BK201 := n4_
           have HB := n5_
           clear n0_ n1_ n2_ n3_ n4_ n5_
           have p202 : 0 ≤ ((ji30) : Int) := dt_
           have q202 : (ji30) < (x9_2.length : Int) := dt_
           obtain ⟨ad202, e202, hx202_0, hx202_1⟩ := at_T105 (Kd.R_reads' HO_9.out).2.2 (ji30) p202 q202
           cases e202
           replace p202 := eq_true p202
           replace q202 := eq_true q202
           refine start_ (n := 11) (S := fun w' => w'.cell? ⟨gb201, 0, none⟩ = some (.int .i64 (wrap64 (((rd_T105 x5_1 x10_2).f0) - t190))) ∧ w'.cell? ⟨gb201, 1, none⟩ = some (.int .i64 (wrap64 (((rd_T105 x5_1 x10_2).f1) - t191))) ∧ w'.cell? (ad202.add (((ji30)).toNat * 2)) = some (.int .i64 ((rd_T105 x9_2 (ji30)).f0)) ∧ w'.cell? ⟨(ad202.add (((ji30)).toNat * 2)).block, (ad202.add (((ji30)).toNat * 2)).off + 1, none⟩ = some (.int .i64 ((rd_T105 x9_2 (ji30)).f1))) (ds := []) spec_l19Turned.d20 (by kernel_rfl) rfl rfl ⟨(blk_cell BK201.out 0).trans rfl, (blk_cell BK201.out 1).trans rfl, hx202_0, hx202_1⟩ (fun hHeld => ?_); refine with_tabW spec_l19Turned.tab13 spec_l19Turned.bits13 (fun HT_ HW_ => ?_)
           generalize wr.drew = w44 at HO_5 HO_9 BK194 BK195 BK201 HB hx202_0 hx202_1 hHeld ⊢
           refine p1_ HT_.out 0 67 spec_l19Turned.d21 ?_
           refine p1_ HT_.out 1 68 spec_l19Turned.d22 ?_
           refine p1_ HT_.out 2 69 spec_l19Turned.d23 ?_
           refine p1_ HT_.out 4 71 spec_l19Turned.d24 ?_
           refine p1_ HT_.out 5 72 spec_l19Turned.d25 ?_
           refine p1_ HT_.out 6 73 spec_l19Turned.d26 ?_
           refine p1_ HT_.out 7 74 spec_l19Turned.d27 ?_
           refine take_ (i := 3) (N := some 70) (v := ?_) (a' := ?_) spec_l19Turned.d28 rfl rfl (take_ofW HT_.out HW_.out (by kernel_rfl)) (fun _ _ _ h => h) (Or.inl ⟨by rfl, ?_⟩) hHeld ?_ ?_
           rotate_left
           · rintro w' ⟨s0, s1, s2, s3⟩
             go_simp
             with_reducible rfl
           rotate_left
           · simp only [Act.put, sA, sB, sC, i64_w, i32_w]
             rfl
           refine take_ (i := 8) (N := some 75) (v := ?_) (a' := ?_) spec_l19Turned.d29 rfl rfl (take_ofW HT_.out HW_.out (by kernel_rfl)) (fun _ _ _ h => h) (Or.inl ⟨by rfl, ?_⟩) hHeld ?_ ?_
           rotate_left
           · rintro w' ⟨s0, s1, s2, s3⟩
             go_simp
             with_reducible rfl
           rotate_left
           · simp only [Act.put, sA, sB, sC, i64_w, i32_w]
             rfl
           refine one_ (i := 9) (N := some 76) spec_l19Turned.d30 rfl rfl (one_of HT_.out (by kernel_rfl)) (by decide) (fun K hK => ?_)
           refine goes_ Try.func92 (by kernel_rfl) rfl #[.agg #[.int .i64 (wrap64 (((rd_T105 x5_1 x10_2).f0) - t190)), .int .i64 (wrap64 (((rd_T105 x5_1 x10_2).f1) - t191))], .agg #[.int .i64 ((rd_T105 x9_2 (ji30)).f0), .int .i64 ((rd_T105 x9_2 (ji30)).f1)]] (by rfl) rfl rfl (by (try simp only [List.map_toArray, List.map_cons, List.map_nil]); first | done | (simp only [hji30]; rfl) | rfl | (simp only [List.length_drop, List.length_take]; rfl)) ?_
           with_reducible refine (spec_l19Before.calls (wrap64 (((rd_T105 x5_1 x10_2).f0) - t190)) (wrap64 (((rd_T105 x5_1 x10_2).f1) - t191)) ((rd_T105 x9_2 (ji30)).f0) ((rd_T105 x9_2 (ji30)).f1) false _ A33.out).mono ?_
           rintro e w45 ⟨rfl, hb⟩
           have HS2_ := (hb.cell (World.block_lt_of_cell? _ _ (hHeld.2.2.1))).trans (hHeld.2.2.1)
           have HS3_ := (hb.cell (World.block_lt_of_cell? _ _ (hHeld.2.2.2))).trans (hHeld.2.2.2)
           refine ⟨_, rfl, ?_⟩
           have n0_ := mkA (Kd.R_below (by (with_reducible repeat (first | apply Kd.R_alloc | apply Kd.R_drewN | apply Kd.R_drew)); exact HO_5.out) hb)
           have n1_ := mkA (Kd.R_below (by (with_reducible repeat (first | apply Kd.R_alloc | apply Kd.R_drewN | apply Kd.R_drew)); exact HO_9.out) hb)
           have n2_ := mkA (blk_below (g := gb194) (o := .cells #[.int .i64 t190, .int .i64 t191] 105 (0, 0)) (bl_ BK194.out) hb)
           have n3_ := mkA (blk_below (g := gb195) (o := .cells #[.int .i64 t192, .int .i64 t193] 105 (0, 0)) (bl_ BK195.out) hb)
           have n4_ := mkA (blk_below (g := gb201) (o := .cells #[.int .i64 (wrap64 (((rd_T105 x5_1 x10_2).f0) - t190)), .int .i64 (wrap64 (((rd_T105 x5_1 x10_2).f1) - t191))] 105 (0, 0)) (bl_ BK201.out) hb)
           have n5_ := mkA (below_step (bs3_ HB.out GE194.out GE195.out GE201.out) hb)
           clear HO_5
           clear HO_9
           clear BK194
           clear BK195
           clear BK201
           clear HB
           have HO_5 := n0_
           have HO_9 := n1_
           have BK194 := n2_
           have BK195 := n3_
           have BK201 := n4_
           have HB := n5_
           clear n0_ n1_ n2_ n3_ n4_ n5_
           (try clear hb)
           (try clear hb2)
           (try clear hk)
           (try clear hi)
           refine hK.out _ _ ⟨(blk_cell BK201.out 0).trans rfl, (blk_cell BK201.out 1).trans rfl, HS2_, HS3_⟩ (fun hHeld => ?_)
           clear hK K
           refine norm_ (a' := ?_) ?_ ?_
           rotate_left
           · show Act.put _ (some 76) _ = _
             simp only [Act.put, sA, sB, sC, i64_w, i32_w]
             rfl
           refine p1_ HT_.out 10 77 spec_l19Turned.d31 ?_
           refine done_ (done_of HT_.out (by kernel_rfl)) ?_
           try go_wp2_with (first | ((with_reducible refine gate_dst (N := 80) rfl ?_); refine Kd.R_lit k105 _ 105 ?hg (N := 80) ?hd (xs := ([] : List (S105))) (inner := []) (ok := fun _ => True) (okp := fun _ => True) ?hr ?hp (fun _ hk => hk) trivial (Below.refl _ _) (Nat.le_refl _) (by simp) ?_; (case hd => rfl); (case hg => rfl); (case hr => first | (go_simp; done) | (go_simp; rfl)); (case hp => exact (Reps.none _ _)); intro v205 w46 ho47 hb hg_ hnew_; clear hg_ hnew_; (first | rw [← Ny204.out] at ho47 | (simp only [Int.reduceToNat] at ho47; rw [← Ny204.out] at ho47)); have n0_ := mkA (Kd.R_elder' (by (with_reducible repeat (first | apply Kd.R_alloc | apply Kd.R_drewN | apply Kd.R_drew)); exact HO_5.out) (Kd.R_base ho47) hb); have n1_ := mkA (Kd.R_elder' (by (with_reducible repeat (first | apply Kd.R_alloc | apply Kd.R_drewN | apply Kd.R_drew)); exact HO_9.out) (Kd.R_base ho47) hb); have n2_ := mkA (Kd.R_lower (Kd.R_newB (Kd.R_newB (Kd.R_newB (Kd.R_new' (Kd.R_new' ho47 (Kd.R_lt (by (with_reducible repeat (first | apply Kd.R_alloc | apply Kd.R_drewN | apply Kd.R_drew)); exact HO_5.out))) (Kd.R_lt (by (with_reducible repeat (first | apply Kd.R_alloc | apply Kd.R_drewN | apply Kd.R_drew)); exact HO_9.out))) (g := gb194) (o := .cells #[.int .i64 t190, .int .i64 t191] 105 (0, 0)) (bl_ BK194.out)) (g := gb195) (o := .cells #[.int .i64 t192, .int .i64 t193] 105 (0, 0)) (bl_ BK195.out)) (g := gb201) (o := .cells #[.int .i64 (wrap64 (((rd_T105 x5_1 x10_2).f0) - t190)), .int .i64 (wrap64 (((rd_T105 x5_1 x10_2).f1) - t191))] 105 (0, 0)) (bl_ BK201.out)) (below_size (bs3_ HB.out GE194.out GE195.out GE201.out))); have n3_ := mkA (blk_below (g := gb194) (o := .cells #[.int .i64 t190, .int .i64 t191] 105 (0, 0)) (bl_ BK194.out) hb); have n4_ := mkA (blk_below (g := gb195) (o := .cells #[.int .i64 t192, .int .i64 t193] 105 (0, 0)) (bl_ BK195.out) hb); have n5_ := mkA (blk_below (g := gb201) (o := .cells #[.int .i64 (wrap64 (((rd_T105 x5_1 x10_2).f0) - t190)), .int .i64 (wrap64 (((rd_T105 x5_1 x10_2).f1) - t191))] 105 (0, 0)) (bl_ BK201.out) hb); have n6_ := mkA (below_step (bs3_ HB.out GE194.out GE195.out GE201.out) hb); clear HO_5; clear HO_9; clear BK194; clear BK195; clear BK201; clear HB; have HO_5 := n0_; have HO_9 := n1_; have HO206 := n2_; have BK194 := n3_; have BK195 := n4_; have BK201 := n5_; have HB := n6_; clear n0_ n1_ n2_ n3_ n4_ n5_ n6_; clear hb ho47; have q48 : (x12_3 : Int) ≤ ((x9_2.length : Int) : Int) := dt_; obtain ⟨i048, hi048, _, hsz48, _⟩ := info_parts info105; have hroom48 : x9_2.length ≤ co28 := (Kd.R_reads' HO_9.out).2.1; have hC48 : Kd.C k105 _ (some ad202) x9_2.length x9_2 := (Kd.R_reads' HO_9.out).2.2; have hcut48 := cut_to (P := Try.prog) 51 105 .i64 Try.underlying51 hi048 (some ad202) x9_2.length co28 x12_3 (dt_) q48 hroom48; have hr48 := Kd.C_take (m := (x12_3 : Int).toNat) hC48 (by omega); have hy48 : y207.length = (x12_3 : Int).toNat := (by rw [Ny207.out, List.length_take]; omega); rw [← Ny207.out] at hr48; rw [← hy48] at hcut48; have HR210 := mkA hr48; have HC210 := mkA (show y207.length ≤ co28 from by omega); clear hr48 hC48 hroom48 hi048 hsz48; have KY48 := mkA hy48; clear hy48; have KL48 := mkA (show (x12_3 : Int).toNat ≤ x9_2.length from by omega); replace q48 := eq_true q48) | ((with_reducible refine gate_builtin (b := .append) (xs := #[.tmp 80, .tmp 83]) rfl ?_); at_builtin; refine Kd.R_append_rows k105 (w0 := w) w.heap.size rfl (.tmp 80) (.tmp 83) 51 105 (.agg #[(.int .i64 0), (.int .i64 0)]) 16 rfl Try.underlying51 info105 rfl (by decide) (by omega) v205 y204 y207 _ _ _ (fun k_ => some k_ ≠ (.slice (some ad199) x5_1.length co13 : Value).ownBlock ∧ some k_ ≠ (.slice (some ad202) x9_2.length co28 : Value).ownBlock ∧ k_ ≠ gb194 ∧ k_ ≠ gb195 ∧ k_ ≠ gb201) (fun _ => False) rfl rfl ?aO ?aR (fun _ _ h => h) (fun _ h => h.elim) ?aF ?aB ?aS ?aL ?_; (case aR => repeat (first | exact (by repeat (first | (with_reducible exact HR210.out) | (with_reducible refine Kd.C_alloc ?_ _) | (with_reducible refine Kd.C_drewN ?_ _) | (with_reducible refine Kd.C_drew ?_) | exact HR210.out)) | (with_reducible refine Kd.C_alloc ?_ _) | (with_reducible refine Kd.C_drewN ?_ _) | (with_reducible refine Kd.C_drew ?_))); (case aB => exact (bs3_ HB.out GE194.out GE195.out GE201.out)); (case aF => exact (fun k_ hk => ⟨Kd.fresh' (Kd.R_lt (by (with_reducible repeat (first | apply Kd.R_alloc | apply Kd.R_drewN | apply Kd.R_drew)); exact HO_5.out)) k_ hk, Kd.fresh' (Kd.R_lt (by (with_reducible repeat (first | apply Kd.R_alloc | apply Kd.R_drewN | apply Kd.R_drew)); exact HO_9.out)) k_ hk, Kd.freshB (g := gb194) (o := .cells #[.int .i64 t190, .int .i64 t191] 105 (0, 0)) (bl_ BK194.out) k_ hk, Kd.freshB (g := gb195) (o := .cells #[.int .i64 t192, .int .i64 t193] 105 (0, 0)) (bl_ BK195.out) k_ hk, Kd.freshB (g := gb201) (o := .cells #[.int .i64 (wrap64 (((rd_T105 x5_1 x10_2).f0) - t190)), .int .i64 (wrap64 (((rd_T105 x5_1 x10_2).f1) - t191))] 105 (0, 0)) (bl_ BK201.out) k_ hk⟩)); (case aO => exact (by (with_reducible repeat (first | apply Kd.R_alloc | apply Kd.R_drewN | apply Kd.R_drew)); exact Kd.R_mono HO206.out (fun _ hk => ⟨hk.1.1.1.1.2, ⟨hk.1.1.1.2, ⟨hk.1.1.2, ⟨hk.1.2, hk.2⟩⟩⟩⟩))); (case aS => exact (below_size (bs3_ HB.out GE194.out GE195.out GE201.out))); (case aL => have := LMc39.out; omega); intro v212 w49 ho hb hg hat; rw [← Ny211.out] at ho; have n0_ := mkA (Kd.R_after (ok := (fun k_ => some k_ ≠ (.slice (some ad202) x9_2.length co28 : Value).ownBlock ∧ k_ ≠ gb194 ∧ k_ ≠ gb195 ∧ k_ ≠ gb201)) (by (with_reducible repeat (first | apply Kd.R_alloc | apply Kd.R_drewN | apply Kd.R_drew)); exact HO_5.out) hg hat); have n1_ := mkA (Kd.R_after (ok := (fun k_ => some k_ ≠ (.slice (some ad199) x5_1.length co13 : Value).ownBlock ∧ k_ ≠ gb194 ∧ k_ ≠ gb195 ∧ k_ ≠ gb201)) (by (with_reducible repeat (first | apply Kd.R_alloc | apply Kd.R_drewN | apply Kd.R_drew)); exact HO_9.out) hg hat); have n2_ := mkA (blk_grown (g := gb194) (o := .cells #[.int .i64 t190, .int .i64 t191] 105 (0, 0)) (bl_ BK194.out) hg (Kd.R_away HO206.out (fun _ hk => hk.1.1.2))); have n3_ := mkA (blk_grown (g := gb195) (o := .cells #[.int .i64 t192, .int .i64 t193] 105 (0, 0)) (bl_ BK195.out) hg (Kd.R_away HO206.out (fun _ hk => hk.1.2))); have n4_ := mkA (blk_grown (g := gb201) (o := .cells #[.int .i64 (wrap64 (((rd_T105 x5_1 x10_2).f0) - t190)), .int .i64 (wrap64 (((rd_T105 x5_1 x10_2).f1) - t191))] 105 (0, 0)) (bl_ BK201.out) hg (Kd.R_away HO206.out (fun _ hk => hk.2))); have n5_ := mkA (hb); have n6_ := mkA ((show Kd.C k105 w49 (some ad202) y207.length y207 from by rw [Ny207.out]; exact Kd.C_take (m := (x12_3 : Int).toNat) ((Kd.R_reads' (Kd.R_after (ok := (fun k_ => some k_ ≠ (.slice (some ad199) x5_1.length co13 : Value).ownBlock ∧ k_ ≠ gb194 ∧ k_ ≠ gb195 ∧ k_ ≠ gb201)) (by (with_reducible repeat (first | apply Kd.R_alloc | apply Kd.R_drewN | apply Kd.R_drew)); exact HO_9.out) hg hat)).2.2) KL48.out)); have n7_ := mkA (ho); clear HO_5; clear HO_9; clear BK194; clear BK195; clear BK201; clear HB; clear HR210; clear HO206; have HO_5 := n0_; have HO_9 := n1_; have BK194 := n2_; have BK195 := n3_; have BK201 := n4_; have HB := n5_; have HR210 := n6_; have HO213 := n7_; clear n0_ n1_ n2_ n3_ n4_ n5_ n6_ n7_; clear ho hb hg hat; have hnb50 := NB201_194.out; have hnc50 := NB194_201.out; have hnb51 := NB201_195.out; have hnc51 := NB195_201.out; have hcz52_0 : w49.cell? ⟨gb201, 0, none⟩ = some (.int .i64 (wrap64 (((rd_T105 x5_1 x10_2).f0) - t190))) := (blk_cell BK201.out 0).trans rfl; have hcz52_1 : w49.cell? ⟨gb201, 1, none⟩ = some (.int .i64 (wrap64 (((rd_T105 x5_1 x10_2).f1) - t191))) := (blk_cell BK201.out 1).trans rfl; have hfz52_0 := blk_frozen BK201.out 0; have hfz52_1 := blk_frozen BK201.out 1) | ((with_reducible refine gate_builtin (b := .append) (xs := #[.tmp 85, .tmp 87]) rfl ?_); at_builtin; refine Kd.R_append k105 (w0 := w) w.heap.size rfl (.tmp 85) (.tmp 87) 51 105 (.agg #[(.int .i64 0), (.int .i64 0)]) 16 rfl Try.underlying51 info105 rfl (by decide) (by omega) v212 y211 (⟨(wrap64 (((rd_T105 x5_1 x10_2).f0) - t190)), (wrap64 (((rd_T105 x5_1 x10_2).f1) - t191))⟩ : S105) [.int .i64 (wrap64 (((rd_T105 x5_1 x10_2).f0) - t190)), .int .i64 (wrap64 (((rd_T105 x5_1 x10_2).f1) - t191))] (fun k_ => some k_ ≠ (.slice (some ad199) x5_1.length co13 : Value).ownBlock ∧ some k_ ≠ (.slice (some ad202) x9_2.length co28 : Value).ownBlock ∧ k_ ≠ gb194 ∧ k_ ≠ gb195 ∧ k_ ≠ gb201) (fun _ => False) rfl rfl ?aP (fun _ hk => hk.elim) ?aF ?aO ?aB ?aS ?aL ?_; (case aP => exact k105_mkM _ _ _ (⟨(wrap64 (((rd_T105 x5_1 x10_2).f0) - t190)), (wrap64 (((rd_T105 x5_1 x10_2).f1) - t191))⟩ : S105)); (case aB => exact (bs3_ HB.out GE194.out GE195.out GE201.out)); (case aF => exact (fun k_ hk => ⟨Kd.fresh' (Kd.R_lt (by (with_reducible repeat (first | apply Kd.R_alloc | apply Kd.R_drewN | apply Kd.R_drew)); exact HO_5.out)) k_ hk, Kd.fresh' (Kd.R_lt (by (with_reducible repeat (first | apply Kd.R_alloc | apply Kd.R_drewN | apply Kd.R_drew)); exact HO_9.out)) k_ hk, Kd.freshB (g := gb194) (o := .cells #[.int .i64 t190, .int .i64 t191] 105 (0, 0)) (bl_ BK194.out) k_ hk, Kd.freshB (g := gb195) (o := .cells #[.int .i64 t192, .int .i64 t193] 105 (0, 0)) (bl_ BK195.out) k_ hk, Kd.freshB (g := gb201) (o := .cells #[.int .i64 (wrap64 (((rd_T105 x5_1 x10_2).f0) - t190)), .int .i64 (wrap64 (((rd_T105 x5_1 x10_2).f1) - t191))] 105 (0, 0)) (bl_ BK201.out) k_ hk⟩)); (case aO => exact (by (with_reducible repeat (first | apply Kd.R_alloc | apply Kd.R_drewN | apply Kd.R_drew)); exact HO213.out)); (case aS => exact (below_size (bs3_ HB.out GE194.out GE195.out GE201.out))); (case aL => have := LMc40.out; omega); intro v215 w53 ho hb hg hat; rw [← Ny214.out] at ho; have n0_ := mkA (Kd.R_after (ok := (fun k_ => some k_ ≠ (.slice (some ad202) x9_2.length co28 : Value).ownBlock ∧ k_ ≠ gb194 ∧ k_ ≠ gb195 ∧ k_ ≠ gb201)) (by (with_reducible repeat (first | apply Kd.R_alloc | apply Kd.R_drewN | apply Kd.R_drew)); exact HO_5.out) hg hat); have n1_ := mkA (Kd.R_after (ok := (fun k_ => some k_ ≠ (.slice (some ad199) x5_1.length co13 : Value).ownBlock ∧ k_ ≠ gb194 ∧ k_ ≠ gb195 ∧ k_ ≠ gb201)) (by (with_reducible repeat (first | apply Kd.R_alloc | apply Kd.R_drewN | apply Kd.R_drew)); exact HO_9.out) hg hat); have n2_ := mkA (blk_grown (g := gb194) (o := .cells #[.int .i64 t190, .int .i64 t191] 105 (0, 0)) (bl_ BK194.out) hg (Kd.R_away HO213.out (fun _ hk => hk.2.2.1))); have n3_ := mkA (blk_grown (g := gb195) (o := .cells #[.int .i64 t192, .int .i64 t193] 105 (0, 0)) (bl_ BK195.out) hg (Kd.R_away HO213.out (fun _ hk => hk.2.2.2.1))); have n4_ := mkA (blk_grown (g := gb201) (o := .cells #[.int .i64 (wrap64 (((rd_T105 x5_1 x10_2).f0) - t190)), .int .i64 (wrap64 (((rd_T105 x5_1 x10_2).f1) - t191))] 105 (0, 0)) (bl_ BK201.out) hg (Kd.R_away HO213.out (fun _ hk => hk.2.2.2.2))); have n5_ := mkA (hb); have n6_ := mkA ((show Kd.C k105 w53 (some ad202) y207.length y207 from by rw [Ny207.out]; exact Kd.C_take (m := (x12_3 : Int).toNat) ((Kd.R_reads' (Kd.R_after (ok := (fun k_ => some k_ ≠ (.slice (some ad199) x5_1.length co13 : Value).ownBlock ∧ k_ ≠ gb194 ∧ k_ ≠ gb195 ∧ k_ ≠ gb201)) (by (with_reducible repeat (first | apply Kd.R_alloc | apply Kd.R_drewN | apply Kd.R_drew)); exact HO_9.out) hg hat)).2.2) KL48.out)); have n7_ := mkA (ho); clear HO_5; clear HO_9; clear BK194; clear BK195; clear BK201; clear HB; clear HR210; clear HO213; have HO_5 := n0_; have HO_9 := n1_; have BK194 := n2_; have BK195 := n3_; have BK201 := n4_; have HB := n5_; have HR210 := n6_; have HO216 := n7_; clear n0_ n1_ n2_ n3_ n4_ n5_ n6_ n7_; clear ho hb hg hat; have q54 : (x12_3 : Int) ≤ ((x9_2.length : Int) : Int) := dt_; obtain ⟨i054, hi054, _, hsz54, _⟩ := info_parts info105; have hroom54 : x9_2.length ≤ co28 := (Kd.R_reads' HO_9.out).2.1; have hC54 : Kd.C k105 _ (some ad202) x9_2.length x9_2 := (Kd.R_reads' HO_9.out).2.2; have q054 : (0 : Int) ≤ (x12_3 : Int) := dt_; have hcut54 := cut_from (P := Try.prog) 51 105 .i64 Try.underlying51 hi054 2 hsz54 (some ad202) x9_2.length co28 x12_3 q054 q54; have hr54 := Kd.C_drop (m := (x12_3 : Int).toNat) (c := co28) hC54 (by omega) hroom54; obtain ⟨A54, hA54⟩ : ∃ A1, A1 = (if co28 = (x12_3 : Int).toNat then (some ad202) else ((some ad202) : Option Addr).map (·.add ((x12_3 : Int).toNat * 2))) := ⟨_, rfl⟩; obtain ⟨c54, hc54⟩ : ∃ c1, c1 = co28 - (x12_3 : Int).toNat := ⟨_, rfl⟩; have hy54 : y217.length = x9_2.length - (x12_3 : Int).toNat := (by rw [Ny217.out, List.length_drop] <;> omega); rw [show (x9_2).drop (x12_3 : Int).toNat = y217 from Ny217.out.symm] at hr54; replace hr54 : Kd.C k105 _ A54 y217.length y217 := (by rw [hA54]; exact hr54); rw [← hy54, ← hA54, ← hc54] at hcut54; have HR220 := mkA hr54; have HC220 := mkA (show y217.length ≤ c54 from by rw [hy54, hc54]; exact Nat.sub_le_sub_right hroom54 _); clear hr54 hC54 hroom54 hi054 hsz54 hc54; have KY54 := mkA hy54; have KA54 := mkA hA54; clear hy54 hA54; have KL54 := mkA (show (x12_3 : Int).toNat ≤ x9_2.length from by omega); replace q54 := eq_true q54) | ((with_reducible refine gate_builtin (b := .append) (xs := #[.tmp 89, .tmp 92]) rfl ?_); at_builtin; refine Kd.R_append_rows k105 (w0 := w) w.heap.size rfl (.tmp 89) (.tmp 92) 51 105 (.agg #[(.int .i64 0), (.int .i64 0)]) 16 rfl Try.underlying51 info105 rfl (by decide) (by omega) v215 y214 y217 _ _ _ (fun k_ => some k_ ≠ (.slice (some ad199) x5_1.length co13 : Value).ownBlock ∧ some k_ ≠ (.slice (some ad202) x9_2.length co28 : Value).ownBlock ∧ k_ ≠ gb194 ∧ k_ ≠ gb195 ∧ k_ ≠ gb201) (fun _ => False) rfl rfl ?aO ?aR (fun _ _ h => h) (fun _ h => h.elim) ?aF ?aB ?aS ?aL ?_; (case aR => repeat (first | exact (by repeat (first | (with_reducible exact HR220.out) | (with_reducible refine Kd.C_alloc ?_ _) | (with_reducible refine Kd.C_drewN ?_ _) | (with_reducible refine Kd.C_drew ?_) | exact HR220.out)) | (with_reducible refine Kd.C_alloc ?_ _) | (with_reducible refine Kd.C_drewN ?_ _) | (with_reducible refine Kd.C_drew ?_))); (case aB => exact (bs3_ HB.out GE194.out GE195.out GE201.out)); (case aF => exact (fun k_ hk => ⟨Kd.fresh' (Kd.R_lt (by (with_reducible repeat (first | apply Kd.R_alloc | apply Kd.R_drewN | apply Kd.R_drew)); exact HO_5.out)) k_ hk, Kd.fresh' (Kd.R_lt (by (with_reducible repeat (first | apply Kd.R_alloc | apply Kd.R_drewN | apply Kd.R_drew)); exact HO_9.out)) k_ hk, Kd.freshB (g := gb194) (o := .cells #[.int .i64 t190, .int .i64 t191] 105 (0, 0)) (bl_ BK194.out) k_ hk, Kd.freshB (g := gb195) (o := .cells #[.int .i64 t192, .int .i64 t193] 105 (0, 0)) (bl_ BK195.out) k_ hk, Kd.freshB (g := gb201) (o := .cells #[.int .i64 (wrap64 (((rd_T105 x5_1 x10_2).f0) - t190)), .int .i64 (wrap64 (((rd_T105 x5_1 x10_2).f1) - t191))] 105 (0, 0)) (bl_ BK201.out) k_ hk⟩)); (case aO => exact (by (with_reducible repeat (first | apply Kd.R_alloc | apply Kd.R_drewN | apply Kd.R_drew)); exact HO216.out)); (case aS => exact (below_size (bs3_ HB.out GE194.out GE195.out GE201.out))); (case aL => have := LMc43.out; omega); intro v222 w55 ho hb hg hat; rw [← Ny221.out] at ho; have n0_ := mkA (Kd.R_after (ok := (fun k_ => some k_ ≠ (.slice (some ad202) x9_2.length co28 : Value).ownBlock ∧ k_ ≠ gb194 ∧ k_ ≠ gb195 ∧ k_ ≠ gb201)) (by (with_reducible repeat (first | apply Kd.R_alloc | apply Kd.R_drewN | apply Kd.R_drew)); exact HO_5.out) hg hat); have n1_ := mkA (Kd.R_after (ok := (fun k_ => some k_ ≠ (.slice (some ad199) x5_1.length co13 : Value).ownBlock ∧ k_ ≠ gb194 ∧ k_ ≠ gb195 ∧ k_ ≠ gb201)) (by (with_reducible repeat (first | apply Kd.R_alloc | apply Kd.R_drewN | apply Kd.R_drew)); exact HO_9.out) hg hat); have n2_ := mkA (blk_grown (g := gb194) (o := .cells #[.int .i64 t190, .int .i64 t191] 105 (0, 0)) (bl_ BK194.out) hg (Kd.R_away HO216.out (fun _ hk => hk.2.2.1))); have n3_ := mkA (blk_grown (g := gb195) (o := .cells #[.int .i64 t192, .int .i64 t193] 105 (0, 0)) (bl_ BK195.out) hg (Kd.R_away HO216.out (fun _ hk => hk.2.2.2.1))); have n4_ := mkA (blk_grown (g := gb201) (o := .cells #[.int .i64 (wrap64 (((rd_T105 x5_1 x10_2).f0) - t190)), .int .i64 (wrap64 (((rd_T105 x5_1 x10_2).f1) - t191))] 105 (0, 0)) (bl_ BK201.out) hg (Kd.R_away HO216.out (fun _ hk => hk.2.2.2.2))); have n5_ := mkA (hb); have n6_ := mkA ((show Kd.C k105 w55 (some ad202) y207.length y207 from by rw [Ny207.out]; exact Kd.C_take (m := (x12_3 : Int).toNat) ((Kd.R_reads' (Kd.R_after (ok := (fun k_ => some k_ ≠ (.slice (some ad199) x5_1.length co13 : Value).ownBlock ∧ k_ ≠ gb194 ∧ k_ ≠ gb195 ∧ k_ ≠ gb201)) (by (with_reducible repeat (first | apply Kd.R_alloc | apply Kd.R_drewN | apply Kd.R_drew)); exact HO_9.out) hg hat)).2.2) KL48.out)); have n7_ := mkA ((show Kd.C k105 w55 A54 y217.length y217 from by rw [Ny217.out, KA54.out]; exact Kd.C_drop (m := (x12_3 : Int).toNat) (c := co28) ((Kd.R_reads' (Kd.R_after (ok := (fun k_ => some k_ ≠ (.slice (some ad199) x5_1.length co13 : Value).ownBlock ∧ k_ ≠ gb194 ∧ k_ ≠ gb195 ∧ k_ ≠ gb201)) (by (with_reducible repeat (first | apply Kd.R_alloc | apply Kd.R_drewN | apply Kd.R_drew)); exact HO_9.out) hg hat)).2.2) KL54.out ((Kd.R_reads' (Kd.R_after (ok := (fun k_ => some k_ ≠ (.slice (some ad199) x5_1.length co13 : Value).ownBlock ∧ k_ ≠ gb194 ∧ k_ ≠ gb195 ∧ k_ ≠ gb201)) (by (with_reducible repeat (first | apply Kd.R_alloc | apply Kd.R_drewN | apply Kd.R_drew)); exact HO_9.out) hg hat)).2.1))); have n8_ := mkA (ho); clear HO_5; clear HO_9; clear BK194; clear BK195; clear BK201; clear HB; clear HR210; clear HR220; clear HO216; have HO_5 := n0_; have HO_9 := n1_; have BK194 := n2_; have BK195 := n3_; have BK201 := n4_; have HB := n5_; have HR210 := n6_; have HR220 := n7_; have HO223 := n8_; clear n0_ n1_ n2_ n3_ n4_ n5_ n6_ n7_ n8_; clear ho hb hg hat))
           go_roundg k3
           case measure => have := HK1.out; have := HK2.out; have := HK3.out; omega
           case rel => exact ⟨(y221), (wrap64 (x10_2 + 1)), (by first | rfl | (simp; done) | (simp [*]; done) | (simp [i64_w, i32_w]; done)), H', ⟨by have := HK1.out; have := HK2.out; have := HK3.out; omega⟩, ⟨by (with_reducible repeat (first | apply Kd.R_alloc | apply Kd.R_drewN | apply Kd.R_drew)); exact Kd.R_mono HO_5.out (fun _ hk => ⟨hk.2, ⟨hk.1.2.1, hk.1.2.2.1⟩⟩)⟩, ⟨by (with_reducible repeat (first | apply Kd.R_alloc | apply Kd.R_drewN | apply Kd.R_drew)); exact Kd.R_mono HO223.out (fun _ hk => ⟨hk.1, ⟨hk.2.2.1, hk.2.2.2.1⟩⟩)⟩, ⟨by (with_reducible repeat (first | refine blk_drewN ?_ _ | refine blk_drew ?_ | refine blk_alloc ?_ _)); exact BK194.out⟩, ⟨by (with_reducible repeat (first | refine blk_drewN ?_ _ | refine blk_drew ?_ | refine blk_alloc ?_ _)); exact BK195.out⟩, ⟨by repeat (first | (with_reducible first | exact HB.out | apply below_alloc | apply pw_below_drewN | apply below_drew1 | refine below_set ?_ GE194.out | refine below_set ?_ GE195.out | refine below_set ?_ GE201.out) | exact HB.out)⟩⟩
end Go.Proofs.Ytakagkflgkoiiaa.GFnExactLaidCells

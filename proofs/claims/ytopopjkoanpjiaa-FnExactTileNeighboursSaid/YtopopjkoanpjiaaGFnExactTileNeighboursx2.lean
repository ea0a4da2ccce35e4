-- Written by the session's own program (gen.py) out of the translation's print. Lean checks it.
import Derived.Test.YtopopjkoanpjiaaGFnExactTileNeighboursx0
import Derived.Test.YtopopjkoanpjiaaGFnExactTileNeighboursx1
namespace Go.Proofs.Ytopopjkoanpjiaa.GFnExactTileNeighbours
open Go.RowKit Go.Proofs.YtopopjkoanpjiaaW.PrintWords Go.Proofs.YtopopjkoanpjiaaW.PrintLast Go.Proofs.YtopopjkoanpjiaaW.PrintMore
attribute [local go_sem] max2_int min2_int max_two min_two max_three min_three max_four min_four   -- for this text's walks alone
set_option linter.unusedVariables false
set_option linter.unusedSimpArgs false

/-! ### spec_l17Joined: function 23 -/
mutual
def spec_l17Joined.l0 : Nat → Int → Int → Int → Int → List (S28) → Option (Bool)
  | 0, _, _, _, _, _ => none
  | k + 1, x1, x5, x6, x7, x960 => if 0 < (x960.length : Int) then (if x7 < (((rd_T28 x960 0).f2).length : Int) then (if 0 ≤ x7 then (if (rd ((rd_T28 x960 0).f2) x7) = x1 then (if x5 < 0 then (spec_l17Joined.l0 k x1 x7 (wrap64 (x6 + 1)) (wrap64 (x7 + 1)) x960) else (spec_l17Joined.l0 k x1 x5 (wrap64 (x6 + 1)) (wrap64 (x7 + 1)) x960)) else (spec_l17Joined.l0 k x1 x5 x6 (wrap64 (x7 + 1)) x960)) else (none)) else (spec_l17Joined.l1 k x1 x6 (([x5] : List Int)) 0 x960)) else (none)
def spec_l17Joined.l1 : Nat → Int → Int → List Int → Int → List (S28) → Option (Bool)
  | 0, _, _, _, _, _ => none
  | k + 1, x1, x6, x8, x9, x960 => if x9 < (x8.length : Int) then (if 0 ≤ x9 then ((spec_l17Around.f x960 (rd x8 x9)).bind fun t136 => (spec_l17Joined.l2 k x1 x6 x8 x9 t136 0 x960)) else (none)) else (some ((x8.length : Int) == x6))
def spec_l17Joined.l2 : Nat → Int → Int → List Int → Int → List Int → Int → List (S28) → Option (Bool)
  | 0, _, _, _, _, _, _, _ => none
  | k + 1, x1, x6, x8, x9, x10, x11, x960 => if x11 < (x10.length : Int) then (if 0 < (x960.length : Int) then (if 0 ≤ x11 then (if 0 ≤ (rd x10 x11) then (if (rd x10 x11) < (((rd_T28 x960 0).f2).length : Int) then (if (rd ((rd_T28 x960 0).f2) (rd x10 x11)) = x1 then ((spec_l00Has.f k x8 (rd x10 x11)).bind fun t143 => (if t143 = true then (spec_l17Joined.l2 k x1 x6 x8 x9 x10 (wrap64 (x11 + 1)) x960) else (if x8.length < 17592186044416 then (spec_l17Joined.l2 k x1 x6 (x8 ++ [rd x10 x11]) x9 x10 (wrap64 (x11 + 1)) x960) else (none)))) else (spec_l17Joined.l2 k x1 x6 x8 x9 x10 (wrap64 (x11 + 1)) x960)) else (none)) else (none)) else (none)) else (none)) else (spec_l17Joined.l1 k x1 x6 x8 (wrap64 (x9 + 1)) x960)
end
def spec_l17Joined.f (k : Nat) (l0 : List (S28)) (a1 : Int) : Option (Bool) := spec_l17Joined.l0 k a1 (-1) 0 0 l0
theorem spec_l17Joined.mono_l : ∀ k, (∀ y0 y1 y2 y3 y4, LeO (spec_l17Joined.l0 k y0 y1 y2 y3 y4) (spec_l17Joined.l0 (k + 1) y0 y1 y2 y3 y4)) ∧ (∀ y0 y1 y2 y3 y4, LeO (spec_l17Joined.l1 k y0 y1 y2 y3 y4) (spec_l17Joined.l1 (k + 1) y0 y1 y2 y3 y4)) ∧ (∀ y0 y1 y2 y3 y4 y5 y6, LeO (spec_l17Joined.l2 k y0 y1 y2 y3 y4 y5 y6) (spec_l17Joined.l2 (k + 1) y0 y1 y2 y3 y4 y5 y6))
  | 0 => ⟨fun _ _ _ _ _ r h => by simp [spec_l17Joined.l0] at h, fun _ _ _ _ _ r h => by simp [spec_l17Joined.l1] at h, fun _ _ _ _ _ _ _ r h => by simp [spec_l17Joined.l2] at h⟩
  | k + 1 => by
    obtain ⟨ih0, ih1, ih2⟩ := spec_l17Joined.mono_l k
    refine ⟨?_, ?_, ?_⟩
    · intro y0 y1 y2 y3 y4
      unfold spec_l17Joined.l0
      repeat' first
      | (with_reducible exact ih0 _ _ _ _ _)
      | (with_reducible exact ih1 _ _ _ _ _)
      | (with_reducible exact ih2 _ _ _ _ _ _ _)
      | (with_reducible exact spec_l00Has.mono _ _ _)
      | (with_reducible exact LeO.refl _)
      | (with_reducible exact LeO.none _)
      | (with_reducible refine LeO.ite ?_ ?_)
      | (with_reducible refine LeO.bind ?_ (fun _ => ?_))
      | exact ih0 _ _ _ _ _
      | exact ih1 _ _ _ _ _
      | exact ih2 _ _ _ _ _ _ _
      | exact spec_l00Has.mono _ _ _
      | exact LeO.none _
      | refine LeO.ite ?_ ?_
      | refine LeO.bind ?_ (fun _ => ?_)
    · intro y0 y1 y2 y3 y4
      unfold spec_l17Joined.l1
      repeat' first
      | (with_reducible exact ih0 _ _ _ _ _)
      | (with_reducible exact ih1 _ _ _ _ _)
      | (with_reducible exact ih2 _ _ _ _ _ _ _)
      | (with_reducible exact spec_l00Has.mono _ _ _)
      | (with_reducible exact LeO.refl _)
      | (with_reducible exact LeO.none _)
      | (with_reducible refine LeO.ite ?_ ?_)
      | (with_reducible refine LeO.bind ?_ (fun _ => ?_))
      | exact ih0 _ _ _ _ _
      | exact ih1 _ _ _ _ _
      | exact ih2 _ _ _ _ _ _ _
      | exact spec_l00Has.mono _ _ _
      | exact LeO.none _
      | refine LeO.ite ?_ ?_
      | refine LeO.bind ?_ (fun _ => ?_)
    · intro y0 y1 y2 y3 y4 y5 y6
      unfold spec_l17Joined.l2
      repeat' first
      | (with_reducible exact ih0 _ _ _ _ _)
      | (with_reducible exact ih1 _ _ _ _ _)
      | (with_reducible exact ih2 _ _ _ _ _ _ _)
      | (with_reducible exact spec_l00Has.mono _ _ _)
      | (with_reducible exact LeO.refl _)
      | (with_reducible exact LeO.none _)
      | (with_reducible refine LeO.ite ?_ ?_)
      | (with_reducible refine LeO.bind ?_ (fun _ => ?_))
      | exact ih0 _ _ _ _ _
      | exact ih1 _ _ _ _ _
      | exact ih2 _ _ _ _ _ _ _
      | exact spec_l00Has.mono _ _ _
      | exact LeO.none _
      | refine LeO.ite ?_ ?_
      | refine LeO.bind ?_ (fun _ => ?_)
theorem spec_l17Joined.mono : ∀ a0 a1 k, LeO (spec_l17Joined.f k a0 a1) (spec_l17Joined.f (k + 1) a0 a1) := by
  intro a0 a1 k
  obtain ⟨ih0, ih1, ih2⟩ := spec_l17Joined.mono_l k
  unfold spec_l17Joined.f
  repeat' first
      | (with_reducible exact ih0 _ _ _ _ _)
      | (with_reducible exact ih1 _ _ _ _ _)
      | (with_reducible exact ih2 _ _ _ _ _ _ _)
      | (with_reducible exact spec_l00Has.mono _ _ _)
      | (with_reducible exact LeO.refl _)
      | (with_reducible exact LeO.none _)
      | (with_reducible refine LeO.ite ?_ ?_)
      | (with_reducible refine LeO.bind ?_ (fun _ => ?_))
      | exact ih0 _ _ _ _ _
      | exact ih1 _ _ _ _ _
      | exact ih2 _ _ _ _ _ _ _
      | exact spec_l00Has.mono _ _ _
      | exact LeO.none _
      | refine LeO.ite ?_ ?_
      | refine LeO.bind ?_ (fun _ => ?_)
open List renaming setIfInBounds_toArray → sA, set_cons_zero → sB, set_cons_succ → sC
open Go.Proofs.YtopopjkoanpjiaaW.PrintWords.Aside0 renaming mk → mkA
open Go.Proofs.YtopopjkoanpjiaaX (dt_ bc_ p0_ p1_ bl_ cb_ bs0_ bs1_ bs2_ bs3_ bs4_ bs5_ bs6_ bs7_ bs8_ bs9_ bs10_ bs11_ bs12_)
set_option maxHeartbeats 8000000 in
set_option maxRecDepth 100000 in
theorem spec_l17Joined.calls (k : Nat) (A0 : Option Addr) (l0 : List (S28)) (a1 : Int) (r : Bool) (w : World) (hr0 : Kd.C k28 w A0 l0.length l0) (h : spec_l17Joined.f k l0 a1 = some r) :
 Calls Try.prog 23 #[.pointer A0, .int .i64 a1] w fun e w' => e = .returned (.bool r) ∧ Below w.heap.size w w' := by
 have HR0 := mkA hr0
 clear hr0
 have HB := mkA (Below.refl w.heap.size w)
 have H : (spec_l17Joined.l0 k a1 (-1) 0 0 l0) = some r := h
 clear h
 have H' := mkA H
 clear H
 go_enter Try.func23, Try.ntmps23
 go_wp2
 repeat (go_quiet (fail); try go_wp2)
 go_loopg [5, 6, 7] k (fun kq v5 v6 v7 w' => ∃ (x5_1 : Int) (x6_1 : Int) (x7_1 : Int), v5 = .int .i64 x5_1 ∧ v6 = .int .i64 x6_1 ∧ v7 = .int .i64 x7_1 ∧ Aside0 (spec_l17Joined.l0 kq a1 x5_1 x6_1 x7_1 l0 = some r) ∧ Aside0 (kq ≤ k) ∧ Aside0 (Below w.heap.size w w'))
 case atStart => exact ⟨((-1)), (0), (0), (by first | rfl | (simp; done) | (simp [*]; done) | (simp [i64_w, i32_w]; done)), (by first | rfl | (simp; done) | (simp [*]; done) | (simp [i64_w, i32_w]; done)), (by first | rfl | (simp; done) | (simp [*]; done) | (simp [i64_w, i32_w]; done)), H', ⟨Nat.le_refl _⟩, ⟨by repeat (first | (with_reducible first | exact HB.out | apply below_alloc | apply pw_below_drewN | apply below_drew1) | exact HB.out)⟩⟩
 case round =>
  clear H'
  try clear c2
  try clear p2
  obtain ⟨x5_1, x6_1, x7_1, rfl, rfl, rfl, HA, HK1, HB⟩ := hrel
  cases gk with
  | zero => exact absurd HA.out (by simp [spec_l17Joined.l0])
  | succ k1 =>
   have H := HA.out
   clear HA
   simp only [spec_l17Joined.l0] at H
   by_cases c3 : 0 < (l0.length : Int)
   rotate_left
   · rw [if_neg c3] at H
     exact absurd H (by simp)

   rw [if_pos c3] at H
   have c3b0 : decide (0 < (l0.length : Int)) = true := decide_eq_true c3
   have c3b1 : decide (0 < l0.length) = true := decide_eq_true (by omega)
   clear c3
   by_cases c4 : x7_1 < (((rd_T28 l0 0).f2).length : Int)
   · rw [if_pos c4] at H
     have c4b0 : decide (x7_1 < (((rd_T28 l0 0).f2).length : Int)) = true := decide_eq_true c4
     clear c4
     by_cases c5 : 0 ≤ x7_1
     rotate_left
     · rw [if_neg c5] at H
       exact absurd H (by simp)
     rw [if_pos c5] at H
     have c5b0 : decide (0 ≤ x7_1) = true := decide_eq_true c5
     clear c5
     by_cases c6 : (rd ((rd_T28 l0 0).f2) x7_1) = a1
     rotate_left
     · rw [if_neg c6] at H
       have c6b0 : ((rd ((rd_T28 l0 0).f2) x7_1) == a1) = false := beq_eq_false_iff_ne.mpr c6
       have c6b1 : ((rd ((rd_T28 l0 0).f2) x7_1) != a1) = true := bne_iff_ne.mpr c6
       have H' := mkA H
       clear H
       have p129 : 0 ≤ (0 : Int) := (by omega)
       have q129 : 0 < (l0.length : Int) := dt_
       obtain ⟨ad129, A129_2, c129_2, e129, hx129_0, hx129_1, hx129_2, hl129_2, hi129_2⟩ := at0_T28 HR0.out q129
       cases e129
       have qi129 : (0 < l0.length) = True := eq_true (by omega)
       replace hx129_0 := bc_ HB.out hx129_0
       replace hx129_1 := bc_ HB.out hx129_1
       replace hx129_2 := bc_ HB.out hx129_2
       have HR129_2 := mkA hi129_2
       have HC129_2 := mkA hl129_2
       clear hi129_2 hl129_2
       replace p129 := eq_true p129
       replace q129 := eq_true q129
       have p130 : 0 ≤ (0 : Int) := (by omega)
       have q130 : 0 < (l0.length : Int) := dt_
       obtain ⟨ad130, A130_2, c130_2, e130, hx130_0, hx130_1, hx130_2, hl130_2, hi130_2⟩ := at0_T28 HR0.out q130
       obtain rfl : ad129 = ad130 := (by injection e130)
       have qi130 : (0 < l0.length) = True := eq_true (by omega)
       replace hx130_0 := bc_ HB.out hx130_0
       replace hx130_1 := bc_ HB.out hx130_1
       replace hx130_2 := bc_ HB.out hx130_2
       have HR130_2 := mkA hi130_2
       have HC130_2 := mkA hl130_2
       clear hi130_2 hl130_2
       replace p130 := eq_true p130
       replace q130 := eq_true q130
       have ea_ := Option.some.inj (hx129_2.symm.trans hx130_2)
       injection ea_ with ea_ en_ ec_
       subst ea_
       subst ec_
       clear en_
       have p131 : 0 ≤ (x7_1 : Int) := dt_
       have q131 : x7_1 < (((rd_T28 l0 0).f2).length : Int) := dt_
       obtain ⟨ad131, e131, hx131_0⟩ := Kd.at_int HR130_2.out x7_1 p131 q131
       cases e131
       replace hx131_0 := bc_ HB.out hx131_0
       replace p131 := eq_true p131
       replace q131 := eq_true q131
       go_wp2
       repeat (go_quiet (fail); try go_wp2)
       go_roundg k1
       case measure => have := HK1.out; omega
       case rel => exact ⟨(x5_1), (x6_1), (wrap64 (x7_1 + 1)), (by first | rfl | (simp; done) | (simp [*]; done) | (simp [i64_w, i32_w]; done)), (by first | rfl | (simp; done) | (simp [*]; done) | (simp [i64_w, i32_w]; done)), (by first | rfl | (simp; done) | (simp [*]; done) | (simp [i64_w, i32_w]; done)), H', ⟨by have := HK1.out; omega⟩, ⟨by repeat (first | (with_reducible first | exact HB.out | apply below_alloc | apply pw_below_drewN | apply below_drew1) | exact HB.out)⟩⟩
     rw [if_pos c6] at H
     have c6b0 : ((rd ((rd_T28 l0 0).f2) x7_1) == a1) = true := beq_iff_eq.mpr c6
     have c6b1 : ((rd ((rd_T28 l0 0).f2) x7_1) != a1) = false := bne_eq_false_iff_eq.mpr c6
     clear c6
     by_cases c7 : x5_1 < 0
     · rw [if_pos c7] at H
       have c7b0 : decide (x5_1 < 0) = true := decide_eq_true c7
       clear c7
       have H' := mkA H
       clear H
       have p129 : 0 ≤ (0 : Int) := (by omega)
       have q129 : 0 < (l0.length : Int) := dt_
       obtain ⟨ad129, A129_2, c129_2, e129, hx129_0, hx129_1, hx129_2, hl129_2, hi129_2⟩ := at0_T28 HR0.out q129
       cases e129
       have qi129 : (0 < l0.length) = True := eq_true (by omega)
       replace hx129_0 := bc_ HB.out hx129_0
       replace hx129_1 := bc_ HB.out hx129_1
       replace hx129_2 := bc_ HB.out hx129_2
       have HR129_2 := mkA hi129_2
       have HC129_2 := mkA hl129_2
       clear hi129_2 hl129_2
       replace p129 := eq_true p129
       replace q129 := eq_true q129
       have p130 : 0 ≤ (0 : Int) := (by omega)
       have q130 : 0 < (l0.length : Int) := dt_
       obtain ⟨ad130, A130_2, c130_2, e130, hx130_0, hx130_1, hx130_2, hl130_2, hi130_2⟩ := at0_T28 HR0.out q130
       obtain rfl : ad129 = ad130 := (by injection e130)
       have qi130 : (0 < l0.length) = True := eq_true (by omega)
       replace hx130_0 := bc_ HB.out hx130_0
       replace hx130_1 := bc_ HB.out hx130_1
       replace hx130_2 := bc_ HB.out hx130_2
       have HR130_2 := mkA hi130_2
       have HC130_2 := mkA hl130_2
       clear hi130_2 hl130_2
       replace p130 := eq_true p130
       replace q130 := eq_true q130
       have ea_ := Option.some.inj (hx129_2.symm.trans hx130_2)
       injection ea_ with ea_ en_ ec_
       subst ea_
       subst ec_
       clear en_
       have p131 : 0 ≤ (x7_1 : Int) := dt_
       have q131 : x7_1 < (((rd_T28 l0 0).f2).length : Int) := dt_
       obtain ⟨ad131, e131, hx131_0⟩ := Kd.at_int HR130_2.out x7_1 p131 q131
       cases e131
       replace hx131_0 := bc_ HB.out hx131_0
       replace p131 := eq_true p131
       replace q131 := eq_true q131
       go_wp2
       repeat (go_quiet (fail); try go_wp2)
       go_roundg k1
       case measure => have := HK1.out; omega
       case rel => exact ⟨(x7_1), (wrap64 (x6_1 + 1)), (wrap64 (x7_1 + 1)), (by first | rfl | (simp; done) | (simp [*]; done) | (simp [i64_w, i32_w]; done)), (by first | rfl | (simp; done) | (simp [*]; done) | (simp [i64_w, i32_w]; done)), (by first | rfl | (simp; done) | (simp [*]; done) | (simp [i64_w, i32_w]; done)), H', ⟨by have := HK1.out; omega⟩, ⟨by repeat (first | (with_reducible first | exact HB.out | apply below_alloc | apply pw_below_drewN | apply below_drew1) | exact HB.out)⟩⟩
     · rw [if_neg c7] at H
       have c7b0 : decide (x5_1 < 0) = false := decide_eq_false c7
       clear c7
       have H' := mkA H
       clear H
       have p129 : 0 ≤ (0 : Int) := (by omega)
       have q129 : 0 < (l0.length : Int) := dt_
       obtain ⟨ad129, A129_2, c129_2, e129, hx129_0, hx129_1, hx129_2, hl129_2, hi129_2⟩ := at0_T28 HR0.out q129
       cases e129
       have qi129 : (0 < l0.length) = True := eq_true (by omega)
       replace hx129_0 := bc_ HB.out hx129_0
       replace hx129_1 := bc_ HB.out hx129_1
       replace hx129_2 := bc_ HB.out hx129_2
       have HR129_2 := mkA hi129_2
       have HC129_2 := mkA hl129_2
       clear hi129_2 hl129_2
       replace p129 := eq_true p129
       replace q129 := eq_true q129
       have p130 : 0 ≤ (0 : Int) := (by omega)
       have q130 : 0 < (l0.length : Int) := dt_
       obtain ⟨ad130, A130_2, c130_2, e130, hx130_0, hx130_1, hx130_2, hl130_2, hi130_2⟩ := at0_T28 HR0.out q130
       obtain rfl : ad129 = ad130 := (by injection e130)
       have qi130 : (0 < l0.length) = True := eq_true (by omega)
       replace hx130_0 := bc_ HB.out hx130_0
       replace hx130_1 := bc_ HB.out hx130_1
       replace hx130_2 := bc_ HB.out hx130_2
       have HR130_2 := mkA hi130_2
       have HC130_2 := mkA hl130_2
       clear hi130_2 hl130_2
       replace p130 := eq_true p130
       replace q130 := eq_true q130
       have ea_ := Option.some.inj (hx129_2.symm.trans hx130_2)
       injection ea_ with ea_ en_ ec_
       subst ea_
       subst ec_
       clear en_
       have p131 : 0 ≤ (x7_1 : Int) := dt_
       have q131 : x7_1 < (((rd_T28 l0 0).f2).length : Int) := dt_
       obtain ⟨ad131, e131, hx131_0⟩ := Kd.at_int HR130_2.out x7_1 p131 q131
       cases e131
       replace hx131_0 := bc_ HB.out hx131_0
       replace p131 := eq_true p131
       replace q131 := eq_true q131
       go_wp2
       repeat (go_quiet (fail); try go_wp2)
       go_roundg k1
       case measure => have := HK1.out; omega
       case rel => exact ⟨(x5_1), (wrap64 (x6_1 + 1)), (wrap64 (x7_1 + 1)), (by first | rfl | (simp; done) | (simp [*]; done) | (simp [i64_w, i32_w]; done)), (by first | rfl | (simp; done) | (simp [*]; done) | (simp [i64_w, i32_w]; done)), (by first | rfl | (simp; done) | (simp [*]; done) | (simp [i64_w, i32_w]; done)), H', ⟨by have := HK1.out; omega⟩, ⟨by repeat (first | (with_reducible first | exact HB.out | apply below_alloc | apply pw_below_drewN | apply below_drew1) | exact HB.out)⟩⟩
   · rw [if_neg c4] at H
     have c4b0 : decide (x7_1 < (((rd_T28 l0 0).f2).length : Int)) = false := decide_eq_false c4
     clear c4
     obtain ⟨y132, hy132⟩ : ∃ y_ : List Int, y_ = (([x5_1] : List Int)) := ⟨_, rfl⟩
     replace H : (spec_l17Joined.l1 k1 a1 x6_1 y132 0 l0) = some r := by first | (rw [hy132]; with_reducible exact H) | (have H2_ := (Option.bind_some _ _).symm.trans H; rw [hy132]; with_reducible exact H2_) | (have H2_ := (Option.bind_some _ _).symm.trans H; with_reducible exact H2_) | with_reducible exact H | (rw [hy132]; exact H) | exact H
     have Ny132 := mkA hy132
     clear hy132
     have H' := mkA H
     clear H
     have p129 : 0 ≤ (0 : Int) := (by omega)
     have q129 : 0 < (l0.length : Int) := dt_
     obtain ⟨ad129, A129_2, c129_2, e129, hx129_0, hx129_1, hx129_2, hl129_2, hi129_2⟩ := at0_T28 HR0.out q129
     cases e129
     have qi129 : (0 < l0.length) = True := eq_true (by omega)
     replace hx129_0 := bc_ HB.out hx129_0
     replace hx129_1 := bc_ HB.out hx129_1
     replace hx129_2 := bc_ HB.out hx129_2
     have HR129_2 := mkA hi129_2
     have HC129_2 := mkA hl129_2
     clear hi129_2 hl129_2
     replace p129 := eq_true p129
     replace q129 := eq_true q129
     have gt_ := trivial; repeat (clear gt_; try go_wp2_with (first | ((with_reducible refine gate_dst (N := 36) rfl ?_); refine Kd.R_lit (Kd.int .i64) _ 2 ?hg (N := 36) ?hd (xs := ([x5_1] : List Int)) (inner := [.int .i64 x5_1]) (ok := fun _ => True) (okp := fun _ => True) ?hr ?hp (fun _ hk => hk) trivial (Below.refl _ _) (Nat.le_refl _) (by simp) ?_; (case hd => rfl); (case hg => rfl); (case hr => first | (go_simp; done) | (go_simp; rfl)); (case hp => exact (Reps.one (show Kd.M (Kd.int .i64) _ _ _ x5_1 [.int .i64 x5_1] from rfl) (Reps.none _ _))); intro v133 w8 ho9 hb hg_ hnew_; clear hg_ hnew_; (first | rw [← Ny132.out] at ho9 | (simp only [Int.reduceToNat] at ho9; rw [← Ny132.out] at ho9)); have n0_ := mkA (Kd.R_lower ho9 (below_size (bs0_ HB.out))); have n1_ := mkA (below_step (bs0_ HB.out) hb); clear HB; have HO134 := n0_; have HB := n1_; clear n0_ n1_; clear hb ho9)); try (go_quiet (fail); have gt_ := trivial))
     go_loopg [8, 9] k1 (fun kq v8 v9 w' => ∃ (x8_2 : List Int) (x9_2 : Int), v9 = .int .i64 x9_2 ∧ Aside0 (spec_l17Joined.l1 kq a1 x6_1 x8_2 x9_2 l0 = some r) ∧ Aside0 (kq ≤ k1) ∧ Aside0 (Kd.R (Kd.int .i64) 2 w' w.heap.size (fun _ => True) v8 x8_2) ∧ Aside0 (Below w.heap.size w w'))
     case atStart => exact ⟨(y132), (0), (by first | rfl | (simp; done) | (simp [*]; done) | (simp [i64_w, i32_w]; done)), H', ⟨Nat.le_refl _⟩, ⟨by (with_reducible repeat (first | apply Kd.R_alloc | apply Kd.R_drewN | apply Kd.R_drew)); exact HO134.out⟩, ⟨by repeat (first | (with_reducible first | exact HB.out | apply below_alloc | apply pw_below_drewN | apply below_drew1) | exact HB.out)⟩⟩
     case round =>
      clear H'
      try clear c1
      try clear p1
      try clear q1
      try clear hx1
      try clear qi1
      try clear c2
      try clear p2
      try clear c3
      try clear c3b0
      try clear c3b1
      try clear c4
      try clear c4b0
      try clear c5
      try clear c5b0
      try clear c6
      try clear c6b0
      try clear c6b1
      try clear p6
      try clear c7
      try clear c7b0
      try clear hx129_0
      try clear hx129_1
      try clear hx129_2
      try clear hx130_0
      try clear hx130_1
      try clear hx130_2
      try clear hx131_0
      try clear p129
      try clear p130
      try clear p131
      try clear p2
      try clear q129
      try clear q130
      try clear q131
      obtain ⟨x8_2, x9_2, rfl, HA, HK2, HO_8, HB⟩ := hrel
      cases gk with
      | zero => exact absurd HA.out (by simp [spec_l17Joined.l1])
      | succ k2 =>
       have H := HA.out
       clear HA
       simp only [spec_l17Joined.l1] at H
       by_cases c10 : x9_2 < (x8_2.length : Int)
       rotate_left
       · rw [if_neg c10] at H
         have c10b0 : decide (x9_2 < (x8_2.length : Int)) = false := decide_eq_false c10
         clear c10
         obtain rfl := Option.some.inj H
         obtain ⟨Ao31, co31, eo31⟩ := Kd.R_slice HO_8.out
         subst eo31
         go_wp2
         repeat (go_quiet (fail); try go_wp2)
         go_ret
         exact ⟨by first | rfl | (simp [errW_none, errW_some] <;> rfl) | (simp [*, errW_none, errW_some] <;> rfl), by repeat (first | (with_reducible first | exact HB.out | apply below_alloc | apply pw_below_drewN | apply below_drew1) | exact HB.out)⟩
       rw [if_pos c10] at H
       have c10b0 : decide (x9_2 < (x8_2.length : Int)) = true := decide_eq_true c10
       clear c10
       by_cases c11 : 0 ≤ x9_2
       rotate_left
       · rw [if_neg c11] at H
         exact absurd H (by simp)
       rw [if_pos c11] at H
       have c11b0 : decide (0 ≤ x9_2) = true := decide_eq_true c11
       clear c11
       replace H := Option.bind_eq_some_iff.mp H
       obtain ⟨t136, A120, H⟩ := H
       replace H : (spec_l17Joined.l2 k2 a1 x6_1 x8_2 x9_2 t136 0 l0) = some r := H
       have A12 := mkA A120
       clear A120
       have H' := mkA H
       clear H
       obtain ⟨Ao13, co13, eo13⟩ := Kd.R_slice HO_8.out
       subst eo13
       have p135 : 0 ≤ (x9_2 : Int) := dt_
       have q135 : x9_2 < (x8_2.length : Int) := dt_
       obtain ⟨ad135, e135, hx135_0⟩ := Kd.at_int (Kd.R_reads' HO_8.out).2.2 x9_2 p135 q135
       cases e135
       replace p135 := eq_true p135
       replace q135 := eq_true q135
       have gt_ := trivial; repeat (clear gt_; try go_wp2_with (first | (go_at_call 26; (with_reducible refine (spec_l17Around.calls _ l0 (rd x8_2 x9_2) t136 _ ?side1 A12.out).mono ?_); (case side1 => exact cb_ HR0.out HB.out); rintro e w14 ⟨v137, rfl, ho0, hb⟩; have n0_ := mkA (Kd.R_elder' (by (with_reducible repeat (first | apply Kd.R_alloc | apply Kd.R_drewN | apply Kd.R_drew)); exact HO_8.out) (Kd.R_base ho0) hb); have n1_ := mkA (Kd.R_lower (Kd.R_new' ho0 (Kd.R_lt (by (with_reducible repeat (first | apply Kd.R_alloc | apply Kd.R_drewN | apply Kd.R_drew)); exact HO_8.out))) (below_size (bs0_ HB.out))); have n2_ := mkA (below_step (bs0_ HB.out) hb); clear HO_8; clear HB; have HO_8 := n0_; have HO138 := n1_; have HB := n2_; clear n0_ n1_ n2_; (try clear hb); (try clear hb2); (try clear hk); (try clear hi); (try clear ho0))); try (go_quiet (fail); have gt_ := trivial))
       go_loopg [8, 11] k2 (fun kq v8 v11 w' => ∃ (x8_3 : List Int) (x11_3 : Int), v11 = .int .i64 x11_3 ∧ Aside0 (spec_l17Joined.l2 kq a1 x6_1 x8_3 x9_2 t136 x11_3 l0 = some r) ∧ Aside0 (kq ≤ k2) ∧ Aside0 (Kd.R (Kd.int .i64) 2 w' w.heap.size (fun k_ => some k_ ≠ (v137 : Value).ownBlock) v8 x8_3) ∧ Aside0 (Kd.R (Kd.int .i64) 2 w' w.heap.size (fun k_ => some k_ ≠ (v8 : Value).ownBlock) v137 t136) ∧ Aside0 (Below w.heap.size w w'))
       case atStart => exact ⟨(x8_2), (0), (by first | rfl | (simp; done) | (simp [*]; done) | (simp [i64_w, i32_w]; done)), H', ⟨Nat.le_refl _⟩, ⟨by (with_reducible repeat (first | apply Kd.R_alloc | apply Kd.R_drewN | apply Kd.R_drew)); exact Kd.R_mono HO_8.out (fun _ hk => hk.2)⟩, ⟨by (with_reducible repeat (first | apply Kd.R_alloc | apply Kd.R_drewN | apply Kd.R_drew)); exact Kd.R_mono HO138.out (fun _ hk => hk.2)⟩, ⟨by repeat (first | (with_reducible first | exact HB.out | apply below_alloc | apply pw_below_drewN | apply below_drew1) | exact HB.out)⟩⟩
       case round =>
        clear H'
        try clear c1
        try clear p1
        try clear q1
        try clear hx1
        try clear qi1
        try clear c2
        try clear p2
        try clear c3
        try clear c3b0
        try clear c3b1
        try clear c4
        try clear c4b0
        try clear c5
        try clear c5b0
        try clear c6
        try clear c6b0
        try clear c6b1
        try clear p6
        try clear c7
        try clear c7b0
        try clear c10
        try clear c10b0
        try clear c11
        try clear c11b0
        try clear c12
        try clear p12
        try clear q12
        try clear hx12
        try clear qi12
        try clear c13
        try clear p13
        try clear q13
        try clear hx13
        try clear qi13
        try clear hx129_0
        try clear hx129_1
        try clear hx129_2
        try clear hx130_0
        try clear hx130_1
        try clear hx130_2
        try clear hx131_0
        try clear hx135_0
        try clear p1
        try clear p129
        try clear p130
        try clear p131
        try clear p135
        try clear p2
        try clear p6
        try clear q1
        try clear q129
        try clear q130
        try clear q131
        try clear q135
        obtain ⟨x8_3, x11_3, rfl, HA, HK3, HO_8, HO_10, HB⟩ := hrel
        cases gk with
        | zero => exact absurd HA.out (by simp [spec_l17Joined.l2])
        | succ k3 =>
         have H := HA.out
         clear HA
         simp only [spec_l17Joined.l2] at H
         by_cases c15 : x11_3 < (t136.length : Int)
         rotate_left
         · rw [if_neg c15] at H
           have c15b0 : decide (x11_3 < (t136.length : Int)) = false := decide_eq_false c15
           clear c15
           have H' := mkA H
           clear H
           obtain ⟨Ao30, co30, eo30⟩ := Kd.R_slice HO_10.out
           subst eo30
           go_wp2
           repeat (go_quiet (fail); try go_wp2)
           go_roundg k3
           case measure => have := HK1.out; have := HK2.out; have := HK3.out; omega
           case rel => exact ⟨(x8_3), (wrap64 (x9_2 + 1)), (by first | rfl | (simp; done) | (simp [*]; done) | (simp [i64_w, i32_w]; done)), H', ⟨by have := HK1.out; have := HK2.out; have := HK3.out; omega⟩, ⟨by (with_reducible repeat (first | apply Kd.R_alloc | apply Kd.R_drewN | apply Kd.R_drew)); exact Kd.R_mono HO_8.out (fun _ hk => trivial)⟩, ⟨by repeat (first | (with_reducible first | exact HB.out | apply below_alloc | apply pw_below_drewN | apply below_drew1) | exact HB.out)⟩⟩
         rw [if_pos c15] at H
         have c15b0 : decide (x11_3 < (t136.length : Int)) = true := decide_eq_true c15
         clear c15
         by_cases c16 : 0 < (l0.length : Int)
         rotate_left
         · rw [if_neg c16] at H
           exact absurd H (by simp)
         rw [if_pos c16] at H
         have c16b0 : decide (0 < (l0.length : Int)) = true := decide_eq_true c16
         have c16b1 : decide (0 < l0.length) = true := decide_eq_true (by omega)
         clear c16
         by_cases c17 : 0 ≤ x11_3
         rotate_left
         · rw [if_neg c17] at H
           exact absurd H (by simp)
         rw [if_pos c17] at H
         have c17b0 : decide (0 ≤ x11_3) = true := decide_eq_true c17
         clear c17
         by_cases c18 : 0 ≤ (rd t136 x11_3)
         rotate_left
         · rw [if_neg c18] at H
           exact absurd H (by simp)
         rw [if_pos c18] at H
         have c18b0 : decide (0 ≤ (rd t136 x11_3)) = true := decide_eq_true c18
         clear c18
         by_cases c19 : (rd t136 x11_3) < (((rd_T28 l0 0).f2).length : Int)
         rotate_left
         · rw [if_neg c19] at H
           exact absurd H (by simp)
         rw [if_pos c19] at H
         have c19b0 : decide ((rd t136 x11_3) < (((rd_T28 l0 0).f2).length : Int)) = true := decide_eq_true c19
         clear c19
         by_cases c20 : (rd ((rd_T28 l0 0).f2) (rd t136 x11_3)) = a1
         rotate_left
         · rw [if_neg c20] at H
           have c20b0 : ((rd ((rd_T28 l0 0).f2) (rd t136 x11_3)) == a1) = false := beq_eq_false_iff_ne.mpr c20
           have c20b1 : ((rd ((rd_T28 l0 0).f2) (rd t136 x11_3)) != a1) = true := bne_iff_ne.mpr c20
           have H' := mkA H
           clear H
           obtain ⟨Ao29, co29, eo29⟩ := Kd.R_slice HO_10.out
           subst eo29
           have p139 : 0 ≤ (0 : Int) := (by omega)
           have q139 : 0 < (l0.length : Int) := dt_
           obtain ⟨ad139, A139_2, c139_2, e139, hx139_0, hx139_1, hx139_2, hl139_2, hi139_2⟩ := at0_T28 HR0.out q139
           obtain rfl : ad129 = ad139 := (by injection e139)
           have qi139 : (0 < l0.length) = True := eq_true (by omega)
           replace hx139_0 := bc_ HB.out hx139_0
           replace hx139_1 := bc_ HB.out hx139_1
           replace hx139_2 := bc_ HB.out hx139_2
           have HR139_2 := mkA hi139_2
           have HC139_2 := mkA hl139_2
           clear hi139_2 hl139_2
           replace p139 := eq_true p139
           replace q139 := eq_true q139
           have p140 : 0 ≤ (x11_3 : Int) := dt_
           have q140 : x11_3 < (t136.length : Int) := dt_
           obtain ⟨ad140, e140, hx140_0⟩ := Kd.at_int (Kd.R_reads' HO_10.out).2.2 x11_3 p140 q140
           cases e140
           replace p140 := eq_true p140
           replace q140 := eq_true q140
           have p141 : 0 ≤ ((rd t136 x11_3) : Int) := dt_
           have q141 : (rd t136 x11_3) < (((rd_T28 l0 0).f2).length : Int) := dt_
           obtain ⟨ad141, e141, hx141_0⟩ := Kd.at_int HR139_2.out (rd t136 x11_3) p141 q141
           cases e141
           replace hx141_0 := bc_ HB.out hx141_0
           replace p141 := eq_true p141
           replace q141 := eq_true q141
           go_wp2
           repeat (go_quiet (fail); try go_wp2)
           go_roundg k3
           case measure => have := HK1.out; have := HK2.out; have := HK3.out; omega
           case rel => exact ⟨(x8_3), (wrap64 (x11_3 + 1)), (by first | rfl | (simp; done) | (simp [*]; done) | (simp [i64_w, i32_w]; done)), H', ⟨by have := HK1.out; have := HK2.out; have := HK3.out; omega⟩, ⟨by (with_reducible repeat (first | apply Kd.R_alloc | apply Kd.R_drewN | apply Kd.R_drew)); exact HO_8.out⟩, ⟨by (with_reducible repeat (first | apply Kd.R_alloc | apply Kd.R_drewN | apply Kd.R_drew)); exact HO_10.out⟩, ⟨by repeat (first | (with_reducible first | exact HB.out | apply below_alloc | apply pw_below_drewN | apply below_drew1) | exact HB.out)⟩⟩
         rw [if_pos c20] at H
         have c20b0 : ((rd ((rd_T28 l0 0).f2) (rd t136 x11_3)) == a1) = true := beq_iff_eq.mpr c20
         have c20b1 : ((rd ((rd_T28 l0 0).f2) (rd t136 x11_3)) != a1) = false := bne_eq_false_iff_eq.mpr c20
         clear c20
         replace H := Option.bind_eq_some_iff.mp H
         obtain ⟨t143, A210, H⟩ := H
         replace H : (if t143 = true then (spec_l17Joined.l2 k3 a1 x6_1 x8_3 x9_2 t136 (wrap64 (x11_3 + 1)) l0) else (if x8_3.length < 17592186044416 then (spec_l17Joined.l2 k3 a1 x6_1 (x8_3 ++ [rd t136 x11_3]) x9_2 t136 (wrap64 (x11_3 + 1)) l0) else (none))) = some r := H
         have A21 := mkA A210
         clear A210
         by_cases c22 : t143 = true
         · subst c22
           have H1 : (spec_l17Joined.l2 k3 a1 x6_1 x8_3 x9_2 t136 (wrap64 (x11_3 + 1)) l0) = some r := by rw [if_pos rfl] at H; exact H
           clear H
           have H := H1
           clear H1
           have H' := mkA H
           clear H
           obtain ⟨Ao23, co23, eo23⟩ := Kd.R_slice HO_10.out
           subst eo23
           have p139 : 0 ≤ (0 : Int) := (by omega)
           have q139 : 0 < (l0.length : Int) := dt_
           obtain ⟨ad139, A139_2, c139_2, e139, hx139_0, hx139_1, hx139_2, hl139_2, hi139_2⟩ := at0_T28 HR0.out q139
           obtain rfl : ad129 = ad139 := (by injection e139)
           have qi139 : (0 < l0.length) = True := eq_true (by omega)
           replace hx139_0 := bc_ HB.out hx139_0
           replace hx139_1 := bc_ HB.out hx139_1
           replace hx139_2 := bc_ HB.out hx139_2
           have HR139_2 := mkA hi139_2
           have HC139_2 := mkA hl139_2
           clear hi139_2 hl139_2
           replace p139 := eq_true p139
           replace q139 := eq_true q139
           have p140 : 0 ≤ (x11_3 : Int) := dt_
           have q140 : x11_3 < (t136.length : Int) := dt_
           obtain ⟨ad140, e140, hx140_0⟩ := Kd.at_int (Kd.R_reads' HO_10.out).2.2 x11_3 p140 q140
           cases e140
           replace p140 := eq_true p140
           replace q140 := eq_true q140
           have p141 : 0 ≤ ((rd t136 x11_3) : Int) := dt_
           have q141 : (rd t136 x11_3) < (((rd_T28 l0 0).f2).length : Int) := dt_
           obtain ⟨ad141, e141, hx141_0⟩ := Kd.at_int HR139_2.out (rd t136 x11_3) p141 q141
           cases e141
           replace hx141_0 := bc_ HB.out hx141_0
           replace p141 := eq_true p141
           replace q141 := eq_true q141
           have p142 : 0 ≤ (x11_3 : Int) := dt_
           have q142 : x11_3 < (t136.length : Int) := dt_
           obtain ⟨ad142, e142, hx142_0⟩ := Kd.at_int (Kd.R_reads' HO_10.out).2.2 x11_3 p142 q142
           obtain rfl : ad140 = ad142 := (by injection e142)
           replace p142 := eq_true p142
           replace q142 := eq_true q142
           obtain ⟨Ao24, co24, eo24⟩ := Kd.R_slice HO_8.out
           subst eo24
           go_wp2_with (first | (go_at_call 25; (with_reducible refine (spec_l00Has.calls k3 _ _ x8_3 (rd t136 x11_3) true _ ?side1 ?side2 A21.out).mono ?_); (case side1 => repeat (first | exact (Kd.R_reads' HO_8.out).2.2 | (with_reducible refine Kd.C_alloc ?_ _) | (with_reducible refine Kd.C_drewN ?_ _) | (with_reducible refine Kd.C_drew ?_))); (case side2 => exact (Kd.R_reads' HO_8.out).2.1); rintro e w' ⟨rfl, ⟨nd, rfl⟩⟩; (try first | exact ⟨rfl, _, World.drewN_drewN _ _ _⟩ | exact ⟨rfl, _, Eq.trans (World.drewN_drewN _ _ _) (congrArg (World.drewN _) (Nat.add_assoc _ _ _))⟩)))
           repeat (go_quiet (first | (go_at_call 25; (with_reducible refine (spec_l00Has.calls k3 _ _ x8_3 (rd t136 x11_3) true _ ?side1 ?side2 A21.out).mono ?_); (case side1 => repeat (first | exact (Kd.R_reads' HO_8.out).2.2 | (with_reducible refine Kd.C_alloc ?_ _) | (with_reducible refine Kd.C_drewN ?_ _) | (with_reducible refine Kd.C_drew ?_))); (case side2 => exact (Kd.R_reads' HO_8.out).2.1); rintro e w' ⟨rfl, ⟨nd, rfl⟩⟩; (try first | exact ⟨rfl, _, World.drewN_drewN _ _ _⟩ | exact ⟨rfl, _, Eq.trans (World.drewN_drewN _ _ _) (congrArg (World.drewN _) (Nat.add_assoc _ _ _))⟩))); try go_wp2_with (first | (go_at_call 25; (with_reducible refine (spec_l00Has.calls k3 _ _ x8_3 (rd t136 x11_3) true _ ?side1 ?side2 A21.out).mono ?_); (case side1 => repeat (first | exact (Kd.R_reads' HO_8.out).2.2 | (with_reducible refine Kd.C_alloc ?_ _) | (with_reducible refine Kd.C_drewN ?_ _) | (with_reducible refine Kd.C_drew ?_))); (case side2 => exact (Kd.R_reads' HO_8.out).2.1); rintro e w' ⟨rfl, ⟨nd, rfl⟩⟩; (try first | exact ⟨rfl, _, World.drewN_drewN _ _ _⟩ | exact ⟨rfl, _, Eq.trans (World.drewN_drewN _ _ _) (congrArg (World.drewN _) (Nat.add_assoc _ _ _))⟩))))
           go_roundg k3
           case measure => have := HK1.out; have := HK2.out; have := HK3.out; omega
           case rel => exact ⟨(x8_3), (wrap64 (x11_3 + 1)), (by first | rfl | (simp; done) | (simp [*]; done) | (simp [i64_w, i32_w]; done)), H', ⟨by have := HK1.out; have := HK2.out; have := HK3.out; omega⟩, ⟨by (with_reducible repeat (first | apply Kd.R_alloc | apply Kd.R_drewN | apply Kd.R_drew)); exact HO_8.out⟩, ⟨by (with_reducible repeat (first | apply Kd.R_alloc | apply Kd.R_drewN | apply Kd.R_drew)); exact HO_10.out⟩, ⟨by repeat (first | (with_reducible first | exact HB.out | apply below_alloc | apply pw_below_drewN | apply below_drew1) | exact HB.out)⟩⟩
         · replace c22 := Bool.eq_false_iff.mpr c22
           subst c22
           have H1 : (if x8_3.length < 17592186044416 then (spec_l17Joined.l2 k3 a1 x6_1 (x8_3 ++ [rd t136 x11_3]) x9_2 t136 (wrap64 (x11_3 + 1)) l0) else (none)) = some r := by rw [if_neg (show ¬ (false = true) by decide)] at H; exact H
           clear H
           have H := H1
           clear H1
           by_cases c25 : x8_3.length < 17592186044416
           rotate_left
           · rw [if_neg c25] at H
             exact absurd H (by simp)
           rw [if_pos c25] at H
           have LMc25 := mkA c25
           clear c25
           obtain ⟨y145, hy145⟩ : ∃ y_ : List Int, y_ = (x8_3 ++ [rd t136 x11_3]) := ⟨_, rfl⟩
           replace H : (spec_l17Joined.l2 k3 a1 x6_1 y145 x9_2 t136 (wrap64 (x11_3 + 1)) l0) = some r := by first | (rw [hy145]; with_reducible exact H) | (have H2_ := (Option.bind_some _ _).symm.trans H; rw [hy145]; with_reducible exact H2_) | (have H2_ := (Option.bind_some _ _).symm.trans H; with_reducible exact H2_) | with_reducible exact H | (rw [hy145]; exact H) | exact H
           have Ny145 := mkA hy145
           clear hy145
           have H' := mkA H
           clear H
           obtain ⟨Ao26, co26, eo26⟩ := Kd.R_slice HO_10.out
           subst eo26
           have p139 : 0 ≤ (0 : Int) := (by omega)
           have q139 : 0 < (l0.length : Int) := dt_
           obtain ⟨ad139, A139_2, c139_2, e139, hx139_0, hx139_1, hx139_2, hl139_2, hi139_2⟩ := at0_T28 HR0.out q139
           obtain rfl : ad129 = ad139 := (by injection e139)
           have qi139 : (0 < l0.length) = True := eq_true (by omega)
           replace hx139_0 := bc_ HB.out hx139_0
           replace hx139_1 := bc_ HB.out hx139_1
           replace hx139_2 := bc_ HB.out hx139_2
           have HR139_2 := mkA hi139_2
           have HC139_2 := mkA hl139_2
           clear hi139_2 hl139_2
           replace p139 := eq_true p139
           replace q139 := eq_true q139
           have p140 : 0 ≤ (x11_3 : Int) := dt_
           have q140 : x11_3 < (t136.length : Int) := dt_
           obtain ⟨ad140, e140, hx140_0⟩ := Kd.at_int (Kd.R_reads' HO_10.out).2.2 x11_3 p140 q140
           cases e140
           replace p140 := eq_true p140
           replace q140 := eq_true q140
           have p141 : 0 ≤ ((rd t136 x11_3) : Int) := dt_
           have q141 : (rd t136 x11_3) < (((rd_T28 l0 0).f2).length : Int) := dt_
           obtain ⟨ad141, e141, hx141_0⟩ := Kd.at_int HR139_2.out (rd t136 x11_3) p141 q141
           cases e141
           replace hx141_0 := bc_ HB.out hx141_0
           replace p141 := eq_true p141
           replace q141 := eq_true q141
           have p142 : 0 ≤ (x11_3 : Int) := dt_
           have q142 : x11_3 < (t136.length : Int) := dt_
           obtain ⟨ad142, e142, hx142_0⟩ := Kd.at_int (Kd.R_reads' HO_10.out).2.2 x11_3 p142 q142
           obtain rfl : ad140 = ad142 := (by injection e142)
           replace p142 := eq_true p142
           replace q142 := eq_true q142
           obtain ⟨Ao27, co27, eo27⟩ := Kd.R_slice HO_8.out
           subst eo27
           go_wp2_with (first | (go_at_call 25; (with_reducible refine (spec_l00Has.calls k3 _ _ x8_3 (rd t136 x11_3) false _ ?side1 ?side2 A21.out).mono ?_); (case side1 => repeat (first | exact (Kd.R_reads' HO_8.out).2.2 | (with_reducible refine Kd.C_alloc ?_ _) | (with_reducible refine Kd.C_drewN ?_ _) | (with_reducible refine Kd.C_drew ?_))); (case side2 => exact (Kd.R_reads' HO_8.out).2.1); rintro e w' ⟨rfl, ⟨nd, rfl⟩⟩; (try first | exact ⟨rfl, _, World.drewN_drewN _ _ _⟩ | exact ⟨rfl, _, Eq.trans (World.drewN_drewN _ _ _) (congrArg (World.drewN _) (Nat.add_assoc _ _ _))⟩); have p144 : 0 ≤ (x11_3 : Int) := dt_; have q144 : x11_3 < (t136.length : Int) := dt_; obtain ⟨ad144, e144, hx144_0⟩ := Kd.at_int (Kd.R_reads' HO_10.out).2.2 x11_3 p144 q144; obtain rfl : ad140 = ad144 := (by injection e144); replace p144 := eq_true p144; replace q144 := eq_true q144) | ((with_reducible refine gate_builtin (b := .append) (xs := #[.tmp 76, .tmp 81]) rfl ?_); at_builtin; refine Kd.R_append (Kd.int .i64) (w0 := w) w.heap.size rfl (.tmp 76) (.tmp 81) 22 2 (.int .i64 0) 8 rfl Try.underlying22 info2 rfl (by decide) (by omega) (.slice Ao27 x8_3.length co27) x8_3 (rd t136 x11_3) [.int .i64 (rd t136 x11_3)] (fun k_ => some k_ ≠ (.slice (some ad140) t136.length co26 : Value).ownBlock) (fun _ => False) rfl rfl ?aP (fun _ hk => hk.elim) ?aF ?aO ?aB ?aS ?aL ?_; (case aP => exact rfl); (case aB => exact (bs0_ HB.out)); (case aF => exact (fun k_ hk => Kd.fresh' (Kd.R_lt (by (with_reducible repeat (first | apply Kd.R_alloc | apply Kd.R_drewN | apply Kd.R_drew)); exact HO_10.out)) k_ hk)); (case aO => exact (by (with_reducible repeat (first | apply Kd.R_alloc | apply Kd.R_drewN | apply Kd.R_drew)); exact HO_8.out)); (case aS => exact (below_size (bs0_ HB.out))); (case aL => have := LMc25.out; omega); intro v146 w28 ho hb hg hat; rw [← Ny145.out] at ho; have n0_ := mkA (Kd.R_after (ok := (fun _ => True)) (by (with_reducible repeat (first | apply Kd.R_alloc | apply Kd.R_drewN | apply Kd.R_drew)); exact Kd.R_mono HO_10.out (fun _ hk => ⟨trivial, hk⟩)) hg hat); have n1_ := mkA (hb); have n2_ := mkA (ho); clear HO_10; clear HB; clear HO_8; have HO_10 := n0_; have HB := n1_; have HO147 := n2_; clear n0_ n1_ n2_; clear ho hb hg hat))
           repeat (go_quiet (first | (go_at_call 25; (with_reducible refine (spec_l00Has.calls k3 _ _ x8_3 (rd t136 x11_3) false _ ?side1 ?side2 A21.out).mono ?_); (case side1 => repeat (first | exact (Kd.R_reads' HO_8.out).2.2 | (with_reducible refine Kd.C_alloc ?_ _) | (with_reducible refine Kd.C_drewN ?_ _) | (with_reducible refine Kd.C_drew ?_))); (case side2 => exact (Kd.R_reads' HO_8.out).2.1); rintro e w' ⟨rfl, ⟨nd, rfl⟩⟩; (try first | exact ⟨rfl, _, World.drewN_drewN _ _ _⟩ | exact ⟨rfl, _, Eq.trans (World.drewN_drewN _ _ _) (congrArg (World.drewN _) (Nat.add_assoc _ _ _))⟩); have p144 : 0 ≤ (x11_3 : Int) := dt_; have q144 : x11_3 < (t136.length : Int) := dt_; obtain ⟨ad144, e144, hx144_0⟩ := Kd.at_int (Kd.R_reads' HO_10.out).2.2 x11_3 p144 q144; obtain rfl : ad140 = ad144 := (by injection e144); replace p144 := eq_true p144; replace q144 := eq_true q144) | ((with_reducible refine gate_builtin (b := .append) (xs := #[.tmp 76, .tmp 81]) rfl ?_); at_builtin; refine Kd.R_append (Kd.int .i64) (w0 := w) w.heap.size rfl (.tmp 76) (.tmp 81) 22 2 (.int .i64 0) 8 rfl Try.underlying22 info2 rfl (by decide) (by omega) (.slice Ao27 x8_3.length co27) x8_3 (rd t136 x11_3) [.int .i64 (rd t136 x11_3)] (fun k_ => some k_ ≠ (.slice (some ad140) t136.length co26 : Value).ownBlock) (fun _ => False) rfl rfl ?aP (fun _ hk => hk.elim) ?aF ?aO ?aB ?aS ?aL ?_; (case aP => exact rfl); (case aB => exact (bs0_ HB.out)); (case aF => exact (fun k_ hk => Kd.fresh' (Kd.R_lt (by (with_reducible repeat (first | apply Kd.R_alloc | apply Kd.R_drewN | apply Kd.R_drew)); exact HO_10.out)) k_ hk)); (case aO => exact (by (with_reducible repeat (first | apply Kd.R_alloc | apply Kd.R_drewN | apply Kd.R_drew)); exact HO_8.out)); (case aS => exact (below_size (bs0_ HB.out))); (case aL => have := LMc25.out; omega); intro v146 w28 ho hb hg hat; rw [← Ny145.out] at ho; have n0_ := mkA (Kd.R_after (ok := (fun _ => True)) (by (with_reducible repeat (first | apply Kd.R_alloc | apply Kd.R_drewN | apply Kd.R_drew)); exact Kd.R_mono HO_10.out (fun _ hk => ⟨trivial, hk⟩)) hg hat); have n1_ := mkA (hb); have n2_ := mkA (ho); clear HO_10; clear HB; clear HO_8; have HO_10 := n0_; have HB := n1_; have HO147 := n2_; clear n0_ n1_ n2_; clear ho hb hg hat)); try go_wp2_with (first | (go_at_call 25; (with_reducible refine (spec_l00Has.calls k3 _ _ x8_3 (rd t136 x11_3) false _ ?side1 ?side2 A21.out).mono ?_); (case side1 => repeat (first | exact (Kd.R_reads' HO_8.out).2.2 | (with_reducible refine Kd.C_alloc ?_ _) | (with_reducible refine Kd.C_drewN ?_ _) | (with_reducible refine Kd.C_drew ?_))); (case side2 => exact (Kd.R_reads' HO_8.out).2.1); rintro e w' ⟨rfl, ⟨nd, rfl⟩⟩; (try first | exact ⟨rfl, _, World.drewN_drewN _ _ _⟩ | exact ⟨rfl, _, Eq.trans (World.drewN_drewN _ _ _) (congrArg (World.drewN _) (Nat.add_assoc _ _ _))⟩); have p144 : 0 ≤ (x11_3 : Int) := dt_; have q144 : x11_3 < (t136.length : Int) := dt_; obtain ⟨ad144, e144, hx144_0⟩ := Kd.at_int (Kd.R_reads' HO_10.out).2.2 x11_3 p144 q144; obtain rfl : ad140 = ad144 := (by injection e144); replace p144 := eq_true p144; replace q144 := eq_true q144) | ((with_reducible refine gate_builtin (b := .append) (xs := #[.tmp 76, .tmp 81]) rfl ?_); at_builtin; refine Kd.R_append (Kd.int .i64) (w0 := w) w.heap.size rfl (.tmp 76) (.tmp 81) 22 2 (.int .i64 0) 8 rfl Try.underlying22 info2 rfl (by decide) (by omega) (.slice Ao27 x8_3.length co27) x8_3 (rd t136 x11_3) [.int .i64 (rd t136 x11_3)] (fun k_ => some k_ ≠ (.slice (some ad140) t136.length co26 : Value).ownBlock) (fun _ => False) rfl rfl ?aP (fun _ hk => hk.elim) ?aF ?aO ?aB ?aS ?aL ?_; (case aP => exact rfl); (case aB => exact (bs0_ HB.out)); (case aF => exact (fun k_ hk => Kd.fresh' (Kd.R_lt (by (with_reducible repeat (first | apply Kd.R_alloc | apply Kd.R_drewN | apply Kd.R_drew)); exact HO_10.out)) k_ hk)); (case aO => exact (by (with_reducible repeat (first | apply Kd.R_alloc | apply Kd.R_drewN | apply Kd.R_drew)); exact HO_8.out)); (case aS => exact (below_size (bs0_ HB.out))); (case aL => have := LMc25.out; omega); intro v146 w28 ho hb hg hat; rw [← Ny145.out] at ho; have n0_ := mkA (Kd.R_after (ok := (fun _ => True)) (by (with_reducible repeat (first | apply Kd.R_alloc | apply Kd.R_drewN | apply Kd.R_drew)); exact Kd.R_mono HO_10.out (fun _ hk => ⟨trivial, hk⟩)) hg hat); have n1_ := mkA (hb); have n2_ := mkA (ho); clear HO_10; clear HB; clear HO_8; have HO_10 := n0_; have HB := n1_; have HO147 := n2_; clear n0_ n1_ n2_; clear ho hb hg hat)))
           go_roundg k3
           case measure => have := HK1.out; have := HK2.out; have := HK3.out; omega
           case rel => exact ⟨(y145), (wrap64 (x11_3 + 1)), (by first | rfl | (simp; done) | (simp [*]; done) | (simp [i64_w, i32_w]; done)), H', ⟨by have := HK1.out; have := HK2.out; have := HK3.out; omega⟩, ⟨by (with_reducible repeat (first | apply Kd.R_alloc | apply Kd.R_drewN | apply Kd.R_drew)); exact HO147.out⟩, ⟨by (with_reducible repeat (first | apply Kd.R_alloc | apply Kd.R_drewN | apply Kd.R_drew)); exact Kd.R_mono HO_10.out (fun _ hk => hk.2)⟩, ⟨by repeat (first | (with_reducible first | exact HB.out | apply below_alloc | apply pw_below_drewN | apply below_drew1) | exact HB.out)⟩⟩
end Go.Proofs.Ytopopjkoanpjiaa.GFnExactTileNeighbours

-- Written by the session's own program (gen.py) out of the translation's print. Lean checks it.
import Derived.Test.YtnidibnhojedoaaGFnExactSymmetriesOfx0
import Derived.Test.YtnidibnhojedoaaGFnExactSymmetriesOfx1
namespace Go.Proofs.Ytnidibnhojedoaa.GFnExactSymmetriesOf
open Go.RowKit Go.Proofs.YtnidibnhojedoaaW.PrintWords Go.Proofs.YtnidibnhojedoaaW.PrintLast Go.Proofs.YtnidibnhojedoaaW.PrintMore
attribute [local go_sem] max2_int min2_int max_two min_two max_three min_three max_four min_four   -- for this text's walks alone
set_option linter.unusedVariables false
set_option linter.unusedSimpArgs false

/-! ### spec_l17Most: function 88 -/
mutual
def spec_l17Most.l0 : Nat → Int → Int → List (S29) → Option (Int)
  | 0, _, _, _ => none
  | k + 1, x3, x4, x960 => if 0 < (x960.length : Int) then (if x4 < (((rd_T29 x960 0).f2).length : Int) then (if 0 ≤ x4 then ((spec_l00In.f (rd ((rd_T29 x960 0).f2) x4) 0 35).bind fun t127 => (if t127 = true then ((spec_l00Max.f x3 (rd ((rd_T29 x960 0).f2) x4)).bind fun t130 => (spec_l17Most.l0 k t130 (wrap64 (x4 + 1)) x960)) else (some (-1)))) else (none)) else (spec_l17Most.l1 k x3 0 x960)) else (none)
def spec_l17Most.l1 : Nat → Int → Int → List (S29) → Option (Int)
  | 0, _, _, _ => none
  | k + 1, x3, x5, x960 => if x5 ≤ x3 then (if 0 < (x960.length : Int) then ((spec_l00Has.f k ((rd_T29 x960 0).f2) x5).bind fun t132 => (if t132 = true then (spec_l17Most.l1 k x3 (wrap64 (x5 + 1)) x960) else (some (-1)))) else (none)) else (some (wrap64 (x3 + 1)))
end
def spec_l17Most.f (k : Nat) (l0 : List (S29)) : Option (Int) := spec_l17Most.l0 k (-1) 0 l0
theorem spec_l17Most.mono_l : ∀ k, (∀ y0 y1 y2, LeO (spec_l17Most.l0 k y0 y1 y2) (spec_l17Most.l0 (k + 1) y0 y1 y2)) ∧ (∀ y0 y1 y2, LeO (spec_l17Most.l1 k y0 y1 y2) (spec_l17Most.l1 (k + 1) y0 y1 y2))
  | 0 => ⟨fun _ _ _ r h => by simp [spec_l17Most.l0] at h, fun _ _ _ r h => by simp [spec_l17Most.l1] at h⟩
  | k + 1 => by
    obtain ⟨ih0, ih1⟩ := spec_l17Most.mono_l k
    refine ⟨?_, ?_⟩
    · intro y0 y1 y2
      unfold spec_l17Most.l0
      repeat' first
      | (with_reducible exact ih0 _ _ _)
      | (with_reducible exact ih1 _ _ _)
      | (with_reducible exact spec_l00Has.mono _ _ _)
      | (with_reducible exact LeO.refl _)
      | (with_reducible exact LeO.none _)
      | (with_reducible refine LeO.ite ?_ ?_)
      | (with_reducible refine LeO.bind ?_ (fun _ => ?_))
      | exact ih0 _ _ _
      | exact ih1 _ _ _
      | exact spec_l00Has.mono _ _ _
      | exact LeO.none _
      | refine LeO.ite ?_ ?_
      | refine LeO.bind ?_ (fun _ => ?_)
    · intro y0 y1 y2
      unfold spec_l17Most.l1
      repeat' first
      | (with_reducible exact ih0 _ _ _)
      | (with_reducible exact ih1 _ _ _)
      | (with_reducible exact spec_l00Has.mono _ _ _)
      | (with_reducible exact LeO.refl _)
      | (with_reducible exact LeO.none _)
      | (with_reducible refine LeO.ite ?_ ?_)
      | (with_reducible refine LeO.bind ?_ (fun _ => ?_))
      | exact ih0 _ _ _
      | exact ih1 _ _ _
      | exact spec_l00Has.mono _ _ _
      | exact LeO.none _
      | refine LeO.ite ?_ ?_
      | refine LeO.bind ?_ (fun _ => ?_)
theorem spec_l17Most.mono : ∀ a0 k, LeO (spec_l17Most.f k a0) (spec_l17Most.f (k + 1) a0) := by
  intro a0 k
  obtain ⟨ih0, ih1⟩ := spec_l17Most.mono_l k
  unfold spec_l17Most.f
  repeat' first
      | (with_reducible exact ih0 _ _ _)
      | (with_reducible exact ih1 _ _ _)
      | (with_reducible exact spec_l00Has.mono _ _ _)
      | (with_reducible exact LeO.refl _)
      | (with_reducible exact LeO.none _)
      | (with_reducible refine LeO.ite ?_ ?_)
      | (with_reducible refine LeO.bind ?_ (fun _ => ?_))
      | exact ih0 _ _ _
      | exact ih1 _ _ _
      | exact spec_l00Has.mono _ _ _
      | exact LeO.none _
      | refine LeO.ite ?_ ?_
      | refine LeO.bind ?_ (fun _ => ?_)
open List renaming setIfInBounds_toArray → sA, set_cons_zero → sB, set_cons_succ → sC
open Go.Proofs.YtnidibnhojedoaaW.PrintWords.Aside0 renaming mk → mkA
open Go.Proofs.YtnidibnhojedoaaX (dt_ bc_ p0_ p1_ bl_ cb_ bs0_ bs1_ bs2_ bs3_ bs4_ bs5_ bs6_ bs7_ bs8_ bs9_ bs10_ bs11_ bs12_)
set_option maxHeartbeats 8000000 in
set_option maxRecDepth 100000 in
theorem spec_l17Most.calls (k : Nat) (A0 : Option Addr) (l0 : List (S29)) (r : Int) (w : World) (hr0 : Kd.C k29 w A0 l0.length l0) (h : spec_l17Most.f k l0 = some r) :
 Calls Try.prog 88 #[.pointer A0] w fun e w' => e = .returned (.int .i64 r) ∧ Drawn0 w w' := by
 have HR0 := mkA hr0
 clear hr0
 have H : (spec_l17Most.l0 k (-1) 0 l0) = some r := h
 clear h
 have H' := mkA H
 clear H
 go_enter Try.func88, Try.ntmps88
 go_wp2
 go_loopg [3, 4] k (fun kq v3 v4 w' => ∃ (x3_1 : Int) (x4_1 : Int), v3 = .int .i64 x3_1 ∧ v4 = .int .i64 x4_1 ∧ Aside0 (spec_l17Most.l0 kq x3_1 x4_1 l0 = some r) ∧ Aside0 (kq ≤ k) ∧ Drawn0 w w')
 case atStart => exact ⟨((-1)), (0), (by first | rfl | (simp; done) | (simp [*]; done) | (simp [i64_w, i32_w]; done)), (by first | rfl | (simp; done) | (simp [*]; done) | (simp [i64_w, i32_w]; done)), H', ⟨Nat.le_refl _⟩, by repeat (first | exact Drawn0.refl _ | apply Drawn0.step)⟩
 case round =>
  clear H'
  obtain ⟨x3_1, x4_1, rfl, rfl, HA, HK1, ⟨m1, rfl⟩⟩ := hrel
  cases gk with
  | zero => exact absurd HA.out (by simp [spec_l17Most.l0])
  | succ k1 =>
   have H := HA.out
   clear HA
   simp only [spec_l17Most.l0] at H
   by_cases c2 : 0 < (l0.length : Int)
   rotate_left
   · rw [if_neg c2] at H
     exact absurd H (by simp)

   rw [if_pos c2] at H
   have c2b0 : decide (0 < (l0.length : Int)) = true := decide_eq_true c2
   have c2b1 : decide (0 < l0.length) = true := decide_eq_true (by omega)
   clear c2
   by_cases c3 : x4_1 < (((rd_T29 l0 0).f2).length : Int)
   · rw [if_pos c3] at H
     have c3b0 : decide (x4_1 < (((rd_T29 l0 0).f2).length : Int)) = true := decide_eq_true c3
     clear c3
     by_cases c4 : 0 ≤ x4_1
     rotate_left
     · rw [if_neg c4] at H
       exact absurd H (by simp)
     rw [if_pos c4] at H
     have c4b0 : decide (0 ≤ x4_1) = true := decide_eq_true c4
     clear c4
     replace H := Option.bind_eq_some_iff.mp H
     obtain ⟨t127, A50, H⟩ := H
     replace H : (if t127 = true then ((spec_l00Max.f x3_1 (rd ((rd_T29 l0 0).f2) x4_1)).bind fun t130 => (spec_l17Most.l0 k1 t130 (wrap64 (x4_1 + 1)) l0)) else (some (-1))) = some r := H
     have A5 := mkA A50
     clear A50
     by_cases c6 : t127 = true
     rotate_left
     · replace c6 := Bool.eq_false_iff.mpr c6
       subst c6
       have H1 : (some (-1)) = some r := by rw [if_neg (show ¬ (false = true) by decide)] at H; exact H
       clear H
       have H := H1
       clear H1
       obtain rfl := Option.some.inj H
       have p124 : 0 ≤ (0 : Int) := (by omega)
       have q124 : 0 < (l0.length : Int) := dt_
       obtain ⟨ad124, A124_2, c124_2, e124, hx124_0, hx124_1, hx124_2, hl124_2, hi124_2⟩ := at0_T29 HR0.out q124
       cases e124
       have qi124 : (0 < l0.length) = True := eq_true (by omega)
       have HR124_2 := mkA hi124_2
       have HC124_2 := mkA hl124_2
       clear hi124_2 hl124_2
       replace p124 := eq_true p124
       replace q124 := eq_true q124
       have p125 : 0 ≤ (0 : Int) := (by omega)
       have q125 : 0 < (l0.length : Int) := dt_
       obtain ⟨ad125, A125_2, c125_2, e125, hx125_0, hx125_1, hx125_2, hl125_2, hi125_2⟩ := at0_T29 HR0.out q125
       obtain rfl : ad124 = ad125 := (by injection e125)
       have qi125 : (0 < l0.length) = True := eq_true (by omega)
       have HR125_2 := mkA hi125_2
       have HC125_2 := mkA hl125_2
       clear hi125_2 hl125_2
       replace p125 := eq_true p125
       replace q125 := eq_true q125
       have ea_ := Option.some.inj (hx124_2.symm.trans hx125_2)
       injection ea_ with ea_ en_ ec_
       subst ea_
       subst ec_
       clear en_
       have p126 : 0 ≤ (x4_1 : Int) := dt_
       have q126 : x4_1 < (((rd_T29 l0 0).f2).length : Int) := dt_
       obtain ⟨ad126, e126, hx126_0⟩ := Kd.at_int HR125_2.out x4_1 p126 q126
       cases e126
       replace p126 := eq_true p126
       replace q126 := eq_true q126
       go_wp2_with (first | ((with_reducible refine gate_callee (f := 57) rfl ?_); refine goesL_ (some 22) rfl rfl Try.func57 (by kernel_rfl) rfl #[.int .i64 (rd ((rd_T29 l0 0).f2) x4_1), .int .i64 0, .int .i64 35] rfl (by (try simp only [List.map_toArray, List.map_cons, List.map_nil]); first | done | rfl | (simp only [List.length_drop, List.length_take]; rfl)) ?_; (with_reducible refine (spec_l00In.calls (rd ((rd_T29 l0 0).f2) x4_1) 0 35 false _ A5.out).mono ?_); rintro e w' ⟨rfl, ⟨nd, rfl⟩⟩; refine ⟨_, rfl, ?_⟩))
       go_ret
       exact ⟨by first | rfl | (simp; done) | (simp [*]; done) | (simp [i64_w, i32_w]; done), by repeat (first | exact Drawn0.refl _ | apply Drawn0.step)⟩
     subst c6
     have H1 : ((spec_l00Max.f x3_1 (rd ((rd_T29 l0 0).f2) x4_1)).bind fun t130 => (spec_l17Most.l0 k1 t130 (wrap64 (x4_1 + 1)) l0)) = some r := by rw [if_pos rfl] at H; exact H
     clear H
     have H := H1
     clear H1
     replace H := Option.bind_eq_some_iff.mp H
     obtain ⟨t130, A70, H⟩ := H
     replace H : (spec_l17Most.l0 k1 t130 (wrap64 (x4_1 + 1)) l0) = some r := H
     have A7 := mkA A70
     clear A70
     have H' := mkA H
     clear H
     have p124 : 0 ≤ (0 : Int) := (by omega)
     have q124 : 0 < (l0.length : Int) := dt_
     obtain ⟨ad124, A124_2, c124_2, e124, hx124_0, hx124_1, hx124_2, hl124_2, hi124_2⟩ := at0_T29 HR0.out q124
     cases e124
     have qi124 : (0 < l0.length) = True := eq_true (by omega)
     have HR124_2 := mkA hi124_2
     have HC124_2 := mkA hl124_2
     clear hi124_2 hl124_2
     replace p124 := eq_true p124
     replace q124 := eq_true q124
     have p125 : 0 ≤ (0 : Int) := (by omega)
     have q125 : 0 < (l0.length : Int) := dt_
     obtain ⟨ad125, A125_2, c125_2, e125, hx125_0, hx125_1, hx125_2, hl125_2, hi125_2⟩ := at0_T29 HR0.out q125
     obtain rfl : ad124 = ad125 := (by injection e125)
     have qi125 : (0 < l0.length) = True := eq_true (by omega)
     have HR125_2 := mkA hi125_2
     have HC125_2 := mkA hl125_2
     clear hi125_2 hl125_2
     replace p125 := eq_true p125
     replace q125 := eq_true q125
     have ea_ := Option.some.inj (hx124_2.symm.trans hx125_2)
     injection ea_ with ea_ en_ ec_
     subst ea_
     subst ec_
     clear en_
     have p126 : 0 ≤ (x4_1 : Int) := dt_
     have q126 : x4_1 < (((rd_T29 l0 0).f2).length : Int) := dt_
     obtain ⟨ad126, e126, hx126_0⟩ := Kd.at_int HR125_2.out x4_1 p126 q126
     cases e126
     replace p126 := eq_true p126
     replace q126 := eq_true q126
     go_wp2_with (first | ((with_reducible refine gate_callee (f := 57) rfl ?_); refine goesL_ (some 22) rfl rfl Try.func57 (by kernel_rfl) rfl #[.int .i64 (rd ((rd_T29 l0 0).f2) x4_1), .int .i64 0, .int .i64 35] rfl (by (try simp only [List.map_toArray, List.map_cons, List.map_nil]); first | done | rfl | (simp only [List.length_drop, List.length_take]; rfl)) ?_; (with_reducible refine (spec_l00In.calls (rd ((rd_T29 l0 0).f2) x4_1) 0 35 true _ A5.out).mono ?_); rintro e w' ⟨rfl, ⟨nd, rfl⟩⟩; refine ⟨_, rfl, ?_⟩; have p128 : 0 ≤ (0 : Int) := (by omega); have q128 : 0 < (l0.length : Int) := dt_; obtain ⟨ad128, A128_2, c128_2, e128, hx128_0, hx128_1, hx128_2, hl128_2, hi128_2⟩ := at0_T29 HR0.out q128; obtain rfl : ad124 = ad128 := (by injection e128); have qi128 : (0 < l0.length) = True := eq_true (by omega); have HR128_2 := mkA hi128_2; have HC128_2 := mkA hl128_2; clear hi128_2 hl128_2; replace p128 := eq_true p128; replace q128 := eq_true q128; have ea_ := Option.some.inj (hx124_2.symm.trans hx128_2); injection ea_ with ea_ en_ ec_; subst ea_; subst ec_; clear en_; have p129 : 0 ≤ (x4_1 : Int) := dt_; have q129 : x4_1 < (((rd_T29 l0 0).f2).length : Int) := dt_; obtain ⟨ad129, e129, hx129_0⟩ := Kd.at_int HR128_2.out x4_1 p129 q129; obtain rfl : ad126 = ad129 := (by injection e129); replace p129 := eq_true p129; replace q129 := eq_true q129) | ((with_reducible refine gate_callee (f := 92) rfl ?_); refine goesL_ (some 32) rfl rfl Try.func92 (by kernel_rfl) rfl #[.int .i64 x3_1, .int .i64 (rd ((rd_T29 l0 0).f2) x4_1)] rfl (by (try simp only [List.map_toArray, List.map_cons, List.map_nil]); first | done | rfl | (simp only [List.length_drop, List.length_take]; rfl)) ?_; (with_reducible refine (spec_l00Max.calls x3_1 (rd ((rd_T29 l0 0).f2) x4_1) t130 _ A7.out).mono ?_); rintro e w' ⟨rfl, ⟨nd, rfl⟩⟩; refine ⟨_, rfl, ?_⟩))
     go_roundg k1
     case measure => have := HK1.out; omega
     case rel => exact ⟨(t130), (wrap64 (x4_1 + 1)), (by first | rfl | (simp; done) | (simp [*]; done) | (simp [i64_w, i32_w]; done)), (by first | rfl | (simp; done) | (simp [*]; done) | (simp [i64_w, i32_w]; done)), H', ⟨by have := HK1.out; omega⟩, by repeat (first | exact Drawn0.refl _ | apply Drawn0.step)⟩
   · rw [if_neg c3] at H
     have c3b0 : decide (x4_1 < (((rd_T29 l0 0).f2).length : Int)) = false := decide_eq_false c3
     clear c3
     have H' := mkA H
     clear H
     have p124 : 0 ≤ (0 : Int) := (by omega)
     have q124 : 0 < (l0.length : Int) := dt_
     obtain ⟨ad124, A124_2, c124_2, e124, hx124_0, hx124_1, hx124_2, hl124_2, hi124_2⟩ := at0_T29 HR0.out q124
     cases e124
     have qi124 : (0 < l0.length) = True := eq_true (by omega)
     have HR124_2 := mkA hi124_2
     have HC124_2 := mkA hl124_2
     clear hi124_2 hl124_2
     replace p124 := eq_true p124
     replace q124 := eq_true q124
     go_wp2
     go_loopg [5] k1 (fun kq v5 w' => ∃ (x5_2 : Int), v5 = .int .i64 x5_2 ∧ Aside0 (spec_l17Most.l1 kq x3_1 x5_2 l0 = some r) ∧ Aside0 (kq ≤ k1) ∧ Drawn0 w w')
     case atStart => exact ⟨(0), (by first | rfl | (simp; done) | (simp [*]; done) | (simp [i64_w, i32_w]; done)), H', ⟨Nat.le_refl _⟩, by repeat (first | exact Drawn0.refl _ | apply Drawn0.step)⟩
     case round =>
      clear H'
      try clear c1
      try clear p1
      try clear q1
      try clear hx1
      try clear qi1
      try clear c2
      try clear c2b0
      try clear c2b1
      try clear p2
      try clear c3
      try clear c3b0
      try clear c4
      try clear c4b0
      try clear c5
      try clear c6
      try clear p6
      try clear hx124_0
      try clear hx124_1
      try clear hx124_2
      try clear hx125_0
      try clear hx125_1
      try clear hx125_2
      try clear hx126_0
      try clear hx128_0
      try clear hx128_1
      try clear hx128_2
      try clear hx129_0
      try clear p124
      try clear p125
      try clear p126
      try clear p128
      try clear p129
      try clear q124
      try clear q125
      try clear q126
      try clear q128
      try clear q129
      obtain ⟨x5_2, rfl, HA, HK2, ⟨m2, rfl⟩⟩ := hrel
      cases gk with
      | zero => exact absurd HA.out (by simp [spec_l17Most.l1])
      | succ k2 =>
       have H := HA.out
       clear HA
       simp only [spec_l17Most.l1] at H
       by_cases c8 : x5_2 ≤ x3_1
       rotate_left
       · rw [if_neg c8] at H
         have c8b0 : decide (x5_2 ≤ x3_1) = false := decide_eq_false c8
         clear c8
         obtain rfl := Option.some.inj H
         go_wp2
         go_ret
         exact ⟨by first | rfl | (simp; done) | (simp [*]; done) | (simp [i64_w, i32_w]; done), by repeat (first | exact Drawn0.refl _ | apply Drawn0.step)⟩
       rw [if_pos c8] at H
       have c8b0 : decide (x5_2 ≤ x3_1) = true := decide_eq_true c8
       clear c8
       by_cases c9 : 0 < (l0.length : Int)
       rotate_left
       · rw [if_neg c9] at H
         exact absurd H (by simp)
       rw [if_pos c9] at H
       have c9b0 : decide (0 < (l0.length : Int)) = true := decide_eq_true c9
       have c9b1 : decide (0 < l0.length) = true := decide_eq_true (by omega)
       clear c9
       replace H := Option.bind_eq_some_iff.mp H
       obtain ⟨t132, A100, H⟩ := H
       replace H : (if t132 = true then (spec_l17Most.l1 k2 x3_1 (wrap64 (x5_2 + 1)) l0) else (some (-1))) = some r := H
       have A10 := mkA A100
       clear A100
       by_cases c11 : t132 = true
       rotate_left
       · replace c11 := Bool.eq_false_iff.mpr c11
         subst c11
         have H1 : (some (-1)) = some r := by rw [if_neg (show ¬ (false = true) by decide)] at H; exact H
         clear H
         have H := H1
         clear H1
         obtain rfl := Option.some.inj H
         have p131 : 0 ≤ (0 : Int) := (by omega)
         have q131 : 0 < (l0.length : Int) := dt_
         obtain ⟨ad131, A131_2, c131_2, e131, hx131_0, hx131_1, hx131_2, hl131_2, hi131_2⟩ := at0_T29 HR0.out q131
         obtain rfl : ad124 = ad131 := (by injection e131)
         have qi131 : (0 < l0.length) = True := eq_true (by omega)
         have HR131_2 := mkA hi131_2
         have HC131_2 := mkA hl131_2
         clear hi131_2 hl131_2
         replace p131 := eq_true p131
         replace q131 := eq_true q131
         go_wp2_with (first | ((with_reducible refine gate_callee (f := 99) rfl ?_); refine goesL_ (some 43) rfl rfl Try.func99 (by kernel_rfl) rfl #[.slice A131_2 ((rd_T29 l0 0).f2).length c131_2, .int .i64 x5_2] rfl (by (try simp only [List.map_toArray, List.map_cons, List.map_nil]); first | done | rfl | (simp only [List.length_drop, List.length_take]; rfl)) ?_; (with_reducible refine (spec_l00Has.calls k2 _ _ ((rd_T29 l0 0).f2) x5_2 false _ ?side1 ?side2 A10.out).mono ?_); (case side1 => repeat (first | exact HR131_2.out | (with_reducible refine Kd.C_alloc ?_ _) | (with_reducible refine Kd.C_drewN ?_ _) | (with_reducible refine Kd.C_drew ?_))); (case side2 => exact HC131_2.out); rintro e w' ⟨rfl, ⟨nd, rfl⟩⟩; refine ⟨_, rfl, ?_⟩))
         go_ret
         exact ⟨by first | rfl | (simp; done) | (simp [*]; done) | (simp [i64_w, i32_w]; done), by repeat (first | exact Drawn0.refl _ | apply Drawn0.step)⟩
       subst c11
       have H1 : (spec_l17Most.l1 k2 x3_1 (wrap64 (x5_2 + 1)) l0) = some r := by rw [if_pos rfl] at H; exact H
       clear H
       have H := H1
       clear H1
       have H' := mkA H
       clear H
       have p131 : 0 ≤ (0 : Int) := (by omega)
       have q131 : 0 < (l0.length : Int) := dt_
       obtain ⟨ad131, A131_2, c131_2, e131, hx131_0, hx131_1, hx131_2, hl131_2, hi131_2⟩ := at0_T29 HR0.out q131
       obtain rfl : ad124 = ad131 := (by injection e131)
       have qi131 : (0 < l0.length) = True := eq_true (by omega)
       have HR131_2 := mkA hi131_2
       have HC131_2 := mkA hl131_2
       clear hi131_2 hl131_2
       replace p131 := eq_true p131
       replace q131 := eq_true q131
       go_wp2_with (first | ((with_reducible refine gate_callee (f := 99) rfl ?_); refine goesL_ (some 43) rfl rfl Try.func99 (by kernel_rfl) rfl #[.slice A131_2 ((rd_T29 l0 0).f2).length c131_2, .int .i64 x5_2] rfl (by (try simp only [List.map_toArray, List.map_cons, List.map_nil]); first | done | rfl | (simp only [List.length_drop, List.length_take]; rfl)) ?_; (with_reducible refine (spec_l00Has.calls k2 _ _ ((rd_T29 l0 0).f2) x5_2 true _ ?side1 ?side2 A10.out).mono ?_); (case side1 => repeat (first | exact HR131_2.out | (with_reducible refine Kd.C_alloc ?_ _) | (with_reducible refine Kd.C_drewN ?_ _) | (with_reducible refine Kd.C_drew ?_))); (case side2 => exact HC131_2.out); rintro e w' ⟨rfl, ⟨nd, rfl⟩⟩; refine ⟨_, rfl, ?_⟩))
       go_roundg k2
       case measure => have := HK1.out; have := HK2.out; omega
       case rel => exact ⟨(wrap64 (x5_2 + 1)), (by first | rfl | (simp; done) | (simp [*]; done) | (simp [i64_w, i32_w]; done)), H', ⟨by have := HK1.out; have := HK2.out; omega⟩, by repeat (first | exact Drawn0.refl _ | apply Drawn0.step)⟩
/-! ### spec_l17Index: function 62 -/
def spec_l17Index.f (l0 : List (S29)) (a1 : Int) (a2 : Int) : Option (Int) := if 0 < (l0.length : Int) then (if ((rd_T29 l0 0).f1) = 0 then (none) else (if ((rd_T29 l0 0).f0) = 0 then (none) else (some (wrap64 ((wrap64 ((Int.tmod (wrap64 ((Int.tmod a2 ((rd_T29 l0 0).f1)) + ((rd_T29 l0 0).f1))) ((rd_T29 l0 0).f1)) * ((rd_T29 l0 0).f0))) + (Int.tmod (wrap64 ((Int.tmod a1 ((rd_T29 l0 0).f0)) + ((rd_T29 l0 0).f0))) ((rd_T29 l0 0).f0))))))) else (none)
open List renaming setIfInBounds_toArray → sA, set_cons_zero → sB, set_cons_succ → sC
open Go.Proofs.YtnidibnhojedoaaW.PrintWords.Aside0 renaming mk → mkA
open Go.Proofs.YtnidibnhojedoaaX (dt_ bc_ p0_ p1_ bl_ cb_ bs0_ bs1_ bs2_ bs3_ bs4_ bs5_ bs6_ bs7_ bs8_ bs9_ bs10_ bs11_ bs12_)
set_option maxHeartbeats 8000000 in
set_option maxRecDepth 100000 in
theorem spec_l17Index.calls (A0 : Option Addr) (l0 : List (S29)) (a1 : Int) (a2 : Int) (r : Int) (w : World) (hr0 : Kd.C k29 w A0 l0.length l0) (h : spec_l17Index.f l0 a1 a2 = some r) :
 Calls Try.prog 62 #[.pointer A0, .int .i64 a1, .int .i64 a2] w fun e w' => e = .returned (.int .i64 r) ∧ Drawn0 w w' := by
 have HR0 := mkA hr0
 clear hr0
 have H : (if 0 < (l0.length : Int) then (if ((rd_T29 l0 0).f1) = 0 then (none) else (if ((rd_T29 l0 0).f0) = 0 then (none) else (some (wrap64 ((wrap64 ((Int.tmod (wrap64 ((Int.tmod a2 ((rd_T29 l0 0).f1)) + ((rd_T29 l0 0).f1))) ((rd_T29 l0 0).f1)) * ((rd_T29 l0 0).f0))) + (Int.tmod (wrap64 ((Int.tmod a1 ((rd_T29 l0 0).f0)) + ((rd_T29 l0 0).f0))) ((rd_T29 l0 0).f0))))))) else (none)) = some r := h
 clear h
 by_cases c4 : 0 < (l0.length : Int)
 rotate_left
 · rw [if_neg c4] at H
   exact absurd H (by simp)

 rw [if_pos c4] at H
 have c4b0 : decide (0 < (l0.length : Int)) = true := decide_eq_true c4
 have c4b1 : decide (0 < l0.length) = true := decide_eq_true (by omega)
 clear c4
 by_cases c5 : ((rd_T29 l0 0).f1) = 0
 · rw [if_pos c5] at H
   exact absurd H (by simp)
 · rw [if_neg c5] at H
   have c5b0 : (((rd_T29 l0 0).f1) == 0) = false := beq_eq_false_iff_ne.mpr c5
   have c5b1 : (((rd_T29 l0 0).f1) != 0) = true := bne_iff_ne.mpr c5
   by_cases c6 : ((rd_T29 l0 0).f0) = 0
   · rw [if_pos c6] at H
     exact absurd H (by simp)
   · rw [if_neg c6] at H
     have c6b0 : (((rd_T29 l0 0).f0) == 0) = false := beq_eq_false_iff_ne.mpr c6
     have c6b1 : (((rd_T29 l0 0).f0) != 0) = true := bne_iff_ne.mpr c6
     obtain rfl := Option.some.inj H
     have p133 : 0 ≤ (0 : Int) := (by omega)
     have q133 : 0 < (l0.length : Int) := dt_
     obtain ⟨ad133, A133_2, c133_2, e133, hx133_0, hx133_1, hx133_2, hl133_2, hi133_2⟩ := at0_T29 HR0.out q133
     cases e133
     have qi133 : (0 < l0.length) = True := eq_true (by omega)
     have HR133_2 := mkA hi133_2
     have HC133_2 := mkA hl133_2
     clear hi133_2 hl133_2
     replace p133 := eq_true p133
     replace q133 := eq_true q133
     have p134 : 0 ≤ (0 : Int) := (by omega)
     have q134 : 0 < (l0.length : Int) := dt_
     obtain ⟨ad134, A134_2, c134_2, e134, hx134_0, hx134_1, hx134_2, hl134_2, hi134_2⟩ := at0_T29 HR0.out q134
     obtain rfl : ad133 = ad134 := (by injection e134)
     have qi134 : (0 < l0.length) = True := eq_true (by omega)
     have HR134_2 := mkA hi134_2
     have HC134_2 := mkA hl134_2
     clear hi134_2 hl134_2
     replace p134 := eq_true p134
     replace q134 := eq_true q134
     have ea_ := Option.some.inj (hx133_2.symm.trans hx134_2)
     injection ea_ with ea_ en_ ec_
     subst ea_
     subst ec_
     clear en_
     have p135 : 0 ≤ (0 : Int) := (by omega)
     have q135 : 0 < (l0.length : Int) := dt_
     obtain ⟨ad135, A135_2, c135_2, e135, hx135_0, hx135_1, hx135_2, hl135_2, hi135_2⟩ := at0_T29 HR0.out q135
     obtain rfl : ad133 = ad135 := (by injection e135)
     have qi135 : (0 < l0.length) = True := eq_true (by omega)
     have HR135_2 := mkA hi135_2
     have HC135_2 := mkA hl135_2
     clear hi135_2 hl135_2
     replace p135 := eq_true p135
     replace q135 := eq_true q135
     have ea_ := Option.some.inj (hx133_2.symm.trans hx135_2)
     injection ea_ with ea_ en_ ec_
     subst ea_
     subst ec_
     clear en_
     have p136 : 0 ≤ (0 : Int) := (by omega)
     have q136 : 0 < (l0.length : Int) := dt_
     obtain ⟨ad136, A136_2, c136_2, e136, hx136_0, hx136_1, hx136_2, hl136_2, hi136_2⟩ := at0_T29 HR0.out q136
     obtain rfl : ad133 = ad136 := (by injection e136)
     have qi136 : (0 < l0.length) = True := eq_true (by omega)
     have HR136_2 := mkA hi136_2
     have HC136_2 := mkA hl136_2
     clear hi136_2 hl136_2
     replace p136 := eq_true p136
     replace q136 := eq_true q136
     have ea_ := Option.some.inj (hx133_2.symm.trans hx136_2)
     injection ea_ with ea_ en_ ec_
     subst ea_
     subst ec_
     clear en_
     have p137 : 0 ≤ (0 : Int) := (by omega)
     have q137 : 0 < (l0.length : Int) := dt_
     obtain ⟨ad137, A137_2, c137_2, e137, hx137_0, hx137_1, hx137_2, hl137_2, hi137_2⟩ := at0_T29 HR0.out q137
     obtain rfl : ad133 = ad137 := (by injection e137)
     have qi137 : (0 < l0.length) = True := eq_true (by omega)
     have HR137_2 := mkA hi137_2
     have HC137_2 := mkA hl137_2
     clear hi137_2 hl137_2
     replace p137 := eq_true p137
     replace q137 := eq_true q137
     have ea_ := Option.some.inj (hx133_2.symm.trans hx137_2)
     injection ea_ with ea_ en_ ec_
     subst ea_
     subst ec_
     clear en_
     have p138 : 0 ≤ (0 : Int) := (by omega)
     have q138 : 0 < (l0.length : Int) := dt_
     obtain ⟨ad138, A138_2, c138_2, e138, hx138_0, hx138_1, hx138_2, hl138_2, hi138_2⟩ := at0_T29 HR0.out q138
     obtain rfl : ad133 = ad138 := (by injection e138)
     have qi138 : (0 < l0.length) = True := eq_true (by omega)
     have HR138_2 := mkA hi138_2
     have HC138_2 := mkA hl138_2
     clear hi138_2 hl138_2
     replace p138 := eq_true p138
     replace q138 := eq_true q138
     have ea_ := Option.some.inj (hx133_2.symm.trans hx138_2)
     injection ea_ with ea_ en_ ec_
     subst ea_
     subst ec_
     clear en_
     have p139 : 0 ≤ (0 : Int) := (by omega)
     have q139 : 0 < (l0.length : Int) := dt_
     obtain ⟨ad139, A139_2, c139_2, e139, hx139_0, hx139_1, hx139_2, hl139_2, hi139_2⟩ := at0_T29 HR0.out q139
     obtain rfl : ad133 = ad139 := (by injection e139)
     have qi139 : (0 < l0.length) = True := eq_true (by omega)
     have HR139_2 := mkA hi139_2
     have HC139_2 := mkA hl139_2
     clear hi139_2 hl139_2
     replace p139 := eq_true p139
     replace q139 := eq_true q139
     have ea_ := Option.some.inj (hx133_2.symm.trans hx139_2)
     injection ea_ with ea_ en_ ec_
     subst ea_
     subst ec_
     clear en_
     go_enter Try.func62, Try.ntmps62
     go_wp2
     repeat (go_quiet (fail); try go_wp2)
     go_ret
     exact ⟨by first | rfl | (simp; done) | (simp [*]; done) | (simp [i64_w, i32_w]; done), by repeat (first | exact Drawn0.refl _ | apply Drawn0.step)⟩
/-! ### spec_l17Around: function 100 -/
def spec_l17Around.f (l0 : List (S29)) (a1 : Int) : Option (List Int) := if 0 < (l0.length : Int) then (if ((rd_T29 l0 0).f0) = 0 then (none) else ((spec_l17Index.f l0 (wrap64 ((Int.tmod a1 ((rd_T29 l0 0).f0)) + 1)) (wrap64 (Int.tdiv a1 ((rd_T29 l0 0).f0)))).bind fun t142 => ((spec_l17Index.f l0 (Int.tmod a1 ((rd_T29 l0 0).f0)) (wrap64 ((wrap64 (Int.tdiv a1 ((rd_T29 l0 0).f0))) + 1))).bind fun t143 => ((spec_l17Index.f l0 (wrap64 ((Int.tmod a1 ((rd_T29 l0 0).f0)) - 1)) (wrap64 (Int.tdiv a1 ((rd_T29 l0 0).f0)))).bind fun t144 => ((spec_l17Index.f l0 (Int.tmod a1 ((rd_T29 l0 0).f0)) (wrap64 ((wrap64 (Int.tdiv a1 ((rd_T29 l0 0).f0))) - 1))).bind fun t145 => (some (([t142, t143, t144, t145] : List Int)))))))) else (none)
open List renaming setIfInBounds_toArray → sA, set_cons_zero → sB, set_cons_succ → sC
open Go.Proofs.YtnidibnhojedoaaW.PrintWords.Aside0 renaming mk → mkA
open Go.Proofs.YtnidibnhojedoaaX (dt_ bc_ p0_ p1_ bl_ cb_ bs0_ bs1_ bs2_ bs3_ bs4_ bs5_ bs6_ bs7_ bs8_ bs9_ bs10_ bs11_ bs12_)
set_option maxHeartbeats 8000000 in
set_option maxRecDepth 100000 in
theorem spec_l17Around.calls (A0 : Option Addr) (l0 : List (S29)) (a1 : Int) (r : List Int) (w : World) (hr0 : Kd.C k29 w A0 l0.length l0) (h : spec_l17Around.f l0 a1 = some r) :
 Calls Try.prog 100 #[.pointer A0, .int .i64 a1] w fun e w' => ∃ v0_ : Value, e = .returned (v0_) ∧ Kd.R (Kd.int .i64) 2 w' w.heap.size (fun _ => True) v0_ r ∧ Below w.heap.size w w' := by
 have HR0 := mkA hr0
 clear hr0
 have HB := mkA (Below.refl w.heap.size w)
 have H : (if 0 < (l0.length : Int) then (if ((rd_T29 l0 0).f0) = 0 then (none) else ((spec_l17Index.f l0 (wrap64 ((Int.tmod a1 ((rd_T29 l0 0).f0)) + 1)) (wrap64 (Int.tdiv a1 ((rd_T29 l0 0).f0)))).bind fun t142 => ((spec_l17Index.f l0 (Int.tmod a1 ((rd_T29 l0 0).f0)) (wrap64 ((wrap64 (Int.tdiv a1 ((rd_T29 l0 0).f0))) + 1))).bind fun t143 => ((spec_l17Index.f l0 (wrap64 ((Int.tmod a1 ((rd_T29 l0 0).f0)) - 1)) (wrap64 (Int.tdiv a1 ((rd_T29 l0 0).f0)))).bind fun t144 => ((spec_l17Index.f l0 (Int.tmod a1 ((rd_T29 l0 0).f0)) (wrap64 ((wrap64 (Int.tdiv a1 ((rd_T29 l0 0).f0))) - 1))).bind fun t145 => (some (([t142, t143, t144, t145] : List Int)))))))) else (none)) = some r := h
 clear h
 by_cases c3 : 0 < (l0.length : Int)
 rotate_left
 · rw [if_neg c3] at H
   exact absurd H (by simp)

 rw [if_pos c3] at H
 have c3b0 : decide (0 < (l0.length : Int)) = true := decide_eq_true c3
 have c3b1 : decide (0 < l0.length) = true := decide_eq_true (by omega)
 clear c3
 by_cases c4 : ((rd_T29 l0 0).f0) = 0
 · rw [if_pos c4] at H
   exact absurd H (by simp)
 · rw [if_neg c4] at H
   have c4b0 : (((rd_T29 l0 0).f0) == 0) = false := beq_eq_false_iff_ne.mpr c4
   have c4b1 : (((rd_T29 l0 0).f0) != 0) = true := bne_iff_ne.mpr c4
   replace H := Option.bind_eq_some_iff.mp H
   obtain ⟨t142, A50, H⟩ := H
   replace H : ((spec_l17Index.f l0 (Int.tmod a1 ((rd_T29 l0 0).f0)) (wrap64 ((wrap64 (Int.tdiv a1 ((rd_T29 l0 0).f0))) + 1))).bind fun t143 => ((spec_l17Index.f l0 (wrap64 ((Int.tmod a1 ((rd_T29 l0 0).f0)) - 1)) (wrap64 (Int.tdiv a1 ((rd_T29 l0 0).f0)))).bind fun t144 => ((spec_l17Index.f l0 (Int.tmod a1 ((rd_T29 l0 0).f0)) (wrap64 ((wrap64 (Int.tdiv a1 ((rd_T29 l0 0).f0))) - 1))).bind fun t145 => (some (([t142, t143, t144, t145] : List Int)))))) = some r := H
   have A5 := mkA A50
   clear A50
   replace H := Option.bind_eq_some_iff.mp H
   obtain ⟨t143, A60, H⟩ := H
   replace H : ((spec_l17Index.f l0 (wrap64 ((Int.tmod a1 ((rd_T29 l0 0).f0)) - 1)) (wrap64 (Int.tdiv a1 ((rd_T29 l0 0).f0)))).bind fun t144 => ((spec_l17Index.f l0 (Int.tmod a1 ((rd_T29 l0 0).f0)) (wrap64 ((wrap64 (Int.tdiv a1 ((rd_T29 l0 0).f0))) - 1))).bind fun t145 => (some (([t142, t143, t144, t145] : List Int))))) = some r := H
   have A6 := mkA A60
   clear A60
   replace H := Option.bind_eq_some_iff.mp H
   obtain ⟨t144, A70, H⟩ := H
   replace H : ((spec_l17Index.f l0 (Int.tmod a1 ((rd_T29 l0 0).f0)) (wrap64 ((wrap64 (Int.tdiv a1 ((rd_T29 l0 0).f0))) - 1))).bind fun t145 => (some (([t142, t143, t144, t145] : List Int)))) = some r := H
   have A7 := mkA A70
   clear A70
   replace H := Option.bind_eq_some_iff.mp H
   obtain ⟨t145, A80, H⟩ := H
   replace H : (some (([t142, t143, t144, t145] : List Int))) = some r := H
   have A8 := mkA A80
   clear A80
   obtain ⟨y146, hy146⟩ : ∃ y_ : List Int, y_ = (([t142, t143, t144, t145] : List Int)) := ⟨_, rfl⟩
   replace H : (some y146) = some r := by first | (rw [hy146]; with_reducible exact H) | (have H2_ := (Option.bind_some _ _).symm.trans H; rw [hy146]; with_reducible exact H2_) | (have H2_ := (Option.bind_some _ _).symm.trans H; with_reducible exact H2_) | with_reducible exact H | (rw [hy146]; exact H) | exact H
   have Ny146 := mkA hy146
   clear hy146
   obtain rfl := Option.some.inj H
   have p140 : 0 ≤ (0 : Int) := (by omega)
   have q140 : 0 < (l0.length : Int) := dt_
   obtain ⟨ad140, A140_2, c140_2, e140, hx140_0, hx140_1, hx140_2, hl140_2, hi140_2⟩ := at0_T29 HR0.out q140
   cases e140
   have qi140 : (0 < l0.length) = True := eq_true (by omega)
   have HR140_2 := mkA hi140_2
   have HC140_2 := mkA hl140_2
   clear hi140_2 hl140_2
   replace p140 := eq_true p140
   replace q140 := eq_true q140
   have p141 : 0 ≤ (0 : Int) := (by omega)
   have q141 : 0 < (l0.length : Int) := dt_
   obtain ⟨ad141, A141_2, c141_2, e141, hx141_0, hx141_1, hx141_2, hl141_2, hi141_2⟩ := at0_T29 HR0.out q141
   obtain rfl : ad140 = ad141 := (by injection e141)
   have qi141 : (0 < l0.length) = True := eq_true (by omega)
   have HR141_2 := mkA hi141_2
   have HC141_2 := mkA hl141_2
   clear hi141_2 hl141_2
   replace p141 := eq_true p141
   replace q141 := eq_true q141
   have ea_ := Option.some.inj (hx140_2.symm.trans hx141_2)
   injection ea_ with ea_ en_ ec_
   subst ea_
   subst ec_
   clear en_
   go_enter Try.func100, Try.ntmps100
   go_wp2_with (first | ((with_reducible refine gate_callee (f := 62) rfl ?_); refine goesL_ (some 23) rfl rfl Try.func62 (by kernel_rfl) rfl #[.pointer (some ad140), .int .i64 (wrap64 ((Int.tmod a1 ((rd_T29 l0 0).f0)) + 1)), .int .i64 (wrap64 (Int.tdiv a1 ((rd_T29 l0 0).f0)))] rfl (by (try simp only [List.map_toArray, List.map_cons, List.map_nil]); first | done | rfl | (simp only [List.length_drop, List.length_take]; rfl)) ?_; (with_reducible refine (spec_l17Index.calls _ l0 (wrap64 ((Int.tmod a1 ((rd_T29 l0 0).f0)) + 1)) (wrap64 (Int.tdiv a1 ((rd_T29 l0 0).f0))) t142 _ ?side1 A5.out).mono ?_); (case side1 => repeat (first | exact HR0.out | (with_reducible refine Kd.C_alloc ?_ _) | (with_reducible refine Kd.C_drewN ?_ _) | (with_reducible refine Kd.C_drew ?_))); rintro e w' ⟨rfl, ⟨nd, rfl⟩⟩; refine ⟨_, rfl, ?_⟩) | ((with_reducible refine gate_callee (f := 62) rfl ?_); refine goesL_ (some 28) rfl rfl Try.func62 (by kernel_rfl) rfl #[.pointer (some ad140), .int .i64 (Int.tmod a1 ((rd_T29 l0 0).f0)), .int .i64 (wrap64 ((wrap64 (Int.tdiv a1 ((rd_T29 l0 0).f0))) + 1))] rfl (by (try simp only [List.map_toArray, List.map_cons, List.map_nil]); first | done | rfl | (simp only [List.length_drop, List.length_take]; rfl)) ?_; (with_reducible refine (spec_l17Index.calls _ l0 (Int.tmod a1 ((rd_T29 l0 0).f0)) (wrap64 ((wrap64 (Int.tdiv a1 ((rd_T29 l0 0).f0))) + 1)) t143 _ ?side1 A6.out).mono ?_); (case side1 => repeat (first | exact HR0.out | (with_reducible refine Kd.C_alloc ?_ _) | (with_reducible refine Kd.C_drewN ?_ _) | (with_reducible refine Kd.C_drew ?_))); rintro e w' ⟨rfl, ⟨nd, rfl⟩⟩; refine ⟨_, rfl, ?_⟩) | ((with_reducible refine gate_callee (f := 62) rfl ?_); refine goesL_ (some 33) rfl rfl Try.func62 (by kernel_rfl) rfl #[.pointer (some ad140), .int .i64 (wrap64 ((Int.tmod a1 ((rd_T29 l0 0).f0)) - 1)), .int .i64 (wrap64 (Int.tdiv a1 ((rd_T29 l0 0).f0)))] rfl (by (try simp only [List.map_toArray, List.map_cons, List.map_nil]); first | done | rfl | (simp only [List.length_drop, List.length_take]; rfl)) ?_; (with_reducible refine (spec_l17Index.calls _ l0 (wrap64 ((Int.tmod a1 ((rd_T29 l0 0).f0)) - 1)) (wrap64 (Int.tdiv a1 ((rd_T29 l0 0).f0))) t144 _ ?side1 A7.out).mono ?_); (case side1 => repeat (first | exact HR0.out | (with_reducible refine Kd.C_alloc ?_ _) | (with_reducible refine Kd.C_drewN ?_ _) | (with_reducible refine Kd.C_drew ?_))); rintro e w' ⟨rfl, ⟨nd, rfl⟩⟩; refine ⟨_, rfl, ?_⟩) | ((with_reducible refine gate_callee (f := 62) rfl ?_); refine goesL_ (some 38) rfl rfl Try.func62 (by kernel_rfl) rfl #[.pointer (some ad140), .int .i64 (Int.tmod a1 ((rd_T29 l0 0).f0)), .int .i64 (wrap64 ((wrap64 (Int.tdiv a1 ((rd_T29 l0 0).f0))) - 1))] rfl (by (try simp only [List.map_toArray, List.map_cons, List.map_nil]); first | done | rfl | (simp only [List.length_drop, List.length_take]; rfl)) ?_; (with_reducible refine (spec_l17Index.calls _ l0 (Int.tmod a1 ((rd_T29 l0 0).f0)) (wrap64 ((wrap64 (Int.tdiv a1 ((rd_T29 l0 0).f0))) - 1)) t145 _ ?side1 A8.out).mono ?_); (case side1 => repeat (first | exact HR0.out | (with_reducible refine Kd.C_alloc ?_ _) | (with_reducible refine Kd.C_drewN ?_ _) | (with_reducible refine Kd.C_drew ?_))); rintro e w' ⟨rfl, ⟨nd, rfl⟩⟩; refine ⟨_, rfl, ?_⟩) | ((with_reducible refine gate_dst (N := 39) rfl ?_); refine Kd.R_lit (Kd.int .i64) _ 2 ?hg (N := 39) ?hd (xs := ([t142, t143, t144, t145] : List Int)) (inner := [.int .i64 t142, .int .i64 t143, .int .i64 t144, .int .i64 t145]) (ok := fun _ => True) (okp := fun _ => True) ?hr ?hp (fun _ hk => hk) trivial (Below.refl _ _) (Nat.le_refl _) (by simp) ?_; (case hd => rfl); (case hg => rfl); (case hr => first | (go_simp; done) | (go_simp; rfl)); (case hp => exact (Reps.one (show Kd.M (Kd.int .i64) _ _ _ t142 [.int .i64 t142] from rfl) (Reps.one (show Kd.M (Kd.int .i64) _ _ _ t143 [.int .i64 t143] from rfl) (Reps.one (show Kd.M (Kd.int .i64) _ _ _ t144 [.int .i64 t144] from rfl) (Reps.one (show Kd.M (Kd.int .i64) _ _ _ t145 [.int .i64 t145] from rfl) (Reps.none _ _)))))); intro v147 w9 ho10 hb hg_ hnew_; clear hg_ hnew_; (first | rw [← Ny146.out] at ho10 | (simp only [Int.reduceToNat] at ho10; rw [← Ny146.out] at ho10)); have n0_ := mkA (Kd.R_lower ho10 (below_size (bs0_ HB.out))); have n1_ := mkA (below_step (bs0_ HB.out) hb); clear HB; have HO148 := n0_; have HB := n1_; clear n0_ n1_; clear hb ho10))
   go_ret
   exact ⟨_, by first | rfl | (simp [errW_none, errW_some] <;> rfl) | (simp [*, errW_none, errW_some] <;> rfl), by (with_reducible repeat (first | apply Kd.R_alloc | apply Kd.R_drewN | apply Kd.R_drew)); exact HO148.out, by repeat (first | (with_reducible first | exact HB.out | apply below_alloc | apply pw_below_drewN | apply below_drew1) | exact HB.out)⟩
end Go.Proofs.Ytnidibnhojedoaa.GFnExactSymmetriesOf

-- Written by the session's own program (gen.py) out of the translation's print. Lean checks it.
import Derived.Test.YtdmiihpblfkamaaGFnShadesx0
import Derived.Test.YtdmiihpblfkamaaGFnShadesx1
namespace Go.Proofs.Ytdmiihpblfkamaa.GFnShades
open Go.RowKit Go.Proofs.YtdmiihpblfkamaaW.PrintWords Go.Proofs.YtdmiihpblfkamaaW.PrintLast Go.Proofs.YtdmiihpblfkamaaW.PrintMore
attribute [local go_sem] max2_int min2_int max_two min_two max_three min_three max_four min_four   -- for this text's walks alone
set_option linter.unusedVariables false
set_option linter.unusedSimpArgs false

/-! ### laws_r8At: function 28 -/
def laws_r8At.f (l0 : List Int) (a1 : Int) (a2 : Int) : Option (Int) := if a2 ≤ 1 then (some 0) else (if a1 ≥ (l0.length : Int) then (some 0) else (if 0 ≤ a1 then (if a1 < (l0.length : Int) then (if a2 = 0 then (none) else (some (Int.tmod (wrap64 (rd l0 a1)) a2))) else (none)) else (none)))
set_option maxHeartbeats 8000000 in
set_option maxRecDepth 100000 in
theorem laws_r8At.calls (A0 : Option Addr) (c0 : Nat) (l0 : List Int) (a1 : Int) (a2 : Int) (r : Int) (w : World) (hr0 : Kd.C (Kd.int .u8) w A0 l0.length l0) (hc0 : l0.length ≤ c0) (h : laws_r8At.f l0 a1 a2 = some r) :
    Calls Try.prog 28 #[.slice A0 l0.length c0, .int .i64 a1, .int .i64 a2] w fun e w' => e = .returned (.int .i64 r) ∧ Drawn0 w w' := by
  have HR0 := Aside0.mk hr0
  have HC0 := Aside0.mk hc0
  clear hr0 hc0
  have H : (if a2 ≤ 1 then (some 0) else (if a1 ≥ (l0.length : Int) then (some 0) else (if 0 ≤ a1 then (if a1 < (l0.length : Int) then (if a2 = 0 then (none) else (some (Int.tmod (wrap64 (rd l0 a1)) a2))) else (none)) else (none)))) = some r := h
  clear h
  by_cases c4 : a2 ≤ 1
  · rw [if_pos c4] at H
    have c4b0 : decide (a2 ≤ 1) = true := decide_eq_true c4
    clear c4
    obtain rfl := Option.some.inj H
    go_enter Try.func28, Try.ntmps28
    go_wp2
    go_ret
    exact ⟨by first | rfl | (simp; done) | (simp [*]; done), by repeat (first | exact Drawn0.refl _ | apply Drawn0.step)⟩
  · rw [if_neg c4] at H
    have c4b0 : decide (a2 ≤ 1) = false := decide_eq_false c4
    clear c4
    by_cases c5 : a1 ≥ (l0.length : Int)
    · rw [if_pos c5] at H
      have c5b0 : decide ((l0.length : Int) ≤ a1) = true := decide_eq_true c5
      clear c5
      obtain rfl := Option.some.inj H
      go_enter Try.func28, Try.ntmps28
      go_wp2
      go_ret
      exact ⟨by first | rfl | (simp; done) | (simp [*]; done), by repeat (first | exact Drawn0.refl _ | apply Drawn0.step)⟩
    · rw [if_neg c5] at H
      have c5b0 : decide ((l0.length : Int) ≤ a1) = false := decide_eq_false c5
      clear c5
      by_cases c6 : 0 ≤ a1
      · rw [if_pos c6] at H
        have c6b0 : decide (0 ≤ a1) = true := decide_eq_true c6
        clear c6
        by_cases c7 : a1 < (l0.length : Int)
        · rw [if_pos c7] at H
          have c7b0 : decide (a1 < (l0.length : Int)) = true := decide_eq_true c7
          clear c7
          by_cases c8 : a2 = 0
          · rw [if_pos c8] at H
            exact absurd H (by simp)
          · rw [if_neg c8] at H
            have c8b0 : (a2 == 0) = false := beq_eq_false_iff_ne.mpr c8
            have c8b1 : (a2 != 0) = true := bne_iff_ne.mpr c8
            obtain rfl := Option.some.inj H
            have p141 : 0 ≤ (a1 : Int) := of_decide_eq_true (by first | (with_reducible assumption) | assumption)
            have q141 : a1 < (l0.length : Int) := of_decide_eq_true (by first | (with_reducible assumption) | assumption)
            obtain ⟨ad141, e141, hx141_0⟩ := Kd.at_int HR0.out a1 p141 q141
            cases e141
            replace p141 := eq_true p141
            replace q141 := eq_true q141
            go_enter Try.func28, Try.ntmps28
            go_wp2
            go_ret
            exact ⟨by first | rfl | (simp; done) | (simp [*]; done), by repeat (first | exact Drawn0.refl _ | apply Drawn0.step)⟩
        · rw [if_neg c7] at H
          exact absurd H (by simp)
      · rw [if_neg c6] at H
        exact absurd H (by simp)

/-! ### laws_r8Wide: function 27 -/
def laws_r8Wide.f (l0 : List Int) (a1 : Int) (a2 : Int) : Option (Int) := (laws_r8At.f l0 a1 256).bind fun t142 => ((laws_r8At.f l0 (wrap64 (a1 + 1)) 256).bind fun t143 => (if a2 = 0 then (none) else (some (Int.tmod (wrap64 ((wrap64 (256 * t142)) + t143)) a2))))
set_option maxHeartbeats 8000000 in
set_option maxRecDepth 100000 in
theorem laws_r8Wide.calls (A0 : Option Addr) (c0 : Nat) (l0 : List Int) (a1 : Int) (a2 : Int) (r : Int) (w : World) (hr0 : Kd.C (Kd.int .u8) w A0 l0.length l0) (hc0 : l0.length ≤ c0) (h : laws_r8Wide.f l0 a1 a2 = some r) :
    Calls Try.prog 27 #[.slice A0 l0.length c0, .int .i64 a1, .int .i64 a2] w fun e w' => e = .returned (.int .i64 r) ∧ Drawn0 w w' := by
  have HR0 := Aside0.mk hr0
  have HC0 := Aside0.mk hc0
  clear hr0 hc0
  have H : ((laws_r8At.f l0 a1 256).bind fun t142 => ((laws_r8At.f l0 (wrap64 (a1 + 1)) 256).bind fun t143 => (if a2 = 0 then (none) else (some (Int.tmod (wrap64 ((wrap64 (256 * t142)) + t143)) a2))))) = some r := h
  clear h
  replace H := Option.bind_eq_some_iff.mp H
  obtain ⟨t142, A40, H⟩ := H
  replace H : ((laws_r8At.f l0 (wrap64 (a1 + 1)) 256).bind fun t143 => (if a2 = 0 then (none) else (some (Int.tmod (wrap64 ((wrap64 (256 * t142)) + t143)) a2)))) = some r := H
  have A4 := Aside0.mk A40
  clear A40
  replace H := Option.bind_eq_some_iff.mp H
  obtain ⟨t143, A50, H⟩ := H
  replace H : (if a2 = 0 then (none) else (some (Int.tmod (wrap64 ((wrap64 (256 * t142)) + t143)) a2))) = some r := H
  have A5 := Aside0.mk A50
  clear A50
  by_cases c6 : a2 = 0
  · rw [if_pos c6] at H
    exact absurd H (by simp)
  · rw [if_neg c6] at H
    have c6b0 : (a2 == 0) = false := beq_eq_false_iff_ne.mpr c6
    have c6b1 : (a2 != 0) = true := bne_iff_ne.mpr c6
    obtain rfl := Option.some.inj H
    go_enter Try.func27, Try.ntmps27
    go_wp2_with (first | ((with_reducible refine gate_callee (f := 28) rfl ?_); refine goesL_ (some 9) rfl rfl Try.func28 (by kernel_rfl) rfl #[.slice A0 l0.length c0, .int .i64 a1, .int .i64 256] rfl (by (try simp only [List.map_toArray, List.map_cons, List.map_nil]); first | done | rfl | (simp only [List.length_drop, List.length_take]; rfl)) ?_; (with_reducible refine (laws_r8At.calls _ _ l0 a1 256 t142 _ ?side1 ?side2 A4.out).mono ?_); (case side1 => repeat (first | exact HR0.out | (with_reducible refine Kd.C_alloc ?_ _) | (with_reducible refine Kd.C_drewN ?_ _) | (with_reducible refine Kd.C_drew ?_))); (case side2 => exact HC0.out); rintro e w' ⟨rfl, ⟨nd, rfl⟩⟩; refine ⟨_, rfl, ?_⟩) | ((with_reducible refine gate_callee (f := 28) rfl ?_); refine goesL_ (some 14) rfl rfl Try.func28 (by kernel_rfl) rfl #[.slice A0 l0.length c0, .int .i64 (wrap64 (a1 + 1)), .int .i64 256] rfl (by (try simp only [List.map_toArray, List.map_cons, List.map_nil]); first | done | rfl | (simp only [List.length_drop, List.length_take]; rfl)) ?_; (with_reducible refine (laws_r8At.calls _ _ l0 (wrap64 (a1 + 1)) 256 t143 _ ?side1 ?side2 A5.out).mono ?_); (case side1 => repeat (first | exact HR0.out | (with_reducible refine Kd.C_alloc ?_ _) | (with_reducible refine Kd.C_drewN ?_ _) | (with_reducible refine Kd.C_drew ?_))); (case side2 => exact HC0.out); rintro e w' ⟨rfl, ⟨nd, rfl⟩⟩; refine ⟨_, rfl, ?_⟩))
    go_ret
    exact ⟨by first | rfl | (simp; done) | (simp [*]; done), by repeat (first | exact Drawn0.refl _ | apply Drawn0.step)⟩

/-! ### laws_FnShades: function 8 -/
mutual
def laws_FnShades.j0 : Nat → ByteArray → Int → Int → Int → Int → Bool → Option (Bool)
  | 0, _, _, _, _, _, _ => none
  | k + 1, x5, x6, x12, x13, x14, x69 => if x69 = true then (some false) else (if x14 = 0 then ((impl_SandGain.f x5 x6 x13).bind fun bt157 => (if bt157.2 = 0 then (laws_FnShades.j1 k x5 x6 x12 x13 (decide (bt157.1 < x12))) else (laws_FnShades.j1 k x5 x6 x12 x13 true))) else ((impl_SandGain.f x5 x6 600).bind fun bt155 => (if x14 = 6 then (if bt155.2 = 0 then (some (decide (bt155.1 < x12))) else (some false)) else (some false))))
def laws_FnShades.j1 : Nat → ByteArray → Int → Int → Int → Bool → Option (Bool)
  | 0, _, _, _, _, _ => none
  | k + 1, x5, x6, x12, x13, x102 => if x102 = true then (some false) else (if x13 = 0 then (some true) else ((impl_SandGain.f x5 x6 (wrap64 (x13 - 1))).bind fun bt159 => (if bt159.2 = 0 then (some (decide (bt159.1 < x12))) else (some false))))
end
def laws_FnShades.f (k : Nat) (l0 : List Int) (l1 : List Int) : Option (Bool) := (laws_r8Long.f l0 l1).bind fun t144 => (if t144 = true then (some true) else ((spec_R8Species.f l0).bind fun t145 => ((laws_r8Wide.f l1 0 201).bind fun t146 => ((laws_r8Wide.f l1 2 600).bind fun t147 => ((impl_SandGain.f t145 (wrap64 (100 + t146)) t147).bind fun bt148 => ((impl_SandGain.f t145 (wrap64 (100 + t146)) (wrap64 (t147 + 1))).bind fun bt150 => ((laws_r8At.f l1 4 80).bind fun t152 => ((impl_SandTime.f k t145 (wrap64 (100 + t146)) t152).bind fun bt153 => (if bt148.2 = 0 then (if bt150.2 = 0 then (if bt148.1 < 0 then (laws_FnShades.j0 k t145 (wrap64 (100 + t146)) t152 bt153.1 bt153.2 true) else (laws_FnShades.j0 k t145 (wrap64 (100 + t146)) t152 bt153.1 bt153.2 (decide (bt150.1 < bt148.1)))) else (laws_FnShades.j0 k t145 (wrap64 (100 + t146)) t152 bt153.1 bt153.2 true)) else (laws_FnShades.j0 k t145 (wrap64 (100 + t146)) t152 bt153.1 bt153.2 true))))))))))
theorem laws_FnShades.mono_l : ∀ k, (∀ y0 y1 y2 y3 y4 y5, LeO (laws_FnShades.j0 k y0 y1 y2 y3 y4 y5) (laws_FnShades.j0 (k + 1) y0 y1 y2 y3 y4 y5)) ∧ (∀ y0 y1 y2 y3 y4, LeO (laws_FnShades.j1 k y0 y1 y2 y3 y4) (laws_FnShades.j1 (k + 1) y0 y1 y2 y3 y4))
  | 0 => ⟨fun _ _ _ _ _ _ r h => by simp [laws_FnShades.j0] at h, fun _ _ _ _ _ r h => by simp [laws_FnShades.j1] at h⟩
  | k + 1 => by
    obtain ⟨ih0, ih1⟩ := laws_FnShades.mono_l k
    refine ⟨?_, ?_⟩
    · intro y0 y1 y2 y3 y4 y5
      unfold laws_FnShades.j0
      repeat' first
      | (with_reducible exact ih0 _ _ _ _ _ _)
      | (with_reducible exact ih1 _ _ _ _ _)
      | (with_reducible exact impl_SandTime.mono _ _ _ _)
      | (with_reducible exact LeO.refl _)
      | (with_reducible exact LeO.none _)
      | (with_reducible refine LeO.ite ?_ ?_)
      | (with_reducible refine LeO.bind ?_ (fun _ => ?_))
      | exact ih0 _ _ _ _ _ _
      | exact ih1 _ _ _ _ _
      | exact impl_SandTime.mono _ _ _ _
      | exact LeO.none _
      | refine LeO.ite ?_ ?_
      | refine LeO.bind ?_ (fun _ => ?_)
    · intro y0 y1 y2 y3 y4
      unfold laws_FnShades.j1
      repeat' first
      | (with_reducible exact ih0 _ _ _ _ _ _)
      | (with_reducible exact ih1 _ _ _ _ _)
      | (with_reducible exact impl_SandTime.mono _ _ _ _)
      | (with_reducible exact LeO.refl _)
      | (with_reducible exact LeO.none _)
      | (with_reducible refine LeO.ite ?_ ?_)
      | (with_reducible refine LeO.bind ?_ (fun _ => ?_))
      | exact ih0 _ _ _ _ _ _
      | exact ih1 _ _ _ _ _
      | exact impl_SandTime.mono _ _ _ _
      | exact LeO.none _
      | refine LeO.ite ?_ ?_
      | refine LeO.bind ?_ (fun _ => ?_)
theorem laws_FnShades.mono : ∀ a0 a1 k, LeO (laws_FnShades.f k a0 a1) (laws_FnShades.f (k + 1) a0 a1) := by
  intro a0 a1 k
  obtain ⟨ih0, ih1⟩ := laws_FnShades.mono_l k
  unfold laws_FnShades.f
  repeat' first
      | (with_reducible exact ih0 _ _ _ _ _ _)
      | (with_reducible exact ih1 _ _ _ _ _)
      | (with_reducible exact impl_SandTime.mono _ _ _ _)
      | (with_reducible exact LeO.refl _)
      | (with_reducible exact LeO.none _)
      | (with_reducible refine LeO.ite ?_ ?_)
      | (with_reducible refine LeO.bind ?_ (fun _ => ?_))
      | exact ih0 _ _ _ _ _ _
      | exact ih1 _ _ _ _ _
      | exact impl_SandTime.mono _ _ _ _
      | exact LeO.none _
      | refine LeO.ite ?_ ?_
      | refine LeO.bind ?_ (fun _ => ?_)
set_option maxHeartbeats 8000000 in
set_option maxRecDepth 100000 in
theorem laws_FnShades.calls (k : Nat) (A0 : Option Addr) (c0 : Nat) (l0 : List Int) (A1 : Option Addr) (c1 : Nat) (l1 : List Int) (r : Bool) (w : World) (hr0 : Kd.C (Kd.int .u8) w A0 l0.length l0) (hc0 : l0.length ≤ c0) (hr1 : Kd.C (Kd.int .u8) w A1 l1.length l1) (hc1 : l1.length ≤ c1) (h : laws_FnShades.f k l0 l1 = some r) :
    Calls Try.prog 8 #[.slice A0 l0.length c0, .slice A1 l1.length c1] w fun e w' => e = .returned (.bool r) ∧ Below w.heap.size w w' := by
  have HR0 := Aside0.mk hr0
  have HC0 := Aside0.mk hc0
  clear hr0 hc0
  have HR1 := Aside0.mk hr1
  have HC1 := Aside0.mk hc1
  clear hr1 hc1
  have HB := Aside0.mk (Below.refl w.heap.size w)
  have H : ((laws_r8Long.f l0 l1).bind fun t144 => (if t144 = true then (some true) else ((spec_R8Species.f l0).bind fun t145 => ((laws_r8Wide.f l1 0 201).bind fun t146 => ((laws_r8Wide.f l1 2 600).bind fun t147 => ((impl_SandGain.f t145 (wrap64 (100 + t146)) t147).bind fun bt148 => ((impl_SandGain.f t145 (wrap64 (100 + t146)) (wrap64 (t147 + 1))).bind fun bt150 => ((laws_r8At.f l1 4 80).bind fun t152 => ((impl_SandTime.f k t145 (wrap64 (100 + t146)) t152).bind fun bt153 => (if bt148.2 = 0 then (if bt150.2 = 0 then (if bt148.1 < 0 then (laws_FnShades.j0 k t145 (wrap64 (100 + t146)) t152 bt153.1 bt153.2 true) else (laws_FnShades.j0 k t145 (wrap64 (100 + t146)) t152 bt153.1 bt153.2 (decide (bt150.1 < bt148.1)))) else (laws_FnShades.j0 k t145 (wrap64 (100 + t146)) t152 bt153.1 bt153.2 true)) else (laws_FnShades.j0 k t145 (wrap64 (100 + t146)) t152 bt153.1 bt153.2 true))))))))))) = some r := h
  clear h
  replace H := Option.bind_eq_some_iff.mp H
  obtain ⟨t144, A30, H⟩ := H
  replace H : (if t144 = true then (some true) else ((spec_R8Species.f l0).bind fun t145 => ((laws_r8Wide.f l1 0 201).bind fun t146 => ((laws_r8Wide.f l1 2 600).bind fun t147 => ((impl_SandGain.f t145 (wrap64 (100 + t146)) t147).bind fun bt148 => ((impl_SandGain.f t145 (wrap64 (100 + t146)) (wrap64 (t147 + 1))).bind fun bt150 => ((laws_r8At.f l1 4 80).bind fun t152 => ((impl_SandTime.f k t145 (wrap64 (100 + t146)) t152).bind fun bt153 => (if bt148.2 = 0 then (if bt150.2 = 0 then (if bt148.1 < 0 then (laws_FnShades.j0 k t145 (wrap64 (100 + t146)) t152 bt153.1 bt153.2 true) else (laws_FnShades.j0 k t145 (wrap64 (100 + t146)) t152 bt153.1 bt153.2 (decide (bt150.1 < bt148.1)))) else (laws_FnShades.j0 k t145 (wrap64 (100 + t146)) t152 bt153.1 bt153.2 true)) else (laws_FnShades.j0 k t145 (wrap64 (100 + t146)) t152 bt153.1 bt153.2 true)))))))))) = some r := H
  have A3 := Aside0.mk A30
  clear A30
  by_cases c4 : t144 = true
  · subst c4
    have H1 : (some true) = some r := by rw [if_pos rfl] at H; exact H
    clear H
    have H := H1
    clear H1
    obtain rfl := Option.some.inj H
    go_enter Try.func8, Try.ntmps8
    go_wp2_with (first | ((with_reducible refine gate_callee (f := 25) rfl ?_); refine goesL_ (some 23) rfl rfl Try.func25 (by kernel_rfl) rfl #[.slice A0 l0.length c0, .slice A1 l1.length c1] rfl (by (try simp only [List.map_toArray, List.map_cons, List.map_nil]); first | done | rfl | (simp only [List.length_drop, List.length_take]; rfl)) ?_; (with_reducible refine (laws_r8Long.calls _ _ l0 _ _ l1 true _ ?side1 ?side2 ?side3 ?side4 A3.out).mono ?_); (case side1 => repeat (first | exact HR0.out | (with_reducible refine Kd.C_alloc ?_ _) | (with_reducible refine Kd.C_drewN ?_ _) | (with_reducible refine Kd.C_drew ?_))); (case side2 => exact HC0.out); (case side3 => repeat (first | exact HR1.out | (with_reducible refine Kd.C_alloc ?_ _) | (with_reducible refine Kd.C_drewN ?_ _) | (with_reducible refine Kd.C_drew ?_))); (case side4 => exact HC1.out); rintro e w' ⟨rfl, ⟨nd, rfl⟩⟩; refine ⟨_, rfl, ?_⟩))
    go_ret
    exact ⟨by first | rfl | (simp [errW_none, errW_some] <;> rfl) | (simp [*, errW_none, errW_some] <;> rfl), by repeat (first | (with_reducible first | exact HB.out | apply below_alloc | apply pw_below_drewN | apply below_drew1) | exact HB.out)⟩
  · replace c4 := Bool.eq_false_iff.mpr c4
    subst c4
    have H1 : ((spec_R8Species.f l0).bind fun t145 => ((laws_r8Wide.f l1 0 201).bind fun t146 => ((laws_r8Wide.f l1 2 600).bind fun t147 => ((impl_SandGain.f t145 (wrap64 (100 + t146)) t147).bind fun bt148 => ((impl_SandGain.f t145 (wrap64 (100 + t146)) (wrap64 (t147 + 1))).bind fun bt150 => ((laws_r8At.f l1 4 80).bind fun t152 => ((impl_SandTime.f k t145 (wrap64 (100 + t146)) t152).bind fun bt153 => (if bt148.2 = 0 then (if bt150.2 = 0 then (if bt148.1 < 0 then (laws_FnShades.j0 k t145 (wrap64 (100 + t146)) t152 bt153.1 bt153.2 true) else (laws_FnShades.j0 k t145 (wrap64 (100 + t146)) t152 bt153.1 bt153.2 (decide (bt150.1 < bt148.1)))) else (laws_FnShades.j0 k t145 (wrap64 (100 + t146)) t152 bt153.1 bt153.2 true)) else (laws_FnShades.j0 k t145 (wrap64 (100 + t146)) t152 bt153.1 bt153.2 true))))))))) = some r := by rw [if_neg (show ¬ (false = true) by decide)] at H; exact H
    clear H
    have H := H1
    clear H1
    replace H := Option.bind_eq_some_iff.mp H
    obtain ⟨t145, A50, H⟩ := H
    replace H : ((laws_r8Wide.f l1 0 201).bind fun t146 => ((laws_r8Wide.f l1 2 600).bind fun t147 => ((impl_SandGain.f t145 (wrap64 (100 + t146)) t147).bind fun bt148 => ((impl_SandGain.f t145 (wrap64 (100 + t146)) (wrap64 (t147 + 1))).bind fun bt150 => ((laws_r8At.f l1 4 80).bind fun t152 => ((impl_SandTime.f k t145 (wrap64 (100 + t146)) t152).bind fun bt153 => (if bt148.2 = 0 then (if bt150.2 = 0 then (if bt148.1 < 0 then (laws_FnShades.j0 k t145 (wrap64 (100 + t146)) t152 bt153.1 bt153.2 true) else (laws_FnShades.j0 k t145 (wrap64 (100 + t146)) t152 bt153.1 bt153.2 (decide (bt150.1 < bt148.1)))) else (laws_FnShades.j0 k t145 (wrap64 (100 + t146)) t152 bt153.1 bt153.2 true)) else (laws_FnShades.j0 k t145 (wrap64 (100 + t146)) t152 bt153.1 bt153.2 true)))))))) = some r := H
    have A5 := Aside0.mk A50
    clear A50
    replace H := Option.bind_eq_some_iff.mp H
    obtain ⟨t146, A60, H⟩ := H
    replace H : ((laws_r8Wide.f l1 2 600).bind fun t147 => ((impl_SandGain.f t145 (wrap64 (100 + t146)) t147).bind fun bt148 => ((impl_SandGain.f t145 (wrap64 (100 + t146)) (wrap64 (t147 + 1))).bind fun bt150 => ((laws_r8At.f l1 4 80).bind fun t152 => ((impl_SandTime.f k t145 (wrap64 (100 + t146)) t152).bind fun bt153 => (if bt148.2 = 0 then (if bt150.2 = 0 then (if bt148.1 < 0 then (laws_FnShades.j0 k t145 (wrap64 (100 + t146)) t152 bt153.1 bt153.2 true) else (laws_FnShades.j0 k t145 (wrap64 (100 + t146)) t152 bt153.1 bt153.2 (decide (bt150.1 < bt148.1)))) else (laws_FnShades.j0 k t145 (wrap64 (100 + t146)) t152 bt153.1 bt153.2 true)) else (laws_FnShades.j0 k t145 (wrap64 (100 + t146)) t152 bt153.1 bt153.2 true))))))) = some r := H
    have A6 := Aside0.mk A60
    clear A60
    replace H := Option.bind_eq_some_iff.mp H
    obtain ⟨t147, A70, H⟩ := H
    replace H : ((impl_SandGain.f t145 (wrap64 (100 + t146)) t147).bind fun bt148 => ((impl_SandGain.f t145 (wrap64 (100 + t146)) (wrap64 (t147 + 1))).bind fun bt150 => ((laws_r8At.f l1 4 80).bind fun t152 => ((impl_SandTime.f k t145 (wrap64 (100 + t146)) t152).bind fun bt153 => (if bt148.2 = 0 then (if bt150.2 = 0 then (if bt148.1 < 0 then (laws_FnShades.j0 k t145 (wrap64 (100 + t146)) t152 bt153.1 bt153.2 true) else (laws_FnShades.j0 k t145 (wrap64 (100 + t146)) t152 bt153.1 bt153.2 (decide (bt150.1 < bt148.1)))) else (laws_FnShades.j0 k t145 (wrap64 (100 + t146)) t152 bt153.1 bt153.2 true)) else (laws_FnShades.j0 k t145 (wrap64 (100 + t146)) t152 bt153.1 bt153.2 true)))))) = some r := H
    have A7 := Aside0.mk A70
    clear A70
    replace H := Option.bind_eq_some_iff.mp H
    obtain ⟨⟨t148, t149⟩, A80, H⟩ := H
    replace H : ((impl_SandGain.f t145 (wrap64 (100 + t146)) (wrap64 (t147 + 1))).bind fun bt150 => ((laws_r8At.f l1 4 80).bind fun t152 => ((impl_SandTime.f k t145 (wrap64 (100 + t146)) t152).bind fun bt153 => (if t149 = 0 then (if bt150.2 = 0 then (if t148 < 0 then (laws_FnShades.j0 k t145 (wrap64 (100 + t146)) t152 bt153.1 bt153.2 true) else (laws_FnShades.j0 k t145 (wrap64 (100 + t146)) t152 bt153.1 bt153.2 (decide (bt150.1 < t148)))) else (laws_FnShades.j0 k t145 (wrap64 (100 + t146)) t152 bt153.1 bt153.2 true)) else (laws_FnShades.j0 k t145 (wrap64 (100 + t146)) t152 bt153.1 bt153.2 true))))) = some r := H
    have A8 := Aside0.mk A80
    clear A80
    replace H := Option.bind_eq_some_iff.mp H
    obtain ⟨⟨t150, t151⟩, A90, H⟩ := H
    replace H : ((laws_r8At.f l1 4 80).bind fun t152 => ((impl_SandTime.f k t145 (wrap64 (100 + t146)) t152).bind fun bt153 => (if t149 = 0 then (if t151 = 0 then (if t148 < 0 then (laws_FnShades.j0 k t145 (wrap64 (100 + t146)) t152 bt153.1 bt153.2 true) else (laws_FnShades.j0 k t145 (wrap64 (100 + t146)) t152 bt153.1 bt153.2 (decide (t150 < t148)))) else (laws_FnShades.j0 k t145 (wrap64 (100 + t146)) t152 bt153.1 bt153.2 true)) else (laws_FnShades.j0 k t145 (wrap64 (100 + t146)) t152 bt153.1 bt153.2 true)))) = some r := H
    have A9 := Aside0.mk A90
    clear A90
    replace H := Option.bind_eq_some_iff.mp H
    obtain ⟨t152, A100, H⟩ := H
    replace H : ((impl_SandTime.f k t145 (wrap64 (100 + t146)) t152).bind fun bt153 => (if t149 = 0 then (if t151 = 0 then (if t148 < 0 then (laws_FnShades.j0 k t145 (wrap64 (100 + t146)) t152 bt153.1 bt153.2 true) else (laws_FnShades.j0 k t145 (wrap64 (100 + t146)) t152 bt153.1 bt153.2 (decide (t150 < t148)))) else (laws_FnShades.j0 k t145 (wrap64 (100 + t146)) t152 bt153.1 bt153.2 true)) else (laws_FnShades.j0 k t145 (wrap64 (100 + t146)) t152 bt153.1 bt153.2 true))) = some r := H
    have A10 := Aside0.mk A100
    clear A100
    replace H := Option.bind_eq_some_iff.mp H
    obtain ⟨⟨t153, t154⟩, A110, H⟩ := H
    replace H : (if t149 = 0 then (if t151 = 0 then (if t148 < 0 then (laws_FnShades.j0 k t145 (wrap64 (100 + t146)) t152 t153 t154 true) else (laws_FnShades.j0 k t145 (wrap64 (100 + t146)) t152 t153 t154 (decide (t150 < t148)))) else (laws_FnShades.j0 k t145 (wrap64 (100 + t146)) t152 t153 t154 true)) else (laws_FnShades.j0 k t145 (wrap64 (100 + t146)) t152 t153 t154 true)) = some r := H
    have A11 := Aside0.mk A110
    clear A110
    have HC12 := Aside0.mk H
    clear H
    go_enter Try.func8, Try.ntmps8
    go_upto_region 10 with (first | ((with_reducible refine gate_callee (f := 25) rfl ?_); refine goesL_ (some 23) rfl rfl Try.func25 (by kernel_rfl) rfl #[.slice A0 l0.length c0, .slice A1 l1.length c1] rfl (by (try simp only [List.map_toArray, List.map_cons, List.map_nil]); first | done | rfl | (simp only [List.length_drop, List.length_take]; rfl)) ?_; (with_reducible refine (laws_r8Long.calls _ _ l0 _ _ l1 false _ ?side1 ?side2 ?side3 ?side4 A3.out).mono ?_); (case side1 => repeat (first | exact HR0.out | (with_reducible refine Kd.C_alloc ?_ _) | (with_reducible refine Kd.C_drewN ?_ _) | (with_reducible refine Kd.C_drew ?_))); (case side2 => exact HC0.out); (case side3 => repeat (first | exact HR1.out | (with_reducible refine Kd.C_alloc ?_ _) | (with_reducible refine Kd.C_drewN ?_ _) | (with_reducible refine Kd.C_drew ?_))); (case side4 => exact HC1.out); rintro e w' ⟨rfl, ⟨nd, rfl⟩⟩; refine ⟨_, rfl, ?_⟩) | ((with_reducible refine gate_callee (f := 26) rfl ?_); refine goesL_ (some 25) rfl rfl Try.func26 (by kernel_rfl) rfl #[.slice A0 l0.length c0] rfl (by (try simp only [List.map_toArray, List.map_cons, List.map_nil]); first | done | rfl | (simp only [List.length_drop, List.length_take]; rfl)) ?_; (with_reducible refine (spec_R8Species.calls _ _ l0 t145 _ ?side1 ?side2 A5.out).mono ?_); (case side1 => repeat (first | exact HR0.out | (with_reducible refine Kd.C_alloc ?_ _) | (with_reducible refine Kd.C_drewN ?_ _) | (with_reducible refine Kd.C_drew ?_))); (case side2 => exact HC0.out); rintro e w13 ⟨rfl, hb⟩; refine ⟨_, rfl, ?_⟩; have n0_ := Aside0.mk (below_step (by repeat (first | (with_reducible first | exact HB.out | apply below_alloc | apply pw_below_drewN | apply below_drew1) | exact HB.out)) hb); clear HB; have HB := n0_; clear n0_; (try clear hb); (try clear hb2); (try clear hk); (try clear hi)) | ((with_reducible refine gate_callee (f := 27) rfl ?_); refine goesL_ (some 27) rfl rfl Try.func27 (by kernel_rfl) rfl #[.slice A1 l1.length c1, .int .i64 0, .int .i64 201] rfl (by (try simp only [List.map_toArray, List.map_cons, List.map_nil]); first | done | rfl | (simp only [List.length_drop, List.length_take]; rfl)) ?_; (with_reducible refine (laws_r8Wide.calls _ _ l1 0 201 t146 _ ?side1 ?side2 A6.out).mono ?_); (case side1 => repeat (first | exact (Kd.C_below HR1.out HB.out) | (with_reducible refine Kd.C_alloc ?_ _) | (with_reducible refine Kd.C_drewN ?_ _) | (with_reducible refine Kd.C_drew ?_))); (case side2 => exact HC1.out); rintro e w' ⟨rfl, ⟨nd, rfl⟩⟩; refine ⟨_, rfl, ?_⟩) | ((with_reducible refine gate_callee (f := 27) rfl ?_); refine goesL_ (some 30) rfl rfl Try.func27 (by kernel_rfl) rfl #[.slice A1 l1.length c1, .int .i64 2, .int .i64 600] rfl (by (try simp only [List.map_toArray, List.map_cons, List.map_nil]); first | done | rfl | (simp only [List.length_drop, List.length_take]; rfl)) ?_; (with_reducible refine (laws_r8Wide.calls _ _ l1 2 600 t147 _ ?side1 ?side2 A7.out).mono ?_); (case side1 => repeat (first | exact (Kd.C_below HR1.out (by repeat (first | (with_reducible first | exact HB.out | apply below_alloc | apply pw_below_drewN | apply below_drew1) | exact HB.out))) | (with_reducible refine Kd.C_alloc ?_ _) | (with_reducible refine Kd.C_drewN ?_ _) | (with_reducible refine Kd.C_drew ?_))); (case side2 => exact HC1.out); rintro e w' ⟨rfl, ⟨nd, rfl⟩⟩; refine ⟨_, rfl, ?_⟩) | ((with_reducible refine gate_callee (f := 17) rfl ?_); refine goesL_ (some 35) rfl rfl Try.func17 (by kernel_rfl) rfl #[.string t145, .int .i64 (wrap64 (100 + t146)), .int .i64 t147] rfl (by (try simp only [List.map_toArray, List.map_cons, List.map_nil]); first | done | rfl | (simp only [List.length_drop, List.length_take]; rfl)) ?_; (with_reducible refine (impl_SandGain.calls t145 (wrap64 (100 + t146)) t147 t148 t149 _ A8.out).mono ?_); rintro e w' ⟨rfl, ⟨nd, rfl⟩⟩; refine ⟨_, rfl, ?_⟩) | ((with_reducible refine gate_callee (f := 17) rfl ?_); refine goesL_ (some 43) rfl rfl Try.func17 (by kernel_rfl) rfl #[.string t145, .int .i64 (wrap64 (100 + t146)), .int .i64 (wrap64 (t147 + 1))] rfl (by (try simp only [List.map_toArray, List.map_cons, List.map_nil]); first | done | rfl | (simp only [List.length_drop, List.length_take]; rfl)) ?_; (with_reducible refine (impl_SandGain.calls t145 (wrap64 (100 + t146)) (wrap64 (t147 + 1)) t150 t151 _ A9.out).mono ?_); rintro e w' ⟨rfl, ⟨nd, rfl⟩⟩; refine ⟨_, rfl, ?_⟩) | ((with_reducible refine gate_callee (f := 28) rfl ?_); refine goesL_ (some 47) rfl rfl Try.func28 (by kernel_rfl) rfl #[.slice A1 l1.length c1, .int .i64 4, .int .i64 80] rfl (by (try simp only [List.map_toArray, List.map_cons, List.map_nil]); first | done | rfl | (simp only [List.length_drop, List.length_take]; rfl)) ?_; (with_reducible refine (laws_r8At.calls _ _ l1 4 80 t152 _ ?side1 ?side2 A10.out).mono ?_); (case side1 => repeat (first | exact (Kd.C_below HR1.out (by repeat (first | (with_reducible first | exact HB.out | apply below_alloc | apply pw_below_drewN | apply below_drew1) | exact HB.out))) | (with_reducible refine Kd.C_alloc ?_ _) | (with_reducible refine Kd.C_drewN ?_ _) | (with_reducible refine Kd.C_drew ?_))); (case side2 => exact HC1.out); rintro e w' ⟨rfl, ⟨nd, rfl⟩⟩; refine ⟨_, rfl, ?_⟩) | ((with_reducible refine gate_callee (f := 19) rfl ?_); refine goesL_ (some 52) rfl rfl Try.func19 (by kernel_rfl) rfl #[.string t145, .int .i64 (wrap64 (100 + t146)), .int .i64 t152] rfl (by (try simp only [List.map_toArray, List.map_cons, List.map_nil]); first | done | rfl | (simp only [List.length_drop, List.length_take]; rfl)) ?_; (with_reducible refine (impl_SandTime.calls k t145 (wrap64 (100 + t146)) t152 t153 t154 _ A11.out).mono ?_); rintro e w' ⟨rfl, ⟨nd, rfl⟩⟩; refine ⟨_, rfl, ?_⟩))
    (try simp only [Act.put, List.setIfInBounds_toArray, List.set_cons_zero, List.set_cons_succ])
    go_cut [69] (fun v69 wc => ∃ (kq : Nat) (x69_11 : Bool), v69 = .bool x69_11 ∧ Aside0 (laws_FnShades.j0 kq t145 (wrap64 (100 + t146)) t152 t153 t154 x69_11 = some r) ∧ Aside0 (kq ≤ k) ∧ Aside0 (Below w.heap.size w wc))
    case first =>
      have H := HC12.out
      clear HC12
      by_cases c14 : t149 = 0
      · rw [if_pos c14] at H
        have c14b0 : (t149 == 0) = true := beq_iff_eq.mpr c14
        have c14b1 : (t149 != 0) = false := bne_eq_false_iff_eq.mpr c14
        clear c14
        (first | rw [c14b0] | (simp only [i64_w, i32_w]; rw [c14b0]) | skip)
        by_cases c15 : t151 = 0
        · rw [if_pos c15] at H
          have c15b0 : (t151 == 0) = true := beq_iff_eq.mpr c15
          have c15b1 : (t151 != 0) = false := bne_eq_false_iff_eq.mpr c15
          clear c15
          by_cases c16 : t148 < 0
          · rw [if_pos c16] at H
            have c16b0 : decide (t148 < 0) = true := decide_eq_true c16
            clear c16
            have H' := Aside0.mk H
            clear H
            go_wp2
            go_meet
            case rel => exact ⟨_, (true), (by first | rfl | (simp; done) | (simp [*]; done)), H', ⟨by first | omega | exact Nat.le_refl _⟩, ⟨by repeat (first | (with_reducible first | exact HB.out | apply below_alloc | apply pw_below_drewN | apply below_drew1) | exact HB.out)⟩⟩
          · rw [if_neg c16] at H
            have c16b0 : decide (t148 < 0) = false := decide_eq_false c16
            clear c16
            have H' := Aside0.mk H
            clear H
            go_wp2
            go_meet
            case rel => exact ⟨_, (decide (t150 < t148)), (by first | rfl | (simp; done) | (simp [*]; done)), H', ⟨by first | omega | exact Nat.le_refl _⟩, ⟨by repeat (first | (with_reducible first | exact HB.out | apply below_alloc | apply pw_below_drewN | apply below_drew1) | exact HB.out)⟩⟩
        · rw [if_neg c15] at H
          have c15b0 : (t151 == 0) = false := beq_eq_false_iff_ne.mpr c15
          have c15b1 : (t151 != 0) = true := bne_iff_ne.mpr c15
          have H' := Aside0.mk H
          clear H
          go_wp2
          go_meet
          case rel => exact ⟨_, (true), (by first | rfl | (simp; done) | (simp [*]; done)), H', ⟨by first | omega | exact Nat.le_refl _⟩, ⟨by repeat (first | (with_reducible first | exact HB.out | apply below_alloc | apply pw_below_drewN | apply below_drew1) | exact HB.out)⟩⟩
      · rw [if_neg c14] at H
        have c14b0 : (t149 == 0) = false := beq_eq_false_iff_ne.mpr c14
        have c14b1 : (t149 != 0) = true := bne_iff_ne.mpr c14
        (first | rw [c14b0] | (simp only [i64_w, i32_w]; rw [c14b0]) | skip)
        have H' := Aside0.mk H
        clear H
        go_wp2
        go_meet
        case rel => exact ⟨_, (true), (by first | rfl | (simp; done) | (simp [*]; done)), H', ⟨by first | omega | exact Nat.le_refl _⟩, ⟨by repeat (first | (with_reducible first | exact HB.out | apply below_alloc | apply pw_below_drewN | apply below_drew1) | exact HB.out)⟩⟩
    case rest =>
      clear HC12
      try clear c1
      try clear c2
      try clear p2
      try clear c4
      try clear p6
      try clear c8
      try clear c14
      try clear c14b0
      try clear c14b1
      try clear c15
      try clear c15b0
      try clear c15b1
      try clear c16
      try clear c16b0
      obtain ⟨kq, x69_11, rfl, HA, HJ11, HB⟩ := hcut
      cases kq with
      | zero => exact absurd HA.out (by simp [laws_FnShades.j0])
      | succ kj11 =>
        have H := HA.out
        clear HA
        simp only [laws_FnShades.j0] at H
        by_cases c17 : x69_11 = true
        · subst c17
          have H1 : (some false) = some r := by rw [if_pos rfl] at H; exact H
          clear H
          have H := H1
          clear H1
          obtain rfl := Option.some.inj H
          go_wp2
          go_ret
          exact ⟨by first | rfl | (simp [errW_none, errW_some] <;> rfl) | (simp [*, errW_none, errW_some] <;> rfl), by repeat (first | (with_reducible first | exact HB.out | apply below_alloc | apply pw_below_drewN | apply below_drew1) | exact HB.out)⟩
        · replace c17 := Bool.eq_false_iff.mpr c17
          subst c17
          have H1 : (if t154 = 0 then ((impl_SandGain.f t145 (wrap64 (100 + t146)) t153).bind fun bt157 => (if bt157.2 = 0 then (laws_FnShades.j1 kj11 t145 (wrap64 (100 + t146)) t152 t153 (decide (bt157.1 < t152))) else (laws_FnShades.j1 kj11 t145 (wrap64 (100 + t146)) t152 t153 true))) else ((impl_SandGain.f t145 (wrap64 (100 + t146)) 600).bind fun bt155 => (if t154 = 6 then (if bt155.2 = 0 then (some (decide (bt155.1 < t152))) else (some false)) else (some false)))) = some r := by rw [if_neg (show ¬ (false = true) by decide)] at H; exact H
          clear H
          have H := H1
          clear H1
          by_cases c18 : t154 = 0
          · rw [if_pos c18] at H
            have c18b0 : (t154 == 0) = true := beq_iff_eq.mpr c18
            have c18b1 : (t154 != 0) = false := bne_eq_false_iff_eq.mpr c18
            clear c18
            replace H := Option.bind_eq_some_iff.mp H
            obtain ⟨⟨t157, t158⟩, A190, H⟩ := H
            replace H : (if t158 = 0 then (laws_FnShades.j1 kj11 t145 (wrap64 (100 + t146)) t152 t153 (decide (t157 < t152))) else (laws_FnShades.j1 kj11 t145 (wrap64 (100 + t146)) t152 t153 true)) = some r := H
            have A19 := Aside0.mk A190
            clear A190
            have HC20 := Aside0.mk H
            clear H
            go_upto_region 16 with (first | ((with_reducible refine gate_callee (f := 17) rfl ?_); refine goesL_ (some 93) rfl rfl Try.func17 (by kernel_rfl) rfl #[.string t145, .int .i64 (wrap64 (100 + t146)), .int .i64 t153] rfl (by (try simp only [List.map_toArray, List.map_cons, List.map_nil]); first | done | rfl | (simp only [List.length_drop, List.length_take]; rfl)) ?_; (with_reducible refine (impl_SandGain.calls t145 (wrap64 (100 + t146)) t153 t157 t158 _ A19.out).mono ?_); rintro e w' ⟨rfl, ⟨nd, rfl⟩⟩; refine ⟨_, rfl, ?_⟩))
            (try simp only [Act.put, List.setIfInBounds_toArray, List.set_cons_zero, List.set_cons_succ])
            go_cut [102] (fun v102 wc => ∃ (kq : Nat) (x102_19 : Bool), v102 = .bool x102_19 ∧ Aside0 (laws_FnShades.j1 kq t145 (wrap64 (100 + t146)) t152 t153 x102_19 = some r) ∧ Aside0 (kq ≤ kj11) ∧ Aside0 (Below w.heap.size w wc))
            case first =>
              have H := HC20.out
              clear HC20
              by_cases c21 : t158 = 0
              · rw [if_pos c21] at H
                have c21b0 : (t158 == 0) = true := beq_iff_eq.mpr c21
                have c21b1 : (t158 != 0) = false := bne_eq_false_iff_eq.mpr c21
                clear c21
                (first | rw [c21b0] | (simp only [i64_w, i32_w]; rw [c21b0]) | skip)
                have H' := Aside0.mk H
                clear H
                go_wp2
                go_meet
                case rel => exact ⟨_, (decide (t157 < t152)), (by first | rfl | (simp; done) | (simp [*]; done)), H', ⟨by have := HJ11.out; first | omega | exact Nat.le_refl _⟩, ⟨by repeat (first | (with_reducible first | exact HB.out | apply below_alloc | apply pw_below_drewN | apply below_drew1) | exact HB.out)⟩⟩
              · rw [if_neg c21] at H
                have c21b0 : (t158 == 0) = false := beq_eq_false_iff_ne.mpr c21
                have c21b1 : (t158 != 0) = true := bne_iff_ne.mpr c21
                (first | rw [c21b0] | (simp only [i64_w, i32_w]; rw [c21b0]) | skip)
                have H' := Aside0.mk H
                clear H
                go_wp2
                go_meet
                case rel => exact ⟨_, (true), (by first | rfl | (simp; done) | (simp [*]; done)), H', ⟨by have := HJ11.out; first | omega | exact Nat.le_refl _⟩, ⟨by repeat (first | (with_reducible first | exact HB.out | apply below_alloc | apply pw_below_drewN | apply below_drew1) | exact HB.out)⟩⟩
            case rest =>
              clear HC20
              try clear c1
              try clear c2
              try clear p2
              try clear c4
              try clear p6
              try clear c8
              try clear c14
              try clear c14b0
              try clear c14b1
              try clear c15
              try clear c15b0
              try clear c15b1
              try clear c16
              try clear c16b0
              try clear c17
              try clear c18
              try clear c18b0
              try clear c18b1
              try clear c19
              try clear c21
              try clear c21b0
              try clear c21b1
              try clear p2
              try clear p6
              obtain ⟨kq, x102_19, rfl, HA, HJ19, HB⟩ := hcut
              cases kq with
              | zero => exact absurd HA.out (by simp [laws_FnShades.j1])
              | succ kj19 =>
                have H := HA.out
                clear HA
                simp only [laws_FnShades.j1] at H
                by_cases c22 : x102_19 = true
                · subst c22
                  have H1 : (some false) = some r := by rw [if_pos rfl] at H; exact H
                  clear H
                  have H := H1
                  clear H1
                  obtain rfl := Option.some.inj H
                  go_wp2
                  go_ret
                  exact ⟨by first | rfl | (simp [errW_none, errW_some] <;> rfl) | (simp [*, errW_none, errW_some] <;> rfl), by repeat (first | (with_reducible first | exact HB.out | apply below_alloc | apply pw_below_drewN | apply below_drew1) | exact HB.out)⟩
                · replace c22 := Bool.eq_false_iff.mpr c22
                  subst c22
                  have H1 : (if t153 = 0 then (some true) else ((impl_SandGain.f t145 (wrap64 (100 + t146)) (wrap64 (t153 - 1))).bind fun bt159 => (if bt159.2 = 0 then (some (decide (bt159.1 < t152))) else (some false)))) = some r := by rw [if_neg (show ¬ (false = true) by decide)] at H; exact H
                  clear H
                  have H := H1
                  clear H1
                  by_cases c23 : t153 = 0
                  · rw [if_pos c23] at H
                    have c23b0 : (t153 == 0) = true := beq_iff_eq.mpr c23
                    have c23b1 : (t153 != 0) = false := bne_eq_false_iff_eq.mpr c23
                    clear c23
                    obtain rfl := Option.some.inj H
                    go_wp2
                    go_ret
                    exact ⟨by first | rfl | (simp [errW_none, errW_some] <;> rfl) | (simp [*, errW_none, errW_some] <;> rfl), by repeat (first | (with_reducible first | exact HB.out | apply below_alloc | apply pw_below_drewN | apply below_drew1) | exact HB.out)⟩
                  · rw [if_neg c23] at H
                    have c23b0 : (t153 == 0) = false := beq_eq_false_iff_ne.mpr c23
                    have c23b1 : (t153 != 0) = true := bne_iff_ne.mpr c23
                    replace H := Option.bind_eq_some_iff.mp H
                    obtain ⟨⟨t159, t160⟩, A240, H⟩ := H
                    replace H : (if t160 = 0 then (some (decide (t159 < t152))) else (some false)) = some r := H
                    have A24 := Aside0.mk A240
                    clear A240
                    by_cases c25 : t160 = 0
                    · rw [if_pos c25] at H
                      have c25b0 : (t160 == 0) = true := beq_iff_eq.mpr c25
                      have c25b1 : (t160 != 0) = false := bne_eq_false_iff_eq.mpr c25
                      clear c25
                      obtain rfl := Option.some.inj H
                      go_wp2_with (first | ((with_reducible refine gate_callee (f := 17) rfl ?_); refine goesL_ (some 110) rfl rfl Try.func17 (by kernel_rfl) rfl #[.string t145, .int .i64 (wrap64 (100 + t146)), .int .i64 (wrap64 (t153 - 1))] rfl (by (try simp only [List.map_toArray, List.map_cons, List.map_nil]); first | done | rfl | (simp only [List.length_drop, List.length_take]; rfl)) ?_; (with_reducible refine (impl_SandGain.calls t145 (wrap64 (100 + t146)) (wrap64 (t153 - 1)) t159 t160 _ A24.out).mono ?_); rintro e w' ⟨rfl, ⟨nd, rfl⟩⟩; refine ⟨_, rfl, ?_⟩))
                      go_ret
                      exact ⟨by first | rfl | (simp [errW_none, errW_some] <;> rfl) | (simp [*, errW_none, errW_some] <;> rfl), by repeat (first | (with_reducible first | exact HB.out | apply below_alloc | apply pw_below_drewN | apply below_drew1) | exact HB.out)⟩
                    · rw [if_neg c25] at H
                      have c25b0 : (t160 == 0) = false := beq_eq_false_iff_ne.mpr c25
                      have c25b1 : (t160 != 0) = true := bne_iff_ne.mpr c25
                      obtain rfl := Option.some.inj H
                      go_wp2_with (first | ((with_reducible refine gate_callee (f := 17) rfl ?_); refine goesL_ (some 110) rfl rfl Try.func17 (by kernel_rfl) rfl #[.string t145, .int .i64 (wrap64 (100 + t146)), .int .i64 (wrap64 (t153 - 1))] rfl (by (try simp only [List.map_toArray, List.map_cons, List.map_nil]); first | done | rfl | (simp only [List.length_drop, List.length_take]; rfl)) ?_; (with_reducible refine (impl_SandGain.calls t145 (wrap64 (100 + t146)) (wrap64 (t153 - 1)) t159 t160 _ A24.out).mono ?_); rintro e w' ⟨rfl, ⟨nd, rfl⟩⟩; refine ⟨_, rfl, ?_⟩))
                      go_ret
                      exact ⟨by first | rfl | (simp [errW_none, errW_some] <;> rfl) | (simp [*, errW_none, errW_some] <;> rfl), by repeat (first | (with_reducible first | exact HB.out | apply below_alloc | apply pw_below_drewN | apply below_drew1) | exact HB.out)⟩
          · rw [if_neg c18] at H
            have c18b0 : (t154 == 0) = false := beq_eq_false_iff_ne.mpr c18
            have c18b1 : (t154 != 0) = true := bne_iff_ne.mpr c18
            replace H := Option.bind_eq_some_iff.mp H
            obtain ⟨⟨t155, t156⟩, A260, H⟩ := H
            replace H : (if t154 = 6 then (if t156 = 0 then (some (decide (t155 < t152))) else (some false)) else (some false)) = some r := H
            have A26 := Aside0.mk A260
            clear A260
            by_cases c27 : t154 = 6
            · rw [if_pos c27] at H
              have c27b0 : (t154 == 6) = true := beq_iff_eq.mpr c27
              have c27b1 : (t154 != 6) = false := bne_eq_false_iff_eq.mpr c27
              clear c27
              by_cases c28 : t156 = 0
              · rw [if_pos c28] at H
                have c28b0 : (t156 == 0) = true := beq_iff_eq.mpr c28
                have c28b1 : (t156 != 0) = false := bne_eq_false_iff_eq.mpr c28
                clear c28
                obtain rfl := Option.some.inj H
                go_wp2_with (first | ((with_reducible refine gate_callee (f := 17) rfl ?_); refine goesL_ (some 75) rfl rfl Try.func17 (by kernel_rfl) rfl #[.string t145, .int .i64 (wrap64 (100 + t146)), .int .i64 600] rfl (by (try simp only [List.map_toArray, List.map_cons, List.map_nil]); first | done | rfl | (simp only [List.length_drop, List.length_take]; rfl)) ?_; (with_reducible refine (impl_SandGain.calls t145 (wrap64 (100 + t146)) 600 t155 t156 _ A26.out).mono ?_); rintro e w' ⟨rfl, ⟨nd, rfl⟩⟩; refine ⟨_, rfl, ?_⟩))
                go_ret
                exact ⟨by first | rfl | (simp [errW_none, errW_some] <;> rfl) | (simp [*, errW_none, errW_some] <;> rfl), by repeat (first | (with_reducible first | exact HB.out | apply below_alloc | apply pw_below_drewN | apply below_drew1) | exact HB.out)⟩
              · rw [if_neg c28] at H
                have c28b0 : (t156 == 0) = false := beq_eq_false_iff_ne.mpr c28
                have c28b1 : (t156 != 0) = true := bne_iff_ne.mpr c28
                obtain rfl := Option.some.inj H
                go_wp2_with (first | ((with_reducible refine gate_callee (f := 17) rfl ?_); refine goesL_ (some 75) rfl rfl Try.func17 (by kernel_rfl) rfl #[.string t145, .int .i64 (wrap64 (100 + t146)), .int .i64 600] rfl (by (try simp only [List.map_toArray, List.map_cons, List.map_nil]); first | done | rfl | (simp only [List.length_drop, List.length_take]; rfl)) ?_; (with_reducible refine (impl_SandGain.calls t145 (wrap64 (100 + t146)) 600 t155 t156 _ A26.out).mono ?_); rintro e w' ⟨rfl, ⟨nd, rfl⟩⟩; refine ⟨_, rfl, ?_⟩))
                go_ret
                exact ⟨by first | rfl | (simp [errW_none, errW_some] <;> rfl) | (simp [*, errW_none, errW_some] <;> rfl), by repeat (first | (with_reducible first | exact HB.out | apply below_alloc | apply pw_below_drewN | apply below_drew1) | exact HB.out)⟩
            · rw [if_neg c27] at H
              have c27b0 : (t154 == 6) = false := beq_eq_false_iff_ne.mpr c27
              have c27b1 : (t154 != 6) = true := bne_iff_ne.mpr c27
              obtain rfl := Option.some.inj H
              go_wp2_with (first | ((with_reducible refine gate_callee (f := 17) rfl ?_); refine goesL_ (some 75) rfl rfl Try.func17 (by kernel_rfl) rfl #[.string t145, .int .i64 (wrap64 (100 + t146)), .int .i64 600] rfl (by (try simp only [List.map_toArray, List.map_cons, List.map_nil]); first | done | rfl | (simp only [List.length_drop, List.length_take]; rfl)) ?_; (with_reducible refine (impl_SandGain.calls t145 (wrap64 (100 + t146)) 600 t155 t156 _ A26.out).mono ?_); rintro e w' ⟨rfl, ⟨nd, rfl⟩⟩; refine ⟨_, rfl, ?_⟩))
              go_ret
              exact ⟨by first | rfl | (simp [errW_none, errW_some] <;> rfl) | (simp [*, errW_none, errW_some] <;> rfl), by repeat (first | (with_reducible first | exact HB.out | apply below_alloc | apply pw_below_drewN | apply below_drew1) | exact HB.out)⟩

/-- THE ONE PURE STATEMENT of laws_FnShades: yours. -/
def laws_FnShades.Pure : Prop := ∀ (l0 : List Int) (l1 : List Int), l0.length ≤ maxLen → l0.length * 1 ≤ 140737488351232 → (∀ x ∈ l0, (Lit.int .u8 x).wf = true) → l1.length ≤ maxLen → l1.length * 1 ≤ 140737488351232 → (∀ x ∈ l1, (Lit.int .u8 x).wf = true) → ∃ k, laws_FnShades.f k l0 l1 = some true
theorem laws_FnShades.walk (P : laws_FnShades.Pure) (a0 : Option Addr) (len0 cap0 : Nat) (z0 : List Int) (a1 : Option Addr) (len1 cap1 : Nat) (z1 : List Int) (w : World) (w0 : (a0 = none ∧ len0 = 0 ∧ cap0 = 0 ∧ z0 = []) ∨ ∃ x, a0 = some x ∧ len0 ≤ cap0 ∧ cap0 ≤ maxLen ∧ z0.length = cap0 ∧ (∀ i, i < z0.length → w.cell? (x.add i) = some (.int .u8 (z0.getD i 0))) ∧ ∀ n ∈ z0, (Lit.int .u8 n).wf = true) (y0 : len0 * 1 ≤ 140737488351232) (w1 : (a1 = none ∧ len1 = 0 ∧ cap1 = 0 ∧ z1 = []) ∨ ∃ x, a1 = some x ∧ len1 ≤ cap1 ∧ cap1 ≤ maxLen ∧ z1.length = cap1 ∧ (∀ i, i < z1.length → w.cell? (x.add i) = some (.int .u8 (z1.getD i 0))) ∧ ∀ n ∈ z1, (Lit.int .u8 n).wf = true) (y1 : len1 * 1 ≤ 140737488351232) :
    Calls Try.prog 8 #[.slice a0 len0 cap0, .slice a1 len1 cap1] w fun e w' => e = .returned (.bool true) ∧ Below w.heap.size w w' := by
  obtain ⟨l0, rfl, hr0, hm0, hw0, hc0⟩ := ReadsInt.ofRowC w0
  obtain ⟨l1, rfl, hr1, hm1, hw1, hc1⟩ := ReadsInt.ofRowC w1
  obtain ⟨k, h⟩ := P l0 l1 hm0 y0 hw0 hm1 y1 hw1
  refine (laws_FnShades.calls k _ _ l0 _ _ l1 true w (Kd.C_of_reads (d := (0 : Int)) (h1 := fun _ => rfl) hr0) hc0 (Kd.C_of_reads (d := (0 : Int)) (h1 := fun _ => rfl) hr1) hc1 h).mono ?_
  rintro e w' ⟨rfl, hd⟩
  exact ⟨rfl, hd⟩

end Go.Proofs.Ytdmiihpblfkamaa.GFnShades

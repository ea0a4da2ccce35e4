-- Written by the session's own program (gen.py) out of the translation's print. Lean checks it.
import Derived.Test.YtopopjkoanpjiaaDoorGFnExactReadTilingx0
namespace Go.Proofs.YtopopjkoanpjiaaDoor.GFnExactReadTiling
open Go.RowKit Go.Proofs.YtopopjkoanpjiaaDoorW.PrintWords Go.Proofs.YtopopjkoanpjiaaDoorW.PrintLast Go.Proofs.YtopopjkoanpjiaaDoorW.PrintMore
attribute [local go_sem] max2_int min2_int max_two min_two max_three min_three max_four min_four   -- for this text's walks alone
set_option linter.unusedVariables false
set_option linter.unusedSimpArgs false

/-! ### spec_l17Index: function 59 -/
def spec_l17Index.f (l0 : List (S27)) (a1 : Int) (a2 : Int) : Option (Int) := if 0 < (l0.length : Int) then (if ((rd_T27 l0 0).f1) = 0 then (none) else (if ((rd_T27 l0 0).f0) = 0 then (none) else (some (wrap64 ((wrap64 ((Int.tmod (wrap64 ((Int.tmod a2 ((rd_T27 l0 0).f1)) + ((rd_T27 l0 0).f1))) ((rd_T27 l0 0).f1)) * ((rd_T27 l0 0).f0))) + (Int.tmod (wrap64 ((Int.tmod a1 ((rd_T27 l0 0).f0)) + ((rd_T27 l0 0).f0))) ((rd_T27 l0 0).f0))))))) else (none)
set_option maxHeartbeats 8000000 in
set_option maxRecDepth 100000 in
theorem spec_l17Index.calls (A0 : Option Addr) (l0 : List (S27)) (a1 : Int) (a2 : Int) (r : Int) (w : World) (hr0 : Kd.C k27 w A0 l0.length l0) (h : spec_l17Index.f l0 a1 a2 = some r) :
    Calls Tryd.prog 59 #[.pointer A0, .int .i64 a1, .int .i64 a2] w fun e w' => e = .returned (.int .i64 r) ∧ Drawn0 w w' := by
  have HR0 := Aside0.mk hr0
  clear hr0
  have H : (if 0 < (l0.length : Int) then (if ((rd_T27 l0 0).f1) = 0 then (none) else (if ((rd_T27 l0 0).f0) = 0 then (none) else (some (wrap64 ((wrap64 ((Int.tmod (wrap64 ((Int.tmod a2 ((rd_T27 l0 0).f1)) + ((rd_T27 l0 0).f1))) ((rd_T27 l0 0).f1)) * ((rd_T27 l0 0).f0))) + (Int.tmod (wrap64 ((Int.tmod a1 ((rd_T27 l0 0).f0)) + ((rd_T27 l0 0).f0))) ((rd_T27 l0 0).f0))))))) else (none)) = some r := h
  clear h
  by_cases c4 : 0 < (l0.length : Int)
  · rw [if_pos c4] at H
    have c4b0 : decide (0 < (l0.length : Int)) = true := decide_eq_true c4
    have c4b1 : decide (0 < l0.length) = true := decide_eq_true (by omega)
    clear c4
    by_cases c5 : ((rd_T27 l0 0).f1) = 0
    · rw [if_pos c5] at H
      exact absurd H (by simp)
    · rw [if_neg c5] at H
      have c5b0 : (((rd_T27 l0 0).f1) == 0) = false := beq_eq_false_iff_ne.mpr c5
      have c5b1 : (((rd_T27 l0 0).f1) != 0) = true := bne_iff_ne.mpr c5
      by_cases c6 : ((rd_T27 l0 0).f0) = 0
      · rw [if_pos c6] at H
        exact absurd H (by simp)
      · rw [if_neg c6] at H
        have c6b0 : (((rd_T27 l0 0).f0) == 0) = false := beq_eq_false_iff_ne.mpr c6
        have c6b1 : (((rd_T27 l0 0).f0) != 0) = true := bne_iff_ne.mpr c6
        obtain rfl := Option.some.inj H
        have p116 : 0 ≤ (0 : Int) := (by omega)
        have q116 : 0 < (l0.length : Int) := of_decide_eq_true (by first | (with_reducible assumption) | assumption)
        obtain ⟨ad116, A116_2, c116_2, e116, hx116_0, hx116_1, hx116_2, hl116_2, hi116_2⟩ := at_T27 HR0.out 0 p116 q116
        cases e116
        (simp only [Go.Proofs.YtopopjkoanpjiaaDoorX.rp_add] at hx116_0)
        (simp only [Go.Proofs.YtopopjkoanpjiaaDoorX.rp_add] at hx116_1)
        (simp only [Go.Proofs.YtopopjkoanpjiaaDoorX.rp_add] at hx116_2)
        have qi116 : (0 < l0.length) = True := eq_true (by omega)
        (try rw [show ((0 : Int)).toNat = 0 from rfl] at hx116_0)
        (try rw [show 0 * 3 = 0 from rfl] at hx116_0)
        (try rw [Addr.add_zero'] at hx116_0)
        (try rw [show ((0 : Int)).toNat = 0 from rfl] at hx116_1)
        (try rw [show 0 * 3 = 0 from rfl] at hx116_1)
        (try rw [Addr.add_zero'] at hx116_1)
        (try rw [show ((0 : Int)).toNat = 0 from rfl] at hx116_2)
        (try rw [show 0 * 3 = 0 from rfl] at hx116_2)
        (try rw [Addr.add_zero'] at hx116_2)
        have HR116_2 := Aside0.mk hi116_2
        have HC116_2 := Aside0.mk hl116_2
        clear hi116_2 hl116_2
        replace p116 := eq_true p116
        replace q116 := eq_true q116
        have p117 : 0 ≤ (0 : Int) := (by omega)
        have q117 : 0 < (l0.length : Int) := of_decide_eq_true (by first | (with_reducible assumption) | assumption)
        obtain ⟨ad117, A117_2, c117_2, e117, hx117_0, hx117_1, hx117_2, hl117_2, hi117_2⟩ := at_T27 HR0.out 0 p117 q117
        obtain rfl : ad116 = ad117 := (by injection e117)
        (simp only [Go.Proofs.YtopopjkoanpjiaaDoorX.rp_add] at hx117_0)
        (simp only [Go.Proofs.YtopopjkoanpjiaaDoorX.rp_add] at hx117_1)
        (simp only [Go.Proofs.YtopopjkoanpjiaaDoorX.rp_add] at hx117_2)
        have qi117 : (0 < l0.length) = True := eq_true (by omega)
        (try rw [show ((0 : Int)).toNat = 0 from rfl] at hx117_0)
        (try rw [show 0 * 3 = 0 from rfl] at hx117_0)
        (try rw [Addr.add_zero'] at hx117_0)
        (try rw [show ((0 : Int)).toNat = 0 from rfl] at hx117_1)
        (try rw [show 0 * 3 = 0 from rfl] at hx117_1)
        (try rw [Addr.add_zero'] at hx117_1)
        (try rw [show ((0 : Int)).toNat = 0 from rfl] at hx117_2)
        (try rw [show 0 * 3 = 0 from rfl] at hx117_2)
        (try rw [Addr.add_zero'] at hx117_2)
        have HR117_2 := Aside0.mk hi117_2
        have HC117_2 := Aside0.mk hl117_2
        clear hi117_2 hl117_2
        replace p117 := eq_true p117
        replace q117 := eq_true q117
        have ea_ := Option.some.inj (hx116_2.symm.trans hx117_2)
        injection ea_ with ea_ en_ ec_
        subst ea_
        subst ec_
        clear en_
        have p118 : 0 ≤ (0 : Int) := (by omega)
        have q118 : 0 < (l0.length : Int) := of_decide_eq_true (by first | (with_reducible assumption) | assumption)
        obtain ⟨ad118, A118_2, c118_2, e118, hx118_0, hx118_1, hx118_2, hl118_2, hi118_2⟩ := at_T27 HR0.out 0 p118 q118
        obtain rfl : ad116 = ad118 := (by injection e118)
        (simp only [Go.Proofs.YtopopjkoanpjiaaDoorX.rp_add] at hx118_0)
        (simp only [Go.Proofs.YtopopjkoanpjiaaDoorX.rp_add] at hx118_1)
        (simp only [Go.Proofs.YtopopjkoanpjiaaDoorX.rp_add] at hx118_2)
        have qi118 : (0 < l0.length) = True := eq_true (by omega)
        (try rw [show ((0 : Int)).toNat = 0 from rfl] at hx118_0)
        (try rw [show 0 * 3 = 0 from rfl] at hx118_0)
        (try rw [Addr.add_zero'] at hx118_0)
        (try rw [show ((0 : Int)).toNat = 0 from rfl] at hx118_1)
        (try rw [show 0 * 3 = 0 from rfl] at hx118_1)
        (try rw [Addr.add_zero'] at hx118_1)
        (try rw [show ((0 : Int)).toNat = 0 from rfl] at hx118_2)
        (try rw [show 0 * 3 = 0 from rfl] at hx118_2)
        (try rw [Addr.add_zero'] at hx118_2)
        have HR118_2 := Aside0.mk hi118_2
        have HC118_2 := Aside0.mk hl118_2
        clear hi118_2 hl118_2
        replace p118 := eq_true p118
        replace q118 := eq_true q118
        have ea_ := Option.some.inj (hx116_2.symm.trans hx118_2)
        injection ea_ with ea_ en_ ec_
        subst ea_
        subst ec_
        clear en_
        have p119 : 0 ≤ (0 : Int) := (by omega)
        have q119 : 0 < (l0.length : Int) := of_decide_eq_true (by first | (with_reducible assumption) | assumption)
        obtain ⟨ad119, A119_2, c119_2, e119, hx119_0, hx119_1, hx119_2, hl119_2, hi119_2⟩ := at_T27 HR0.out 0 p119 q119
        obtain rfl : ad116 = ad119 := (by injection e119)
        (simp only [Go.Proofs.YtopopjkoanpjiaaDoorX.rp_add] at hx119_0)
        (simp only [Go.Proofs.YtopopjkoanpjiaaDoorX.rp_add] at hx119_1)
        (simp only [Go.Proofs.YtopopjkoanpjiaaDoorX.rp_add] at hx119_2)
        have qi119 : (0 < l0.length) = True := eq_true (by omega)
        (try rw [show ((0 : Int)).toNat = 0 from rfl] at hx119_0)
        (try rw [show 0 * 3 = 0 from rfl] at hx119_0)
        (try rw [Addr.add_zero'] at hx119_0)
        (try rw [show ((0 : Int)).toNat = 0 from rfl] at hx119_1)
        (try rw [show 0 * 3 = 0 from rfl] at hx119_1)
        (try rw [Addr.add_zero'] at hx119_1)
        (try rw [show ((0 : Int)).toNat = 0 from rfl] at hx119_2)
        (try rw [show 0 * 3 = 0 from rfl] at hx119_2)
        (try rw [Addr.add_zero'] at hx119_2)
        have HR119_2 := Aside0.mk hi119_2
        have HC119_2 := Aside0.mk hl119_2
        clear hi119_2 hl119_2
        replace p119 := eq_true p119
        replace q119 := eq_true q119
        have ea_ := Option.some.inj (hx116_2.symm.trans hx119_2)
        injection ea_ with ea_ en_ ec_
        subst ea_
        subst ec_
        clear en_
        have p120 : 0 ≤ (0 : Int) := (by omega)
        have q120 : 0 < (l0.length : Int) := of_decide_eq_true (by first | (with_reducible assumption) | assumption)
        obtain ⟨ad120, A120_2, c120_2, e120, hx120_0, hx120_1, hx120_2, hl120_2, hi120_2⟩ := at_T27 HR0.out 0 p120 q120
        obtain rfl : ad116 = ad120 := (by injection e120)
        (simp only [Go.Proofs.YtopopjkoanpjiaaDoorX.rp_add] at hx120_0)
        (simp only [Go.Proofs.YtopopjkoanpjiaaDoorX.rp_add] at hx120_1)
        (simp only [Go.Proofs.YtopopjkoanpjiaaDoorX.rp_add] at hx120_2)
        have qi120 : (0 < l0.length) = True := eq_true (by omega)
        (try rw [show ((0 : Int)).toNat = 0 from rfl] at hx120_0)
        (try rw [show 0 * 3 = 0 from rfl] at hx120_0)
        (try rw [Addr.add_zero'] at hx120_0)
        (try rw [show ((0 : Int)).toNat = 0 from rfl] at hx120_1)
        (try rw [show 0 * 3 = 0 from rfl] at hx120_1)
        (try rw [Addr.add_zero'] at hx120_1)
        (try rw [show ((0 : Int)).toNat = 0 from rfl] at hx120_2)
        (try rw [show 0 * 3 = 0 from rfl] at hx120_2)
        (try rw [Addr.add_zero'] at hx120_2)
        have HR120_2 := Aside0.mk hi120_2
        have HC120_2 := Aside0.mk hl120_2
        clear hi120_2 hl120_2
        replace p120 := eq_true p120
        replace q120 := eq_true q120
        have ea_ := Option.some.inj (hx116_2.symm.trans hx120_2)
        injection ea_ with ea_ en_ ec_
        subst ea_
        subst ec_
        clear en_
        have p121 : 0 ≤ (0 : Int) := (by omega)
        have q121 : 0 < (l0.length : Int) := of_decide_eq_true (by first | (with_reducible assumption) | assumption)
        obtain ⟨ad121, A121_2, c121_2, e121, hx121_0, hx121_1, hx121_2, hl121_2, hi121_2⟩ := at_T27 HR0.out 0 p121 q121
        obtain rfl : ad116 = ad121 := (by injection e121)
        (simp only [Go.Proofs.YtopopjkoanpjiaaDoorX.rp_add] at hx121_0)
        (simp only [Go.Proofs.YtopopjkoanpjiaaDoorX.rp_add] at hx121_1)
        (simp only [Go.Proofs.YtopopjkoanpjiaaDoorX.rp_add] at hx121_2)
        have qi121 : (0 < l0.length) = True := eq_true (by omega)
        (try rw [show ((0 : Int)).toNat = 0 from rfl] at hx121_0)
        (try rw [show 0 * 3 = 0 from rfl] at hx121_0)
        (try rw [Addr.add_zero'] at hx121_0)
        (try rw [show ((0 : Int)).toNat = 0 from rfl] at hx121_1)
        (try rw [show 0 * 3 = 0 from rfl] at hx121_1)
        (try rw [Addr.add_zero'] at hx121_1)
        (try rw [show ((0 : Int)).toNat = 0 from rfl] at hx121_2)
        (try rw [show 0 * 3 = 0 from rfl] at hx121_2)
        (try rw [Addr.add_zero'] at hx121_2)
        have HR121_2 := Aside0.mk hi121_2
        have HC121_2 := Aside0.mk hl121_2
        clear hi121_2 hl121_2
        replace p121 := eq_true p121
        replace q121 := eq_true q121
        have ea_ := Option.some.inj (hx116_2.symm.trans hx121_2)
        injection ea_ with ea_ en_ ec_
        subst ea_
        subst ec_
        clear en_
        have p122 : 0 ≤ (0 : Int) := (by omega)
        have q122 : 0 < (l0.length : Int) := of_decide_eq_true (by first | (with_reducible assumption) | assumption)
        obtain ⟨ad122, A122_2, c122_2, e122, hx122_0, hx122_1, hx122_2, hl122_2, hi122_2⟩ := at_T27 HR0.out 0 p122 q122
        obtain rfl : ad116 = ad122 := (by injection e122)
        (simp only [Go.Proofs.YtopopjkoanpjiaaDoorX.rp_add] at hx122_0)
        (simp only [Go.Proofs.YtopopjkoanpjiaaDoorX.rp_add] at hx122_1)
        (simp only [Go.Proofs.YtopopjkoanpjiaaDoorX.rp_add] at hx122_2)
        have qi122 : (0 < l0.length) = True := eq_true (by omega)
        (try rw [show ((0 : Int)).toNat = 0 from rfl] at hx122_0)
        (try rw [show 0 * 3 = 0 from rfl] at hx122_0)
        (try rw [Addr.add_zero'] at hx122_0)
        (try rw [show ((0 : Int)).toNat = 0 from rfl] at hx122_1)
        (try rw [show 0 * 3 = 0 from rfl] at hx122_1)
        (try rw [Addr.add_zero'] at hx122_1)
        (try rw [show ((0 : Int)).toNat = 0 from rfl] at hx122_2)
        (try rw [show 0 * 3 = 0 from rfl] at hx122_2)
        (try rw [Addr.add_zero'] at hx122_2)
        have HR122_2 := Aside0.mk hi122_2
        have HC122_2 := Aside0.mk hl122_2
        clear hi122_2 hl122_2
        replace p122 := eq_true p122
        replace q122 := eq_true q122
        have ea_ := Option.some.inj (hx116_2.symm.trans hx122_2)
        injection ea_ with ea_ en_ ec_
        subst ea_
        subst ec_
        clear en_
        go_enter Tryd.func59, Tryd.ntmps59
        go_wp2
        repeat (go_quiet (fail); try go_wp2)
        go_ret
        exact ⟨by first | rfl | (simp; done) | (simp [*]; done) | (simp [i64_w, i32_w]; done), by repeat (first | exact Drawn0.refl _ | apply Drawn0.step)⟩
  · rw [if_neg c4] at H
    exact absurd H (by simp)

/-! ### spec_l17Around: function 47 -/
def spec_l17Around.f (l0 : List (S27)) (a1 : Int) : Option (List Int) := if 0 < (l0.length : Int) then (if ((rd_T27 l0 0).f0) = 0 then (none) else ((spec_l17Index.f l0 (wrap64 ((Int.tmod a1 ((rd_T27 l0 0).f0)) + 1)) (wrap64 (Int.tdiv a1 ((rd_T27 l0 0).f0)))).bind fun t125 => ((spec_l17Index.f l0 (Int.tmod a1 ((rd_T27 l0 0).f0)) (wrap64 ((wrap64 (Int.tdiv a1 ((rd_T27 l0 0).f0))) + 1))).bind fun t126 => ((spec_l17Index.f l0 (wrap64 ((Int.tmod a1 ((rd_T27 l0 0).f0)) - 1)) (wrap64 (Int.tdiv a1 ((rd_T27 l0 0).f0)))).bind fun t127 => ((spec_l17Index.f l0 (Int.tmod a1 ((rd_T27 l0 0).f0)) (wrap64 ((wrap64 (Int.tdiv a1 ((rd_T27 l0 0).f0))) - 1))).bind fun t128 => (some (([t125, t126, t127, t128] : List Int)))))))) else (none)
set_option maxHeartbeats 8000000 in
set_option maxRecDepth 100000 in
theorem spec_l17Around.calls (A0 : Option Addr) (l0 : List (S27)) (a1 : Int) (r : List Int) (w : World) (hr0 : Kd.C k27 w A0 l0.length l0) (h : spec_l17Around.f l0 a1 = some r) :
    Calls Tryd.prog 47 #[.pointer A0, .int .i64 a1] w fun e w' => ∃ v0_ : Value, e = .returned (v0_) ∧ Kd.R (Kd.int .i64) 2 w' w.heap.size (fun _ => True) v0_ r ∧ Below w.heap.size w w' := by
  have HR0 := Aside0.mk hr0
  clear hr0
  have HB := Aside0.mk (Below.refl w.heap.size w)
  have H : (if 0 < (l0.length : Int) then (if ((rd_T27 l0 0).f0) = 0 then (none) else ((spec_l17Index.f l0 (wrap64 ((Int.tmod a1 ((rd_T27 l0 0).f0)) + 1)) (wrap64 (Int.tdiv a1 ((rd_T27 l0 0).f0)))).bind fun t125 => ((spec_l17Index.f l0 (Int.tmod a1 ((rd_T27 l0 0).f0)) (wrap64 ((wrap64 (Int.tdiv a1 ((rd_T27 l0 0).f0))) + 1))).bind fun t126 => ((spec_l17Index.f l0 (wrap64 ((Int.tmod a1 ((rd_T27 l0 0).f0)) - 1)) (wrap64 (Int.tdiv a1 ((rd_T27 l0 0).f0)))).bind fun t127 => ((spec_l17Index.f l0 (Int.tmod a1 ((rd_T27 l0 0).f0)) (wrap64 ((wrap64 (Int.tdiv a1 ((rd_T27 l0 0).f0))) - 1))).bind fun t128 => (some (([t125, t126, t127, t128] : List Int)))))))) else (none)) = some r := h
  clear h
  by_cases c3 : 0 < (l0.length : Int)
  · rw [if_pos c3] at H
    have c3b0 : decide (0 < (l0.length : Int)) = true := decide_eq_true c3
    have c3b1 : decide (0 < l0.length) = true := decide_eq_true (by omega)
    clear c3
    by_cases c4 : ((rd_T27 l0 0).f0) = 0
    · rw [if_pos c4] at H
      exact absurd H (by simp)
    · rw [if_neg c4] at H
      have c4b0 : (((rd_T27 l0 0).f0) == 0) = false := beq_eq_false_iff_ne.mpr c4
      have c4b1 : (((rd_T27 l0 0).f0) != 0) = true := bne_iff_ne.mpr c4
      replace H := Option.bind_eq_some_iff.mp H
      obtain ⟨t125, A50, H⟩ := H
      replace H : ((spec_l17Index.f l0 (Int.tmod a1 ((rd_T27 l0 0).f0)) (wrap64 ((wrap64 (Int.tdiv a1 ((rd_T27 l0 0).f0))) + 1))).bind fun t126 => ((spec_l17Index.f l0 (wrap64 ((Int.tmod a1 ((rd_T27 l0 0).f0)) - 1)) (wrap64 (Int.tdiv a1 ((rd_T27 l0 0).f0)))).bind fun t127 => ((spec_l17Index.f l0 (Int.tmod a1 ((rd_T27 l0 0).f0)) (wrap64 ((wrap64 (Int.tdiv a1 ((rd_T27 l0 0).f0))) - 1))).bind fun t128 => (some (([t125, t126, t127, t128] : List Int)))))) = some r := H
      have A5 := Aside0.mk A50
      clear A50
      replace H := Option.bind_eq_some_iff.mp H
      obtain ⟨t126, A60, H⟩ := H
      replace H : ((spec_l17Index.f l0 (wrap64 ((Int.tmod a1 ((rd_T27 l0 0).f0)) - 1)) (wrap64 (Int.tdiv a1 ((rd_T27 l0 0).f0)))).bind fun t127 => ((spec_l17Index.f l0 (Int.tmod a1 ((rd_T27 l0 0).f0)) (wrap64 ((wrap64 (Int.tdiv a1 ((rd_T27 l0 0).f0))) - 1))).bind fun t128 => (some (([t125, t126, t127, t128] : List Int))))) = some r := H
      have A6 := Aside0.mk A60
      clear A60
      replace H := Option.bind_eq_some_iff.mp H
      obtain ⟨t127, A70, H⟩ := H
      replace H : ((spec_l17Index.f l0 (Int.tmod a1 ((rd_T27 l0 0).f0)) (wrap64 ((wrap64 (Int.tdiv a1 ((rd_T27 l0 0).f0))) - 1))).bind fun t128 => (some (([t125, t126, t127, t128] : List Int)))) = some r := H
      have A7 := Aside0.mk A70
      clear A70
      replace H := Option.bind_eq_some_iff.mp H
      obtain ⟨t128, A80, H⟩ := H
      replace H : (some (([t125, t126, t127, t128] : List Int))) = some r := H
      have A8 := Aside0.mk A80
      clear A80
      obtain ⟨y129, hy129⟩ : ∃ y_ : List Int, y_ = (([t125, t126, t127, t128] : List Int)) := ⟨_, rfl⟩
      replace H : (some y129) = some r := by first | (rw [hy129]; with_reducible exact H) | (have H2_ := (Option.bind_some _ _).symm.trans H; rw [hy129]; with_reducible exact H2_) | (have H2_ := (Option.bind_some _ _).symm.trans H; with_reducible exact H2_) | with_reducible exact H | (rw [hy129]; exact H) | exact H
      have Ny129 := Aside0.mk hy129
      clear hy129
      obtain rfl := Option.some.inj H
      have p123 : 0 ≤ (0 : Int) := (by omega)
      have q123 : 0 < (l0.length : Int) := of_decide_eq_true (by first | (with_reducible assumption) | assumption)
      obtain ⟨ad123, A123_2, c123_2, e123, hx123_0, hx123_1, hx123_2, hl123_2, hi123_2⟩ := at_T27 HR0.out 0 p123 q123
      cases e123
      (simp only [Go.Proofs.YtopopjkoanpjiaaDoorX.rp_add] at hx123_0)
      (simp only [Go.Proofs.YtopopjkoanpjiaaDoorX.rp_add] at hx123_1)
      (simp only [Go.Proofs.YtopopjkoanpjiaaDoorX.rp_add] at hx123_2)
      have qi123 : (0 < l0.length) = True := eq_true (by omega)
      (try rw [show ((0 : Int)).toNat = 0 from rfl] at hx123_0)
      (try rw [show 0 * 3 = 0 from rfl] at hx123_0)
      (try rw [Addr.add_zero'] at hx123_0)
      (try rw [show ((0 : Int)).toNat = 0 from rfl] at hx123_1)
      (try rw [show 0 * 3 = 0 from rfl] at hx123_1)
      (try rw [Addr.add_zero'] at hx123_1)
      (try rw [show ((0 : Int)).toNat = 0 from rfl] at hx123_2)
      (try rw [show 0 * 3 = 0 from rfl] at hx123_2)
      (try rw [Addr.add_zero'] at hx123_2)
      have HR123_2 := Aside0.mk hi123_2
      have HC123_2 := Aside0.mk hl123_2
      clear hi123_2 hl123_2
      replace p123 := eq_true p123
      replace q123 := eq_true q123
      have p124 : 0 ≤ (0 : Int) := (by omega)
      have q124 : 0 < (l0.length : Int) := of_decide_eq_true (by first | (with_reducible assumption) | assumption)
      obtain ⟨ad124, A124_2, c124_2, e124, hx124_0, hx124_1, hx124_2, hl124_2, hi124_2⟩ := at_T27 HR0.out 0 p124 q124
      obtain rfl : ad123 = ad124 := (by injection e124)
      (simp only [Go.Proofs.YtopopjkoanpjiaaDoorX.rp_add] at hx124_0)
      (simp only [Go.Proofs.YtopopjkoanpjiaaDoorX.rp_add] at hx124_1)
      (simp only [Go.Proofs.YtopopjkoanpjiaaDoorX.rp_add] at hx124_2)
      have qi124 : (0 < l0.length) = True := eq_true (by omega)
      (try rw [show ((0 : Int)).toNat = 0 from rfl] at hx124_0)
      (try rw [show 0 * 3 = 0 from rfl] at hx124_0)
      (try rw [Addr.add_zero'] at hx124_0)
      (try rw [show ((0 : Int)).toNat = 0 from rfl] at hx124_1)
      (try rw [show 0 * 3 = 0 from rfl] at hx124_1)
      (try rw [Addr.add_zero'] at hx124_1)
      (try rw [show ((0 : Int)).toNat = 0 from rfl] at hx124_2)
      (try rw [show 0 * 3 = 0 from rfl] at hx124_2)
      (try rw [Addr.add_zero'] at hx124_2)
      have HR124_2 := Aside0.mk hi124_2
      have HC124_2 := Aside0.mk hl124_2
      clear hi124_2 hl124_2
      replace p124 := eq_true p124
      replace q124 := eq_true q124
      have ea_ := Option.some.inj (hx123_2.symm.trans hx124_2)
      injection ea_ with ea_ en_ ec_
      subst ea_
      subst ec_
      clear en_
      go_enter Tryd.func47, Tryd.ntmps47
      go_wp2_with (first | ((with_reducible refine gate_callee (f := 59) rfl ?_); refine goesL_ (some 23) rfl rfl Tryd.func59 (by kernel_rfl) rfl #[.pointer (some ad123), .int .i64 (wrap64 ((Int.tmod a1 ((rd_T27 l0 0).f0)) + 1)), .int .i64 (wrap64 (Int.tdiv a1 ((rd_T27 l0 0).f0)))] rfl (by (try simp only [List.map_toArray, List.map_cons, List.map_nil]); first | done | rfl | (simp only [List.length_drop, List.length_take]; rfl)) ?_; (with_reducible refine (spec_l17Index.calls _ l0 (wrap64 ((Int.tmod a1 ((rd_T27 l0 0).f0)) + 1)) (wrap64 (Int.tdiv a1 ((rd_T27 l0 0).f0))) t125 _ ?side1 A5.out).mono ?_); (case side1 => repeat (first | exact HR0.out | (with_reducible refine Kd.C_alloc ?_ _) | (with_reducible refine Kd.C_drewN ?_ _) | (with_reducible refine Kd.C_drew ?_))); rintro e w' ⟨rfl, ⟨nd, rfl⟩⟩; refine ⟨_, rfl, ?_⟩) | ((with_reducible refine gate_callee (f := 59) rfl ?_); refine goesL_ (some 28) rfl rfl Tryd.func59 (by kernel_rfl) rfl #[.pointer (some ad123), .int .i64 (Int.tmod a1 ((rd_T27 l0 0).f0)), .int .i64 (wrap64 ((wrap64 (Int.tdiv a1 ((rd_T27 l0 0).f0))) + 1))] rfl (by (try simp only [List.map_toArray, List.map_cons, List.map_nil]); first | done | rfl | (simp only [List.length_drop, List.length_take]; rfl)) ?_; (with_reducible refine (spec_l17Index.calls _ l0 (Int.tmod a1 ((rd_T27 l0 0).f0)) (wrap64 ((wrap64 (Int.tdiv a1 ((rd_T27 l0 0).f0))) + 1)) t126 _ ?side1 A6.out).mono ?_); (case side1 => repeat (first | exact HR0.out | (with_reducible refine Kd.C_alloc ?_ _) | (with_reducible refine Kd.C_drewN ?_ _) | (with_reducible refine Kd.C_drew ?_))); rintro e w' ⟨rfl, ⟨nd, rfl⟩⟩; refine ⟨_, rfl, ?_⟩) | ((with_reducible refine gate_callee (f := 59) rfl ?_); refine goesL_ (some 33) rfl rfl Tryd.func59 (by kernel_rfl) rfl #[.pointer (some ad123), .int .i64 (wrap64 ((Int.tmod a1 ((rd_T27 l0 0).f0)) - 1)), .int .i64 (wrap64 (Int.tdiv a1 ((rd_T27 l0 0).f0)))] rfl (by (try simp only [List.map_toArray, List.map_cons, List.map_nil]); first | done | rfl | (simp only [List.length_drop, List.length_take]; rfl)) ?_; (with_reducible refine (spec_l17Index.calls _ l0 (wrap64 ((Int.tmod a1 ((rd_T27 l0 0).f0)) - 1)) (wrap64 (Int.tdiv a1 ((rd_T27 l0 0).f0))) t127 _ ?side1 A7.out).mono ?_); (case side1 => repeat (first | exact HR0.out | (with_reducible refine Kd.C_alloc ?_ _) | (with_reducible refine Kd.C_drewN ?_ _) | (with_reducible refine Kd.C_drew ?_))); rintro e w' ⟨rfl, ⟨nd, rfl⟩⟩; refine ⟨_, rfl, ?_⟩) | ((with_reducible refine gate_callee (f := 59) rfl ?_); refine goesL_ (some 38) rfl rfl Tryd.func59 (by kernel_rfl) rfl #[.pointer (some ad123), .int .i64 (Int.tmod a1 ((rd_T27 l0 0).f0)), .int .i64 (wrap64 ((wrap64 (Int.tdiv a1 ((rd_T27 l0 0).f0))) - 1))] rfl (by (try simp only [List.map_toArray, List.map_cons, List.map_nil]); first | done | rfl | (simp only [List.length_drop, List.length_take]; rfl)) ?_; (with_reducible refine (spec_l17Index.calls _ l0 (Int.tmod a1 ((rd_T27 l0 0).f0)) (wrap64 ((wrap64 (Int.tdiv a1 ((rd_T27 l0 0).f0))) - 1)) t128 _ ?side1 A8.out).mono ?_); (case side1 => repeat (first | exact HR0.out | (with_reducible refine Kd.C_alloc ?_ _) | (with_reducible refine Kd.C_drewN ?_ _) | (with_reducible refine Kd.C_drew ?_))); rintro e w' ⟨rfl, ⟨nd, rfl⟩⟩; refine ⟨_, rfl, ?_⟩) | ((with_reducible refine gate_dst (N := 39) rfl ?_); refine Kd.R_lit (Kd.int .i64) _ 2 ?hg (N := 39) ?hd (xs := ([t125, t126, t127, t128] : List Int)) (inner := [.int .i64 t125, .int .i64 t126, .int .i64 t127, .int .i64 t128]) (ok := fun _ => True) (okp := fun _ => True) ?hr ?hp (fun _ hk => hk) trivial (Below.refl _ _) (Nat.le_refl _) (by simp) ?_; (case hd => rfl); (case hg => rfl); (case hr => first | (go_simp; done) | (go_simp; rfl)); (case hp => exact (Reps.one (show Kd.M (Kd.int .i64) _ _ _ t125 [.int .i64 t125] from rfl) (Reps.one (show Kd.M (Kd.int .i64) _ _ _ t126 [.int .i64 t126] from rfl) (Reps.one (show Kd.M (Kd.int .i64) _ _ _ t127 [.int .i64 t127] from rfl) (Reps.one (show Kd.M (Kd.int .i64) _ _ _ t128 [.int .i64 t128] from rfl) (Reps.none _ _)))))); intro v130 w9 ho10 hb hg_ hnew_; clear hg_ hnew_; (first | rw [← Ny129.out] at ho10 | (simp only [Int.reduceToNat] at ho10; rw [← Ny129.out] at ho10)); have n0_ := Aside0.mk (Kd.R_lower ho10 (below_size (by repeat (first | (with_reducible first | exact HB.out | apply below_alloc | apply pw_below_drewN | apply below_drew1) | exact HB.out)))); have n1_ := Aside0.mk (below_step (by repeat (first | (with_reducible first | exact HB.out | apply below_alloc | apply pw_below_drewN | apply below_drew1) | exact HB.out)) hb); clear HB; have HO131 := n0_; have HB := n1_; clear n0_ n1_; clear hb ho10))
      go_ret
      exact ⟨_, by first | rfl | (simp [errW_none, errW_some] <;> rfl) | (simp [*, errW_none, errW_some] <;> rfl), by (with_reducible repeat (first | apply Kd.R_alloc | apply Kd.R_drewN | apply Kd.R_drew)); exact HO131.out, by repeat (first | (with_reducible first | exact HB.out | apply below_alloc | apply pw_below_drewN | apply below_drew1) | exact HB.out)⟩
  · rw [if_neg c3] at H
    exact absurd H (by simp)

end Go.Proofs.YtopopjkoanpjiaaDoor.GFnExactReadTiling

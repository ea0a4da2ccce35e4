-- Written by the session's own program (gen.py) out of the translation's print. Lean checks it.
import Derived.Test.YtakagkflgkoiiaaDoorGFnExactReadShapex0
import Derived.Test.YtakagkflgkoiiaaDoorGFnExactReadShapex1
namespace Go.Proofs.YtakagkflgkoiiaaDoor.GFnExactReadShape
open Go.RowKit Go.Proofs.YtakagkflgkoiiaaDoorW.PrintWords Go.Proofs.YtakagkflgkoiiaaDoorW.PrintLast Go.Proofs.YtakagkflgkoiiaaDoorW.PrintMore
attribute [local go_sem] max2_int min2_int max_two min_two max_three min_three max_four min_four   -- for this text's walks alone
set_option linter.unusedVariables false
set_option linter.unusedSimpArgs false

/-! ### spec_l19Ok: function 16 -/
mutual
def spec_l19Ok.j0 : Nat → Bool → List (S24) → Option (Bool)
  | 0, _, _ => none
  | k + 1, x34, x960 => if x34 = true then (some false) else (spec_l19Ok.l0 k 0 x960)
def spec_l19Ok.l0 : Nat → Int → List (S24) → Option (Bool)
  | 0, _, _ => none
  | k + 1, x3, x960 => if 0 < (x960.length : Int) then (if x3 < (((rd_T24 x960 0).f2).length : Int) then (if 0 ≤ x3 then ((spec_l00In.f (rd ((rd_T24 x960 0).f2) x3) 0 1).bind fun t120 => (if t120 = true then (spec_l19Ok.l0 k (wrap64 (x3 + 1)) x960) else (some false))) else (none)) else (some true)) else (none)
end
def spec_l19Ok.f (k : Nat) (l0 : List (S24)) : Option (Bool) := if 0 < (l0.length : Int) then ((spec_l00In.f ((rd_T24 l0 0).f0) 1 12).bind fun t111 => (if t111 = true then ((spec_l00In.f ((rd_T24 l0 0).f1) 1 12).bind fun t113 => (if t113 = true then (spec_l19Ok.j0 k ((((rd_T24 l0 0).f2).length : Int) != (wrap64 (((rd_T24 l0 0).f0) * ((rd_T24 l0 0).f1)))) l0) else (spec_l19Ok.j0 k true l0))) else (spec_l19Ok.j0 k true l0))) else (none)
theorem spec_l19Ok.mono_l : ∀ k, (∀ y0 y1, LeO (spec_l19Ok.j0 k y0 y1) (spec_l19Ok.j0 (k + 1) y0 y1)) ∧ (∀ y0 y1, LeO (spec_l19Ok.l0 k y0 y1) (spec_l19Ok.l0 (k + 1) y0 y1))
  | 0 => ⟨fun _ _ r h => by simp [spec_l19Ok.j0] at h, fun _ _ r h => by simp [spec_l19Ok.l0] at h⟩
  | k + 1 => by
    obtain ⟨ih0, ih1⟩ := spec_l19Ok.mono_l k
    refine ⟨?_, ?_⟩
    · intro y0 y1
      unfold spec_l19Ok.j0
      repeat' first
      | (with_reducible exact ih0 _ _)
      | (with_reducible exact ih1 _ _)
      | (with_reducible exact LeO.refl _)
      | (with_reducible exact LeO.none _)
      | (with_reducible refine LeO.ite ?_ ?_)
      | (with_reducible refine LeO.bind ?_ (fun _ => ?_))
      | exact ih0 _ _
      | exact ih1 _ _
      | exact LeO.none _
      | refine LeO.ite ?_ ?_
      | refine LeO.bind ?_ (fun _ => ?_)
    · intro y0 y1
      unfold spec_l19Ok.l0
      repeat' first
      | (with_reducible exact ih0 _ _)
      | (with_reducible exact ih1 _ _)
      | (with_reducible exact LeO.refl _)
      | (with_reducible exact LeO.none _)
      | (with_reducible refine LeO.ite ?_ ?_)
      | (with_reducible refine LeO.bind ?_ (fun _ => ?_))
      | exact ih0 _ _
      | exact ih1 _ _
      | exact LeO.none _
      | refine LeO.ite ?_ ?_
      | refine LeO.bind ?_ (fun _ => ?_)
theorem spec_l19Ok.mono : ∀ a0 k, LeO (spec_l19Ok.f k a0) (spec_l19Ok.f (k + 1) a0) := by
  intro a0 k
  obtain ⟨ih0, ih1⟩ := spec_l19Ok.mono_l k
  unfold spec_l19Ok.f
  repeat' first
      | (with_reducible exact ih0 _ _)
      | (with_reducible exact ih1 _ _)
      | (with_reducible exact LeO.refl _)
      | (with_reducible exact LeO.none _)
      | (with_reducible refine LeO.ite ?_ ?_)
      | (with_reducible refine LeO.bind ?_ (fun _ => ?_))
      | exact ih0 _ _
      | exact ih1 _ _
      | exact LeO.none _
      | refine LeO.ite ?_ ?_
      | refine LeO.bind ?_ (fun _ => ?_)
def spec_l19Ok.T1 : Bool × List (List Nat × List Nat) := (true, [([], []), ([0], [0]), ([1], [1]), ([2], [2]), ([3], [3]), ([4], [4]), ([5, 4], [5]), ([6], [6]), ([7, 6], [6, 7]), ([8, 6], [6, 8]), ([9, 6], [6, 9]), ([10, 6, 6], [6, 10]), ([11, 6], [6, 11]), ([6, 12], [6, 12]), ([13, 11], [13]), ([14], [14]), ([15, 14], [14, 15]), ([16, 14], [14, 16]), ([17, 14], [14, 17]), ([18, 14], [14, 18]), ([14], [14]), ([20, 14], [14, 20]), ([21, 14], [14, 21]), ([22, 14], [14, 22]), ([14], [14]), ([24, 14], [14, 24]), ([25, 14], [14, 25]), ([26, 14], [14, 26]), ([23, 27, 14], [14, 23, 27]), ([19, 28, 14], [14, 19, 28]), ([14, 29], [14, 29])])
def spec_l19Ok.B1 : List Nat := [0, 1, 3, 7, 15, 31, 63, 127, 255, 511, 1023, 2047, 4095, 8191, 16383, 32767, 65535, 131071, 262143, 524287, 32767, 1081343, 3178495, 7372799, 32767, 16809983, 50364415, 117473279, 267419647, 536870911, 1073741823]
theorem spec_l19Ok.tab1 : rtab .any (opsOf Tryd.f16 1) = spec_l19Ok.T1 := by kernel_rfl
theorem spec_l19Ok.bits1 : waitsOk spec_l19Ok.T1.2 spec_l19Ok.B1 = true := by kernel_rfl
open List renaming setIfInBounds_toArray → sA, set_cons_zero → sB, set_cons_succ → sC
open Go.Proofs.YtakagkflgkoiiaaDoorW.PrintWords.Aside0 renaming mk → mkA
open Go.Proofs.YtakagkflgkoiiaaDoorX (dt_ bc_ p0_ p1_ bl_ cb_ bs0_ bs1_ bs2_ bs3_ bs4_ bs5_ bs6_ bs7_ bs8_ bs9_ bs10_ bs11_ bs12_)
abbrev spec_l19Ok.d0 : Array Bool := #[false, false, false, false, false, false, false, false, false, false, false, false, false, false, false, false, false, false, false, false, false, false, false, false, false, false, false, false, false, false, false]
abbrev spec_l19Ok.d1 : Array Bool := #[true, false, false, false, false, false, false, false, false, false, false, false, false, false, false, false, false, false, false, false, false, false, false, false, false, false, false, false, false, false, false]
abbrev spec_l19Ok.d2 : Array Bool := #[true, true, false, false, false, false, false, false, false, false, false, false, false, false, false, false, false, false, false, false, false, false, false, false, false, false, false, false, false, false, false]
abbrev spec_l19Ok.d3 : Array Bool := #[true, true, true, false, false, false, false, false, false, false, false, false, false, false, false, false, false, false, false, false, false, false, false, false, false, false, false, false, false, false, false]
abbrev spec_l19Ok.d4 : Array Bool := #[true, true, true, true, false, false, false, false, false, false, false, false, false, false, false, false, false, false, false, false, false, false, false, false, false, false, false, false, false, false, false]
abbrev spec_l19Ok.d5 : Array Bool := #[true, true, true, true, true, false, false, false, false, false, false, false, false, false, false, false, false, false, false, false, false, false, false, false, false, false, false, false, false, false, false]
abbrev spec_l19Ok.d6 : Array Bool := #[true, true, true, true, true, true, false, false, false, false, false, false, false, false, false, false, false, false, false, false, false, false, false, false, false, false, false, false, false, false, false]
abbrev spec_l19Ok.d7 : Array Bool := #[true, true, true, true, true, true, true, false, false, false, false, false, false, false, false, false, false, false, false, false, false, false, false, false, false, false, false, false, false, false, false]
abbrev spec_l19Ok.d8 : Array Bool := #[true, true, true, true, true, true, true, true, false, false, false, false, false, false, false, false, false, false, false, false, false, false, false, false, false, false, false, false, false, false, false]
abbrev spec_l19Ok.d9 : Array Bool := #[true, true, true, true, true, true, true, true, true, false, false, false, false, false, false, false, false, false, false, false, false, false, false, false, false, false, false, false, false, false, false]
abbrev spec_l19Ok.d10 : Array Bool := #[true, true, true, true, true, true, true, true, true, true, false, false, false, false, false, false, false, false, false, false, false, false, false, false, false, false, false, false, false, false, false]
abbrev spec_l19Ok.d11 : Array Bool := #[true, true, true, true, true, true, true, true, true, true, true, false, false, false, false, false, false, false, false, false, false, false, false, false, false, false, false, false, false, false, false]
abbrev spec_l19Ok.d12 : Array Bool := #[true, true, true, true, true, true, true, true, true, true, true, true, false, false, false, false, false, false, false, false, false, false, false, false, false, false, false, false, false, false, false]
abbrev spec_l19Ok.d13 : Array Bool := #[true, true, true, true, true, true, true, true, true, true, true, true, true, false, false, false, false, false, false, false, false, false, false, false, false, false, false, false, false, false, false]
abbrev spec_l19Ok.d14 : Array Bool := #[true, true, true, true, true, true, true, true, true, true, true, true, true, true, false, false, false, false, false, false, false, false, false, false, false, false, false, false, false, false, false]
abbrev spec_l19Ok.d15 : Array Bool := #[true, true, true, true, true, true, true, true, true, true, true, true, true, true, true, false, false, false, false, false, false, false, false, false, false, false, false, false, false, false, false]
abbrev spec_l19Ok.d16 : Array Bool := #[true, true, true, true, true, true, true, true, true, true, true, true, true, true, true, true, false, false, false, false, false, false, false, false, false, false, false, false, false, false, false]
abbrev spec_l19Ok.d17 : Array Bool := #[true, true, true, true, true, true, true, true, true, true, true, true, true, true, true, true, true, false, false, false, false, false, false, false, false, false, false, false, false, false, false]
abbrev spec_l19Ok.d18 : Array Bool := #[true, true, true, true, true, true, true, true, true, true, true, true, true, true, true, true, true, true, false, false, false, false, false, false, false, false, false, false, false, false, false]
abbrev spec_l19Ok.d19 : Array Bool := #[true, true, true, true, true, true, true, true, true, true, true, true, true, true, true, true, true, true, false, false, true, false, false, false, false, false, false, false, false, false, false]
abbrev spec_l19Ok.d20 : Array Bool := #[true, true, true, true, true, true, true, true, true, true, true, true, true, true, true, true, true, true, false, false, true, true, false, false, false, false, false, false, false, false, false]
abbrev spec_l19Ok.d21 : Array Bool := #[true, true, true, true, true, true, true, true, true, true, true, true, true, true, true, true, true, true, false, false, true, true, true, false, false, false, false, false, false, false, false]
abbrev spec_l19Ok.d22 : Array Bool := #[true, true, true, true, true, true, true, true, true, true, true, true, true, true, true, true, true, true, false, false, true, true, true, false, true, false, false, false, false, false, false]
abbrev spec_l19Ok.d23 : Array Bool := #[true, true, true, true, true, true, true, true, true, true, true, true, true, true, true, true, true, true, false, false, true, true, true, false, true, true, false, false, false, false, false]
abbrev spec_l19Ok.d24 : Array Bool := #[true, true, true, true, true, true, true, true, true, true, true, true, true, true, true, true, true, true, false, false, true, true, true, false, true, true, true, false, false, false, false]
abbrev spec_l19Ok.d25 : Array Bool := #[true, true, true, true, true, true, true, true, true, true, true, true, true, true, true, true, true, true, true, false, true, true, true, false, true, true, true, false, false, false, false]
abbrev spec_l19Ok.d26 : Array Bool := #[true, true, true, true, true, true, true, true, true, true, true, true, true, true, true, true, true, true, true, true, true, true, true, false, true, true, true, false, false, false, false]
abbrev spec_l19Ok.d27 : Array Bool := #[true, true, true, true, true, true, true, true, true, true, true, true, true, true, true, true, true, true, true, true, true, true, true, true, true, true, true, false, false, false, false]
abbrev spec_l19Ok.d28 : Array Bool := #[true, true, true, true, true, true, true, true, true, true, true, true, true, true, true, true, true, true, true, true, true, true, true, true, true, true, true, true, false, false, false]
abbrev spec_l19Ok.d29 : Array Bool := #[true, true, true, true, true, true, true, true, true, true, true, true, true, true, true, true, true, true, true, true, true, true, true, true, true, true, true, true, true, false, false]
abbrev spec_l19Ok.d30 : Array Bool := #[true, true, true, true, true, true, true, true, true, true, true, true, true, true, true, true, true, true, true, true, true, true, true, true, true, true, true, true, true, true, false]
abbrev spec_l19Ok.d31 : Array Bool := #[true, true, true, true, true, true, true, true, true, true, true, true, true, true, true, true, true, true, true, true, true, true, true, true, true, true, true, true, true, true, true]
abbrev spec_l19Ok.d32 : Array Bool := #[true, true, true, true, true, true, true, true, true, true, true, true, true, true, true, true, true, true, true, false, false, false, false, false, false, false, false, false, false, false, false]
abbrev spec_l19Ok.d33 : Array Bool := #[true, true, true, true, true, true, true, true, true, true, true, true, true, true, true, true, true, true, true, true, false, false, false, false, false, false, false, false, false, false, false]
abbrev spec_l19Ok.d34 : Array Bool := #[true, true, true, true, true, true, true, true, true, true, true, true, true, true, true, true, true, true, true, true, true, false, false, false, false, false, false, false, false, false, false]
abbrev spec_l19Ok.d35 : Array Bool := #[true, true, true, true, true, true, true, true, true, true, true, true, true, true, true, true, true, true, true, true, true, true, false, false, false, false, false, false, false, false, false]
abbrev spec_l19Ok.d36 : Array Bool := #[true, true, true, true, true, true, true, true, true, true, true, true, true, true, true, true, true, true, true, true, true, true, true, false, false, false, false, false, false, false, false]
abbrev spec_l19Ok.d37 : Array Bool := #[true, true, true, true, true, true, true, true, true, true, true, true, true, true, true, true, true, true, true, true, true, true, true, true, false, false, false, false, false, false, false]
abbrev spec_l19Ok.d38 : Array Bool := #[true, true, true, true, true, true, true, true, true, true, true, true, true, true, true, true, true, true, true, true, true, true, true, true, true, false, false, false, false, false, false]
abbrev spec_l19Ok.d39 : Array Bool := #[true, true, true, true, true, true, true, true, true, true, true, true, true, true, true, true, true, true, true, true, true, true, true, true, true, true, false, false, false, false, false]
set_option maxHeartbeats 8000000 in
set_option maxRecDepth 100000 in
theorem spec_l19Ok.calls (k : Nat) (A0 : Option Addr) (l0 : List (S24)) (r : Bool) (w : World) (hr0 : Kd.C k24 w A0 l0.length l0) (h : spec_l19Ok.f k l0 = some r) :
 Calls Tryd.prog 16 #[.pointer A0] w fun e w' => e = .returned (.bool r) ∧ Below w.heap.size w w' := by
 have HR0 := mkA hr0
 clear hr0
 have HB := mkA (Below.refl w.heap.size w)
 have H : (if 0 < (l0.length : Int) then ((spec_l00In.f ((rd_T24 l0 0).f0) 1 12).bind fun t111 => (if t111 = true then ((spec_l00In.f ((rd_T24 l0 0).f1) 1 12).bind fun t113 => (if t113 = true then (spec_l19Ok.j0 k ((((rd_T24 l0 0).f2).length : Int) != (wrap64 (((rd_T24 l0 0).f0) * ((rd_T24 l0 0).f1)))) l0) else (spec_l19Ok.j0 k true l0))) else (spec_l19Ok.j0 k true l0))) else (none)) = some r := h
 clear h
 have HC2 := mkA H
 clear H
 go_enter Tryd.func16, Tryd.ntmps16
 go_upto_region 1 with (fail)
 go_cut [34] (fun v34 wc => ∃ (kq : Nat) (x34_1 : Bool), v34 = .bool x34_1 ∧ Aside0 (spec_l19Ok.j0 kq x34_1 l0 = some r) ∧ Aside0 (kq ≤ k) ∧ Aside0 (Below w.heap.size w wc))
 case first =>
  have H := HC2.out
  clear HC2
  by_cases c3 : 0 < (l0.length : Int)
  rotate_left
  · rw [if_neg c3] at H
    exact absurd H (by simp)
  rw [if_pos c3] at H
  have c3b0 : decide (0 < (l0.length : Int)) = true := decide_eq_true c3
  have c3b1 : decide (0 < l0.length) = true := decide_eq_true (by omega)
  clear c3
  (first | rw [c3b0] | (simp only [i64_w, i32_w]; rw [c3b0]) | skip)
  replace H := Option.bind_eq_some_iff.mp H
  obtain ⟨t111, A40, H⟩ := H
  replace H : (if t111 = true then ((spec_l00In.f ((rd_T24 l0 0).f1) 1 12).bind fun t113 => (if t113 = true then (spec_l19Ok.j0 k ((((rd_T24 l0 0).f2).length : Int) != (wrap64 (((rd_T24 l0 0).f0) * ((rd_T24 l0 0).f1)))) l0) else (spec_l19Ok.j0 k true l0))) else (spec_l19Ok.j0 k true l0)) = some r := H
  have A4 := mkA A40
  clear A40
  by_cases c5 : t111 = true
  rotate_left
  · replace c5 := Bool.eq_false_iff.mpr c5
    subst c5
    have H1 : (spec_l19Ok.j0 k true l0) = some r := by rw [if_neg (show ¬ (false = true) by decide)] at H; exact H
    clear H
    have H := H1
    clear H1
    have H' := mkA H
    clear H
    try go_wp2
    have n0_ := mkA (below_drew1 HB.out)
    clear HB
    have HB := n0_
    clear n0_
    have p110 : 0 ≤ (0 : Int) := (by omega)
    have q110 : 0 < (l0.length : Int) := dt_
    obtain ⟨ad110, A110_2, c110_2, e110, hx110_0, hx110_1, hx110_2, hl110_2, hi110_2⟩ := at0_T24 HR0.out q110
    have hw110_2 := hx110_2
    have hw110_1 := hx110_1
    have hw110_0 := hx110_0
    cases e110
    have qi110 : (0 < l0.length) = True := eq_true (by omega)
    replace hx110_0 := bc_ HB.out hx110_0
    replace hx110_1 := bc_ HB.out hx110_1
    replace hx110_2 := bc_ HB.out hx110_2
    have HR110_2 := mkA hi110_2
    have HC110_2 := mkA hl110_2
    clear hi110_2 hl110_2
    replace p110 := eq_true p110
    replace q110 := eq_true q110
    refine start_ (n := 31) (S := fun w' => w'.cell? ad110 = some (.int .i64 ((rd_T24 l0 0).f0)) ∧ w'.cell? ⟨ad110.block, ad110.off + 1, none⟩ = some (.int .i64 ((rd_T24 l0 0).f1)) ∧ w'.cell? ⟨ad110.block, ad110.off + 2, none⟩ = some (.slice A110_2 ((rd_T24 l0 0).f2).length c110_2)) (ds := []) spec_l19Ok.d0 (by kernel_rfl) rfl rfl ⟨(bc_ HB.out hw110_0 :), (bc_ HB.out hw110_1 :), (bc_ HB.out hw110_2 :)⟩ (fun hHeld => ?_); refine with_tabW spec_l19Ok.tab1 spec_l19Ok.bits1 (fun HT_ HW_ => ?_)
    generalize w.drew = w10 at HB HR110_2 hx110_0 hx110_1 hx110_2 hHeld ⊢
    refine p1_ HT_.out 0 4 spec_l19Ok.d1 ?_
    refine p1_ HT_.out 1 5 spec_l19Ok.d2 ?_
    refine p1_ HT_.out 2 6 spec_l19Ok.d3 ?_
    refine take_ (i := 3) (N := some 7) (v := ?_) (a' := ?_) spec_l19Ok.d4 rfl rfl (take_ofW HT_.out HW_.out (by kernel_rfl)) (fun _ _ _ h => h) (Or.inl ⟨by rfl, ?_⟩) hHeld ?_ ?_
    rotate_left
    · rintro w' ⟨s0, s1, s2⟩
      go_simp
      with_reducible rfl
    rotate_left
    · simp only [Act.put, sA, sB, sC, i64_w, i32_w]
      rfl
    refine one_ (i := 4) (N := some 8) spec_l19Ok.d5 rfl rfl (one_of HT_.out (by kernel_rfl)) (by decide) (fun K hK => ?_)
    refine goes_ Tryd.func21 (by kernel_rfl) rfl #[.int .i64 ((rd_T24 l0 0).f0), .int .i64 1, .int .i64 12] (by rfl) rfl rfl (by (try simp only [List.map_toArray, List.map_cons, List.map_nil]); first | done | rfl | (simp only [List.length_drop, List.length_take]; rfl)) ?_
    with_reducible refine (spec_l00In.calls ((rd_T24 l0 0).f0) 1 12 false _ A4.out).mono ?_
    rintro e w' ⟨rfl, ⟨nd, rfl⟩⟩
    refine ⟨_, rfl, ?_⟩
    refine hK.out _ _ ⟨(bc_ HB.out hw110_0 :), (bc_ HB.out hw110_1 :), (bc_ HB.out hw110_2 :)⟩ (fun hHeld => ?_)
    clear hK K
    refine norm_ (a' := ?_) ?_ ?_
    rotate_left
    · show Act.put _ (some 8) _ = _
      simp only [Act.put, sA, sB, sC, i64_w, i32_w]
      rfl
    refine p1_ HT_.out 5 9 spec_l19Ok.d6 ?_
    refine p1_ HT_.out 6 10 spec_l19Ok.d7 ?_
    refine p0_ HT_.out 7 11 spec_l19Ok.d8 ?_
    refine p0_ HT_.out 8 12 spec_l19Ok.d9 ?_
    refine p0_ HT_.out 9 13 spec_l19Ok.d10 ?_
    refine p0_ HT_.out 10 14 spec_l19Ok.d11 ?_
    refine p0_ HT_.out 11 15 spec_l19Ok.d12 ?_
    refine p0_ HT_.out 12 16 spec_l19Ok.d13 ?_
    refine p1_ HT_.out 13 17 spec_l19Ok.d14 ?_
    refine p1_ HT_.out 14 18 spec_l19Ok.d15 ?_
    refine p0_ HT_.out 15 19 spec_l19Ok.d16 ?_
    refine p0_ HT_.out 16 20 spec_l19Ok.d17 ?_
    refine p0_ HT_.out 17 21 spec_l19Ok.d18 ?_
    refine p0_ HT_.out 18 22 spec_l19Ok.d32 ?_
    refine p0_ HT_.out 19 23 spec_l19Ok.d33 ?_
    refine p0_ HT_.out 20 24 spec_l19Ok.d34 ?_
    refine p0_ HT_.out 21 25 spec_l19Ok.d35 ?_
    refine p0_ HT_.out 22 26 spec_l19Ok.d36 ?_
    refine p0_ HT_.out 23 27 spec_l19Ok.d37 ?_
    refine p0_ HT_.out 24 28 spec_l19Ok.d38 ?_
    refine p0_ HT_.out 25 29 spec_l19Ok.d39 ?_
    refine p0_ HT_.out 26 30 spec_l19Ok.d27 ?_
    refine p0_ HT_.out 27 31 spec_l19Ok.d28 ?_
    refine p0_ HT_.out 28 32 spec_l19Ok.d29 ?_
    refine p0_ HT_.out 29 33 spec_l19Ok.d30 ?_
    refine p1_ HT_.out 30 34 spec_l19Ok.d31 ?_
    refine done_ (done_of HT_.out (by kernel_rfl)) ?_
    try go_wp2
    go_meet
    case rel => exact ⟨_, (true), (by first | rfl | (simp; done) | (simp [*]; done) | (simp [i64_w, i32_w]; done)), H', ⟨by first | omega | exact Nat.le_refl _⟩, ⟨by repeat (first | (with_reducible first | exact HB.out | apply below_alloc | apply pw_below_drewN | apply below_drew1) | exact HB.out)⟩⟩
  subst c5
  have H1 : ((spec_l00In.f ((rd_T24 l0 0).f1) 1 12).bind fun t113 => (if t113 = true then (spec_l19Ok.j0 k ((((rd_T24 l0 0).f2).length : Int) != (wrap64 (((rd_T24 l0 0).f0) * ((rd_T24 l0 0).f1)))) l0) else (spec_l19Ok.j0 k true l0))) = some r := by rw [if_pos rfl] at H; exact H
  clear H
  have H := H1
  clear H1
  replace H := Option.bind_eq_some_iff.mp H
  obtain ⟨t113, A60, H⟩ := H
  replace H : (if t113 = true then (spec_l19Ok.j0 k ((((rd_T24 l0 0).f2).length : Int) != (wrap64 (((rd_T24 l0 0).f0) * ((rd_T24 l0 0).f1)))) l0) else (spec_l19Ok.j0 k true l0)) = some r := H
  have A6 := mkA A60
  clear A60
  by_cases c7 : t113 = true
  rotate_left
  · replace c7 := Bool.eq_false_iff.mpr c7
    subst c7
    have H1 : (spec_l19Ok.j0 k true l0) = some r := by rw [if_neg (show ¬ (false = true) by decide)] at H; exact H
    clear H
    have H := H1
    clear H1
    have H' := mkA H
    clear H
    try go_wp2
    have n0_ := mkA (below_drew1 HB.out)
    clear HB
    have HB := n0_
    clear n0_
    have p110 : 0 ≤ (0 : Int) := (by omega)
    have q110 : 0 < (l0.length : Int) := dt_
    obtain ⟨ad110, A110_2, c110_2, e110, hx110_0, hx110_1, hx110_2, hl110_2, hi110_2⟩ := at0_T24 HR0.out q110
    have hw110_2 := hx110_2
    have hw110_1 := hx110_1
    have hw110_0 := hx110_0
    cases e110
    have qi110 : (0 < l0.length) = True := eq_true (by omega)
    replace hx110_0 := bc_ HB.out hx110_0
    replace hx110_1 := bc_ HB.out hx110_1
    replace hx110_2 := bc_ HB.out hx110_2
    have HR110_2 := mkA hi110_2
    have HC110_2 := mkA hl110_2
    clear hi110_2 hl110_2
    replace p110 := eq_true p110
    replace q110 := eq_true q110
    have p112 : 0 ≤ (0 : Int) := (by omega)
    have q112 : 0 < (l0.length : Int) := dt_
    obtain ⟨ad112, A112_2, c112_2, e112, hx112_0, hx112_1, hx112_2, hl112_2, hi112_2⟩ := at0_T24 HR0.out q112
    have hw112_2 := hx112_2
    have hw112_1 := hx112_1
    have hw112_0 := hx112_0
    obtain rfl : ad110 = ad112 := (by injection e112)
    have qi112 : (0 < l0.length) = True := eq_true (by omega)
    replace hx112_0 := bc_ HB.out hx112_0
    replace hx112_1 := bc_ HB.out hx112_1
    replace hx112_2 := bc_ HB.out hx112_2
    have HR112_2 := mkA hi112_2
    have HC112_2 := mkA hl112_2
    clear hi112_2 hl112_2
    replace p112 := eq_true p112
    replace q112 := eq_true q112
    have ea_ := Option.some.inj (hx110_2.symm.trans hx112_2)
    injection ea_ with ea_ en_ ec_
    subst ea_
    subst ec_
    clear en_
    refine start_ (n := 31) (S := fun w' => w'.cell? ad110 = some (.int .i64 ((rd_T24 l0 0).f0)) ∧ w'.cell? ⟨ad110.block, ad110.off + 1, none⟩ = some (.int .i64 ((rd_T24 l0 0).f1)) ∧ w'.cell? ⟨ad110.block, ad110.off + 2, none⟩ = some (.slice A110_2 ((rd_T24 l0 0).f2).length c110_2) ∧ w'.cell? ad110 = some (.int .i64 ((rd_T24 l0 0).f0)) ∧ w'.cell? ⟨ad110.block, ad110.off + 1, none⟩ = some (.int .i64 ((rd_T24 l0 0).f1)) ∧ w'.cell? ⟨ad110.block, ad110.off + 2, none⟩ = some (.slice A110_2 ((rd_T24 l0 0).f2).length c110_2)) (ds := []) spec_l19Ok.d0 (by kernel_rfl) rfl rfl ⟨(bc_ HB.out hw110_0 :), (bc_ HB.out hw110_1 :), (bc_ HB.out hw110_2 :), (bc_ HB.out hw112_0 :), (bc_ HB.out hw112_1 :), (bc_ HB.out hw112_2 :)⟩ (fun hHeld => ?_); refine with_tabW spec_l19Ok.tab1 spec_l19Ok.bits1 (fun HT_ HW_ => ?_)
    generalize w.drew = w9 at HB HR110_2 HR112_2 hx110_0 hx110_1 hx110_2 hx112_0 hx112_1 hx112_2 hHeld ⊢
    refine p1_ HT_.out 0 4 spec_l19Ok.d1 ?_
    refine p1_ HT_.out 1 5 spec_l19Ok.d2 ?_
    refine p1_ HT_.out 2 6 spec_l19Ok.d3 ?_
    refine take_ (i := 3) (N := some 7) (v := ?_) (a' := ?_) spec_l19Ok.d4 rfl rfl (take_ofW HT_.out HW_.out (by kernel_rfl)) (fun _ _ _ h => h) (Or.inl ⟨by rfl, ?_⟩) hHeld ?_ ?_
    rotate_left
    · rintro w' ⟨s0, s1, s2, s3, s4, s5⟩
      go_simp
      with_reducible rfl
    rotate_left
    · simp only [Act.put, sA, sB, sC, i64_w, i32_w]
      rfl
    refine one_ (i := 4) (N := some 8) spec_l19Ok.d5 rfl rfl (one_of HT_.out (by kernel_rfl)) (by decide) (fun K hK => ?_)
    refine goes_ Tryd.func21 (by kernel_rfl) rfl #[.int .i64 ((rd_T24 l0 0).f0), .int .i64 1, .int .i64 12] (by rfl) rfl rfl (by (try simp only [List.map_toArray, List.map_cons, List.map_nil]); first | done | rfl | (simp only [List.length_drop, List.length_take]; rfl)) ?_
    with_reducible refine (spec_l00In.calls ((rd_T24 l0 0).f0) 1 12 true _ A4.out).mono ?_
    rintro e w' ⟨rfl, ⟨nd, rfl⟩⟩
    refine ⟨_, rfl, ?_⟩
    refine hK.out _ _ ⟨(bc_ HB.out hw110_0 :), (bc_ HB.out hw110_1 :), (bc_ HB.out hw110_2 :), (bc_ HB.out hw112_0 :), (bc_ HB.out hw112_1 :), (bc_ HB.out hw112_2 :)⟩ (fun hHeld => ?_)
    clear hK K
    refine norm_ (a' := ?_) ?_ ?_
    rotate_left
    · show Act.put _ (some 8) _ = _
      simp only [Act.put, sA, sB, sC, i64_w, i32_w]
      rfl
    refine p1_ HT_.out 5 9 spec_l19Ok.d6 ?_
    refine p1_ HT_.out 6 10 spec_l19Ok.d7 ?_
    refine p1_ HT_.out 7 11 spec_l19Ok.d8 ?_
    refine p1_ HT_.out 8 12 spec_l19Ok.d9 ?_
    refine p1_ HT_.out 9 13 spec_l19Ok.d10 ?_
    refine take_ (i := 10) (N := some 14) (v := ?_) (a' := ?_) spec_l19Ok.d11 rfl rfl (take_ofW HT_.out HW_.out (by kernel_rfl)) (fun _ _ _ h => h) (Or.inl ⟨by rfl, ?_⟩) hHeld ?_ ?_
    rotate_left
    · rintro w' ⟨s0, s1, s2, s3, s4, s5⟩
      go_simp
      with_reducible rfl
    rotate_left
    · simp only [Act.put, sA, sB, sC, i64_w, i32_w]
      rfl
    refine one_ (i := 11) (N := some 15) spec_l19Ok.d12 rfl rfl (one_of HT_.out (by kernel_rfl)) (by decide) (fun K hK => ?_)
    refine goes_ Tryd.func21 (by kernel_rfl) rfl #[.int .i64 ((rd_T24 l0 0).f1), .int .i64 1, .int .i64 12] (by rfl) rfl rfl (by (try simp only [List.map_toArray, List.map_cons, List.map_nil]); first | done | rfl | (simp only [List.length_drop, List.length_take]; rfl)) ?_
    with_reducible refine (spec_l00In.calls ((rd_T24 l0 0).f1) 1 12 false _ A6.out).mono ?_
    rintro e w' ⟨rfl, ⟨nd, rfl⟩⟩
    refine ⟨_, rfl, ?_⟩
    refine hK.out _ _ ⟨(bc_ HB.out hw110_0 :), (bc_ HB.out hw110_1 :), (bc_ HB.out hw110_2 :), (bc_ HB.out hw112_0 :), (bc_ HB.out hw112_1 :), (bc_ HB.out hw112_2 :)⟩ (fun hHeld => ?_)
    clear hK K
    refine norm_ (a' := ?_) ?_ ?_
    rotate_left
    · show Act.put _ (some 15) _ = _
      simp only [Act.put, sA, sB, sC, i64_w, i32_w]
      rfl
    refine p1_ HT_.out 12 16 spec_l19Ok.d13 ?_
    refine p1_ HT_.out 13 17 spec_l19Ok.d14 ?_
    refine p1_ HT_.out 14 18 spec_l19Ok.d15 ?_
    refine p0_ HT_.out 15 19 spec_l19Ok.d16 ?_
    refine p0_ HT_.out 16 20 spec_l19Ok.d17 ?_
    refine p0_ HT_.out 17 21 spec_l19Ok.d18 ?_
    refine p0_ HT_.out 18 22 spec_l19Ok.d32 ?_
    refine p0_ HT_.out 19 23 spec_l19Ok.d33 ?_
    refine p0_ HT_.out 20 24 spec_l19Ok.d34 ?_
    refine p0_ HT_.out 21 25 spec_l19Ok.d35 ?_
    refine p0_ HT_.out 22 26 spec_l19Ok.d36 ?_
    refine p0_ HT_.out 23 27 spec_l19Ok.d37 ?_
    refine p0_ HT_.out 24 28 spec_l19Ok.d38 ?_
    refine p0_ HT_.out 25 29 spec_l19Ok.d39 ?_
    refine p0_ HT_.out 26 30 spec_l19Ok.d27 ?_
    refine p0_ HT_.out 27 31 spec_l19Ok.d28 ?_
    refine p0_ HT_.out 28 32 spec_l19Ok.d29 ?_
    refine p0_ HT_.out 29 33 spec_l19Ok.d30 ?_
    refine p1_ HT_.out 30 34 spec_l19Ok.d31 ?_
    refine done_ (done_of HT_.out (by kernel_rfl)) ?_
    try go_wp2
    go_meet
    case rel => exact ⟨_, (true), (by first | rfl | (simp; done) | (simp [*]; done) | (simp [i64_w, i32_w]; done)), H', ⟨by first | omega | exact Nat.le_refl _⟩, ⟨by repeat (first | (with_reducible first | exact HB.out | apply below_alloc | apply pw_below_drewN | apply below_drew1) | exact HB.out)⟩⟩
  subst c7
  have H1 : (spec_l19Ok.j0 k ((((rd_T24 l0 0).f2).length : Int) != (wrap64 (((rd_T24 l0 0).f0) * ((rd_T24 l0 0).f1)))) l0) = some r := by rw [if_pos rfl] at H; exact H
  clear H
  have H := H1
  clear H1
  have H' := mkA H
  clear H
  try go_wp2
  have n0_ := mkA (below_drew1 HB.out)
  clear HB
  have HB := n0_
  clear n0_
  have p110 : 0 ≤ (0 : Int) := (by omega)
  have q110 : 0 < (l0.length : Int) := dt_
  obtain ⟨ad110, A110_2, c110_2, e110, hx110_0, hx110_1, hx110_2, hl110_2, hi110_2⟩ := at0_T24 HR0.out q110
  have hw110_2 := hx110_2
  have hw110_1 := hx110_1
  have hw110_0 := hx110_0
  cases e110
  have qi110 : (0 < l0.length) = True := eq_true (by omega)
  replace hx110_0 := bc_ HB.out hx110_0
  replace hx110_1 := bc_ HB.out hx110_1
  replace hx110_2 := bc_ HB.out hx110_2
  have HR110_2 := mkA hi110_2
  have HC110_2 := mkA hl110_2
  clear hi110_2 hl110_2
  replace p110 := eq_true p110
  replace q110 := eq_true q110
  have p112 : 0 ≤ (0 : Int) := (by omega)
  have q112 : 0 < (l0.length : Int) := dt_
  obtain ⟨ad112, A112_2, c112_2, e112, hx112_0, hx112_1, hx112_2, hl112_2, hi112_2⟩ := at0_T24 HR0.out q112
  have hw112_2 := hx112_2
  have hw112_1 := hx112_1
  have hw112_0 := hx112_0
  obtain rfl : ad110 = ad112 := (by injection e112)
  have qi112 : (0 < l0.length) = True := eq_true (by omega)
  replace hx112_0 := bc_ HB.out hx112_0
  replace hx112_1 := bc_ HB.out hx112_1
  replace hx112_2 := bc_ HB.out hx112_2
  have HR112_2 := mkA hi112_2
  have HC112_2 := mkA hl112_2
  clear hi112_2 hl112_2
  replace p112 := eq_true p112
  replace q112 := eq_true q112
  have ea_ := Option.some.inj (hx110_2.symm.trans hx112_2)
  injection ea_ with ea_ en_ ec_
  subst ea_
  subst ec_
  clear en_
  have p114 : 0 ≤ (0 : Int) := (by omega)
  have q114 : 0 < (l0.length : Int) := dt_
  obtain ⟨ad114, A114_2, c114_2, e114, hx114_0, hx114_1, hx114_2, hl114_2, hi114_2⟩ := at0_T24 HR0.out q114
  have hw114_2 := hx114_2
  have hw114_1 := hx114_1
  have hw114_0 := hx114_0
  obtain rfl : ad110 = ad114 := (by injection e114)
  have qi114 : (0 < l0.length) = True := eq_true (by omega)
  replace hx114_0 := bc_ HB.out hx114_0
  replace hx114_1 := bc_ HB.out hx114_1
  replace hx114_2 := bc_ HB.out hx114_2
  have HR114_2 := mkA hi114_2
  have HC114_2 := mkA hl114_2
  clear hi114_2 hl114_2
  replace p114 := eq_true p114
  replace q114 := eq_true q114
  have ea_ := Option.some.inj (hx110_2.symm.trans hx114_2)
  injection ea_ with ea_ en_ ec_
  subst ea_
  subst ec_
  clear en_
  have p115 : 0 ≤ (0 : Int) := (by omega)
  have q115 : 0 < (l0.length : Int) := dt_
  obtain ⟨ad115, A115_2, c115_2, e115, hx115_0, hx115_1, hx115_2, hl115_2, hi115_2⟩ := at0_T24 HR0.out q115
  have hw115_2 := hx115_2
  have hw115_1 := hx115_1
  have hw115_0 := hx115_0
  obtain rfl : ad110 = ad115 := (by injection e115)
  have qi115 : (0 < l0.length) = True := eq_true (by omega)
  replace hx115_0 := bc_ HB.out hx115_0
  replace hx115_1 := bc_ HB.out hx115_1
  replace hx115_2 := bc_ HB.out hx115_2
  have HR115_2 := mkA hi115_2
  have HC115_2 := mkA hl115_2
  clear hi115_2 hl115_2
  replace p115 := eq_true p115
  replace q115 := eq_true q115
  have ea_ := Option.some.inj (hx110_2.symm.trans hx115_2)
  injection ea_ with ea_ en_ ec_
  subst ea_
  subst ec_
  clear en_
  have p116 : 0 ≤ (0 : Int) := (by omega)
  have q116 : 0 < (l0.length : Int) := dt_
  obtain ⟨ad116, A116_2, c116_2, e116, hx116_0, hx116_1, hx116_2, hl116_2, hi116_2⟩ := at0_T24 HR0.out q116
  have hw116_2 := hx116_2
  have hw116_1 := hx116_1
  have hw116_0 := hx116_0
  obtain rfl : ad110 = ad116 := (by injection e116)
  have qi116 : (0 < l0.length) = True := eq_true (by omega)
  replace hx116_0 := bc_ HB.out hx116_0
  replace hx116_1 := bc_ HB.out hx116_1
  replace hx116_2 := bc_ HB.out hx116_2
  have HR116_2 := mkA hi116_2
  have HC116_2 := mkA hl116_2
  clear hi116_2 hl116_2
  replace p116 := eq_true p116
  replace q116 := eq_true q116
  have ea_ := Option.some.inj (hx110_2.symm.trans hx116_2)
  injection ea_ with ea_ en_ ec_
  subst ea_
  subst ec_
  clear en_
  refine start_ (n := 31) (S := fun w' => w'.cell? ad110 = some (.int .i64 ((rd_T24 l0 0).f0)) ∧ w'.cell? ⟨ad110.block, ad110.off + 1, none⟩ = some (.int .i64 ((rd_T24 l0 0).f1)) ∧ w'.cell? ⟨ad110.block, ad110.off + 2, none⟩ = some (.slice A110_2 ((rd_T24 l0 0).f2).length c110_2) ∧ w'.cell? ad110 = some (.int .i64 ((rd_T24 l0 0).f0)) ∧ w'.cell? ⟨ad110.block, ad110.off + 1, none⟩ = some (.int .i64 ((rd_T24 l0 0).f1)) ∧ w'.cell? ⟨ad110.block, ad110.off + 2, none⟩ = some (.slice A110_2 ((rd_T24 l0 0).f2).length c110_2) ∧ w'.cell? ad110 = some (.int .i64 ((rd_T24 l0 0).f0)) ∧ w'.cell? ⟨ad110.block, ad110.off + 1, none⟩ = some (.int .i64 ((rd_T24 l0 0).f1)) ∧ w'.cell? ⟨ad110.block, ad110.off + 2, none⟩ = some (.slice A110_2 ((rd_T24 l0 0).f2).length c110_2) ∧ w'.cell? ad110 = some (.int .i64 ((rd_T24 l0 0).f0)) ∧ w'.cell? ⟨ad110.block, ad110.off + 1, none⟩ = some (.int .i64 ((rd_T24 l0 0).f1)) ∧ w'.cell? ⟨ad110.block, ad110.off + 2, none⟩ = some (.slice A110_2 ((rd_T24 l0 0).f2).length c110_2) ∧ w'.cell? ad110 = some (.int .i64 ((rd_T24 l0 0).f0)) ∧ w'.cell? ⟨ad110.block, ad110.off + 1, none⟩ = some (.int .i64 ((rd_T24 l0 0).f1)) ∧ w'.cell? ⟨ad110.block, ad110.off + 2, none⟩ = some (.slice A110_2 ((rd_T24 l0 0).f2).length c110_2)) (ds := []) spec_l19Ok.d0 (by kernel_rfl) rfl rfl ⟨(bc_ HB.out hw110_0 :), (bc_ HB.out hw110_1 :), (bc_ HB.out hw110_2 :), (bc_ HB.out hw112_0 :), (bc_ HB.out hw112_1 :), (bc_ HB.out hw112_2 :), (bc_ HB.out hw114_0 :), (bc_ HB.out hw114_1 :), (bc_ HB.out hw114_2 :), (bc_ HB.out hw115_0 :), (bc_ HB.out hw115_1 :), (bc_ HB.out hw115_2 :), (bc_ HB.out hw116_0 :), (bc_ HB.out hw116_1 :), (bc_ HB.out hw116_2 :)⟩ (fun hHeld => ?_); refine with_tabW spec_l19Ok.tab1 spec_l19Ok.bits1 (fun HT_ HW_ => ?_)
  generalize w.drew = w8 at HB HR110_2 HR112_2 HR114_2 HR115_2 HR116_2 hx110_0 hx110_1 hx110_2 hx112_0 hx112_1 hx112_2 hx114_0 hx114_1 hx114_2 hx115_0 hx115_1 hx115_2 hx116_0 hx116_1 hx116_2 hHeld ⊢
  refine p1_ HT_.out 0 4 spec_l19Ok.d1 ?_
  refine p1_ HT_.out 1 5 spec_l19Ok.d2 ?_
  refine p1_ HT_.out 2 6 spec_l19Ok.d3 ?_
  refine take_ (i := 3) (N := some 7) (v := ?_) (a' := ?_) spec_l19Ok.d4 rfl rfl (take_ofW HT_.out HW_.out (by kernel_rfl)) (fun _ _ _ h => h) (Or.inl ⟨by rfl, ?_⟩) hHeld ?_ ?_
  rotate_left
  · rintro w' ⟨s0, s1, s2, s3, s4, s5, s6, s7, s8, s9, s10, s11, s12, s13, s14⟩
    go_simp
    with_reducible rfl
  rotate_left
  · simp only [Act.put, sA, sB, sC, i64_w, i32_w]
    rfl
  refine one_ (i := 4) (N := some 8) spec_l19Ok.d5 rfl rfl (one_of HT_.out (by kernel_rfl)) (by decide) (fun K hK => ?_)
  refine goes_ Tryd.func21 (by kernel_rfl) rfl #[.int .i64 ((rd_T24 l0 0).f0), .int .i64 1, .int .i64 12] (by rfl) rfl rfl (by (try simp only [List.map_toArray, List.map_cons, List.map_nil]); first | done | rfl | (simp only [List.length_drop, List.length_take]; rfl)) ?_
  with_reducible refine (spec_l00In.calls ((rd_T24 l0 0).f0) 1 12 true _ A4.out).mono ?_
  rintro e w' ⟨rfl, ⟨nd, rfl⟩⟩
  refine ⟨_, rfl, ?_⟩
  refine hK.out _ _ ⟨(bc_ HB.out hw110_0 :), (bc_ HB.out hw110_1 :), (bc_ HB.out hw110_2 :), (bc_ HB.out hw112_0 :), (bc_ HB.out hw112_1 :), (bc_ HB.out hw112_2 :), (bc_ HB.out hw114_0 :), (bc_ HB.out hw114_1 :), (bc_ HB.out hw114_2 :), (bc_ HB.out hw115_0 :), (bc_ HB.out hw115_1 :), (bc_ HB.out hw115_2 :), (bc_ HB.out hw116_0 :), (bc_ HB.out hw116_1 :), (bc_ HB.out hw116_2 :)⟩ (fun hHeld => ?_)
  clear hK K
  refine norm_ (a' := ?_) ?_ ?_
  rotate_left
  · show Act.put _ (some 8) _ = _
    simp only [Act.put, sA, sB, sC, i64_w, i32_w]
    rfl
  refine p1_ HT_.out 5 9 spec_l19Ok.d6 ?_
  refine p1_ HT_.out 6 10 spec_l19Ok.d7 ?_
  refine p1_ HT_.out 7 11 spec_l19Ok.d8 ?_
  refine p1_ HT_.out 8 12 spec_l19Ok.d9 ?_
  refine p1_ HT_.out 9 13 spec_l19Ok.d10 ?_
  refine take_ (i := 10) (N := some 14) (v := ?_) (a' := ?_) spec_l19Ok.d11 rfl rfl (take_ofW HT_.out HW_.out (by kernel_rfl)) (fun _ _ _ h => h) (Or.inl ⟨by rfl, ?_⟩) hHeld ?_ ?_
  rotate_left
  · rintro w' ⟨s0, s1, s2, s3, s4, s5, s6, s7, s8, s9, s10, s11, s12, s13, s14⟩
    go_simp
    with_reducible rfl
  rotate_left
  · simp only [Act.put, sA, sB, sC, i64_w, i32_w]
    rfl
  refine one_ (i := 11) (N := some 15) spec_l19Ok.d12 rfl rfl (one_of HT_.out (by kernel_rfl)) (by decide) (fun K hK => ?_)
  refine goes_ Tryd.func21 (by kernel_rfl) rfl #[.int .i64 ((rd_T24 l0 0).f1), .int .i64 1, .int .i64 12] (by rfl) rfl rfl (by (try simp only [List.map_toArray, List.map_cons, List.map_nil]); first | done | rfl | (simp only [List.length_drop, List.length_take]; rfl)) ?_
  with_reducible refine (spec_l00In.calls ((rd_T24 l0 0).f1) 1 12 true _ A6.out).mono ?_
  rintro e w' ⟨rfl, ⟨nd, rfl⟩⟩
  refine ⟨_, rfl, ?_⟩
  refine hK.out _ _ ⟨(bc_ HB.out hw110_0 :), (bc_ HB.out hw110_1 :), (bc_ HB.out hw110_2 :), (bc_ HB.out hw112_0 :), (bc_ HB.out hw112_1 :), (bc_ HB.out hw112_2 :), (bc_ HB.out hw114_0 :), (bc_ HB.out hw114_1 :), (bc_ HB.out hw114_2 :), (bc_ HB.out hw115_0 :), (bc_ HB.out hw115_1 :), (bc_ HB.out hw115_2 :), (bc_ HB.out hw116_0 :), (bc_ HB.out hw116_1 :), (bc_ HB.out hw116_2 :)⟩ (fun hHeld => ?_)
  clear hK K
  refine norm_ (a' := ?_) ?_ ?_
  rotate_left
  · show Act.put _ (some 15) _ = _
    simp only [Act.put, sA, sB, sC, i64_w, i32_w]
    rfl
  refine p1_ HT_.out 12 16 spec_l19Ok.d13 ?_
  refine p1_ HT_.out 13 17 spec_l19Ok.d14 ?_
  refine p1_ HT_.out 14 18 spec_l19Ok.d15 ?_
  refine p1_ HT_.out 15 19 spec_l19Ok.d16 ?_
  refine p1_ HT_.out 16 20 spec_l19Ok.d17 ?_
  refine p1_ HT_.out 17 21 spec_l19Ok.d18 ?_
  refine p1_ HT_.out 20 24 spec_l19Ok.d19 ?_
  refine p1_ HT_.out 21 25 spec_l19Ok.d20 ?_
  refine p1_ HT_.out 22 26 spec_l19Ok.d21 ?_
  refine p1_ HT_.out 24 28 spec_l19Ok.d22 ?_
  refine p1_ HT_.out 25 29 spec_l19Ok.d23 ?_
  refine p1_ HT_.out 26 30 spec_l19Ok.d24 ?_
  refine take_ (i := 18) (N := some 22) (v := ?_) (a' := ?_) spec_l19Ok.d25 rfl rfl (take_ofW HT_.out HW_.out (by kernel_rfl)) (fun _ _ _ h => h) (Or.inl ⟨by rfl, ?_⟩) hHeld ?_ ?_
  rotate_left
  · rintro w' ⟨s0, s1, s2, s3, s4, s5, s6, s7, s8, s9, s10, s11, s12, s13, s14⟩
    go_simp
    with_reducible rfl
  rotate_left
  · simp only [Act.put, sA, sB, sC, i64_w, i32_w]
    rfl
  refine p1_ HT_.out 19 23 spec_l19Ok.d26 ?_
  refine take_ (i := 23) (N := some 27) (v := ?_) (a' := ?_) spec_l19Ok.d27 rfl rfl (take_ofW HT_.out HW_.out (by kernel_rfl)) (fun _ _ _ h => h) (Or.inl ⟨by rfl, ?_⟩) hHeld ?_ ?_
  rotate_left
  · rintro w' ⟨s0, s1, s2, s3, s4, s5, s6, s7, s8, s9, s10, s11, s12, s13, s14⟩
    go_simp
    with_reducible rfl
  rotate_left
  · simp only [Act.put, sA, sB, sC, i64_w, i32_w]
    rfl
  refine take_ (i := 27) (N := some 31) (v := ?_) (a' := ?_) spec_l19Ok.d28 rfl rfl (take_ofW HT_.out HW_.out (by kernel_rfl)) (fun _ _ _ h => h) (Or.inl ⟨by rfl, ?_⟩) hHeld ?_ ?_
  rotate_left
  · rintro w' ⟨s0, s1, s2, s3, s4, s5, s6, s7, s8, s9, s10, s11, s12, s13, s14⟩
    go_simp
    with_reducible rfl
  rotate_left
  · simp only [Act.put, sA, sB, sC, i64_w, i32_w]
    rfl
  refine p1_ HT_.out 28 32 spec_l19Ok.d29 ?_
  refine p1_ HT_.out 29 33 spec_l19Ok.d30 ?_
  refine p1_ HT_.out 30 34 spec_l19Ok.d31 ?_
  refine done_ (done_of HT_.out (by kernel_rfl)) ?_
  try go_wp2
  go_meet
  case rel => exact ⟨_, (((((rd_T24 l0 0).f2).length : Int) != (wrap64 (((rd_T24 l0 0).f0) * ((rd_T24 l0 0).f1))))), (by first | rfl | (simp; done) | (simp [*]; done) | (simp [i64_w, i32_w]; done)), H', ⟨by first | omega | exact Nat.le_refl _⟩, ⟨by repeat (first | (with_reducible first | exact HB.out | apply below_alloc | apply pw_below_drewN | apply below_drew1) | exact HB.out)⟩⟩
 case rest =>
  clear HC2
  try clear c1
  try clear p1
  try clear q1
  try clear hx1
  try clear qi1
  try clear c2
  try clear p2
  try clear c3
  try clear c5
  try clear p6
  try clear c7
  try clear hx110_0
  try clear hx110_1
  try clear hx110_2
  try clear hx112_0
  try clear hx112_1
  try clear hx112_2
  try clear p110
  try clear p112
  try clear q110
  try clear q112
  obtain ⟨kq, x34_1, rfl, HA, HJ1, HB⟩ := hcut
  cases kq with
  | zero => exact absurd HA.out (by simp [spec_l19Ok.j0])
  | succ kj1 =>
   have H := HA.out
   clear HA
   simp only [spec_l19Ok.j0] at H
   by_cases c11 : x34_1 = true
   · subst c11
     have H1 : (some false) = some r := by rw [if_pos rfl] at H; exact H
     clear H
     have H := H1
     clear H1
     obtain rfl := Option.some.inj H
     go_wp2
     go_ret
     exact ⟨by first | rfl | (simp [errW_none, errW_some] <;> rfl) | (simp [*, errW_none, errW_some] <;> rfl), by repeat (first | (with_reducible first | exact HB.out | apply below_alloc | apply pw_below_drewN | apply below_drew1) | exact HB.out)⟩
   · replace c11 := Bool.eq_false_iff.mpr c11
     subst c11
     have H1 : (spec_l19Ok.l0 kj1 0 l0) = some r := by rw [if_neg (show ¬ (false = true) by decide)] at H; exact H
     clear H
     have H := H1
     clear H1
     have H' := mkA H
     clear H
     go_wp2
     go_loopg [3] kj1 (fun kq v3 w' => ∃ (x3_2 : Int), v3 = .int .i64 x3_2 ∧ Aside0 (spec_l19Ok.l0 kq x3_2 l0 = some r) ∧ Aside0 (kq ≤ kj1) ∧ Aside0 (Below w.heap.size w w'))
     case atStart => exact ⟨(0), (by first | rfl | (simp; done) | (simp [*]; done) | (simp [i64_w, i32_w]; done)), H', ⟨Nat.le_refl _⟩, ⟨by repeat (first | (with_reducible first | exact HB.out | apply below_alloc | apply pw_below_drewN | apply below_drew1) | exact HB.out)⟩⟩
     case round =>
      clear H'
      try clear c1
      try clear p1
      try clear q1
      try clear hx1
      try clear qi1
      try clear c2
      try clear p2
      try clear c3
      try clear c5
      try clear p6
      try clear c7
      try clear c11
      try clear p11
      try clear q11
      try clear hx11
      try clear qi11
      try clear hx110_0
      try clear hx110_1
      try clear hx110_2
      try clear hx112_0
      try clear hx112_1
      try clear hx112_2
      try clear p1
      try clear p110
      try clear p112
      try clear p2
      try clear p6
      try clear q1
      try clear q110
      try clear q112
      obtain ⟨x3_2, rfl, HA, HK2, HB⟩ := hrel
      cases gk with
      | zero => exact absurd HA.out (by simp [spec_l19Ok.l0])
      | succ k2 =>
       have H := HA.out
       clear HA
       simp only [spec_l19Ok.l0] at H
       by_cases c12 : 0 < (l0.length : Int)
       rotate_left
       · rw [if_neg c12] at H
         exact absurd H (by simp)

       rw [if_pos c12] at H
       have c12b0 : decide (0 < (l0.length : Int)) = true := decide_eq_true c12
       have c12b1 : decide (0 < l0.length) = true := decide_eq_true (by omega)
       clear c12
       by_cases c13 : x3_2 < (((rd_T24 l0 0).f2).length : Int)
       rotate_left
       · rw [if_neg c13] at H
         have c13b0 : decide (x3_2 < (((rd_T24 l0 0).f2).length : Int)) = false := decide_eq_false c13
         clear c13
         obtain rfl := Option.some.inj H
         have p117 : 0 ≤ (0 : Int) := (by omega)
         have q117 : 0 < (l0.length : Int) := dt_
         obtain ⟨ad117, A117_2, c117_2, e117, hx117_0, hx117_1, hx117_2, hl117_2, hi117_2⟩ := at0_T24 HR0.out q117
         cases e117
         have qi117 : (0 < l0.length) = True := eq_true (by omega)
         replace hx117_0 := bc_ HB.out hx117_0
         replace hx117_1 := bc_ HB.out hx117_1
         replace hx117_2 := bc_ HB.out hx117_2
         have HR117_2 := mkA hi117_2
         have HC117_2 := mkA hl117_2
         clear hi117_2 hl117_2
         replace p117 := eq_true p117
         replace q117 := eq_true q117
         go_wp2
         go_ret
         exact ⟨by first | rfl | (simp [errW_none, errW_some] <;> rfl) | (simp [*, errW_none, errW_some] <;> rfl), by repeat (first | (with_reducible first | exact HB.out | apply below_alloc | apply pw_below_drewN | apply below_drew1) | exact HB.out)⟩
       rw [if_pos c13] at H
       have c13b0 : decide (x3_2 < (((rd_T24 l0 0).f2).length : Int)) = true := decide_eq_true c13
       clear c13
       by_cases c14 : 0 ≤ x3_2
       rotate_left
       · rw [if_neg c14] at H
         exact absurd H (by simp)
       rw [if_pos c14] at H
       have c14b0 : decide (0 ≤ x3_2) = true := decide_eq_true c14
       clear c14
       replace H := Option.bind_eq_some_iff.mp H
       obtain ⟨t120, A150, H⟩ := H
       replace H : (if t120 = true then (spec_l19Ok.l0 k2 (wrap64 (x3_2 + 1)) l0) else (some false)) = some r := H
       have A15 := mkA A150
       clear A150
       by_cases c16 : t120 = true
       rotate_left
       · replace c16 := Bool.eq_false_iff.mpr c16
         subst c16
         have H1 : (some false) = some r := by rw [if_neg (show ¬ (false = true) by decide)] at H; exact H
         clear H
         have H := H1
         clear H1
         obtain rfl := Option.some.inj H
         have p117 : 0 ≤ (0 : Int) := (by omega)
         have q117 : 0 < (l0.length : Int) := dt_
         obtain ⟨ad117, A117_2, c117_2, e117, hx117_0, hx117_1, hx117_2, hl117_2, hi117_2⟩ := at0_T24 HR0.out q117
         cases e117
         have qi117 : (0 < l0.length) = True := eq_true (by omega)
         replace hx117_0 := bc_ HB.out hx117_0
         replace hx117_1 := bc_ HB.out hx117_1
         replace hx117_2 := bc_ HB.out hx117_2
         have HR117_2 := mkA hi117_2
         have HC117_2 := mkA hl117_2
         clear hi117_2 hl117_2
         replace p117 := eq_true p117
         replace q117 := eq_true q117
         have p118 : 0 ≤ (0 : Int) := (by omega)
         have q118 : 0 < (l0.length : Int) := dt_
         obtain ⟨ad118, A118_2, c118_2, e118, hx118_0, hx118_1, hx118_2, hl118_2, hi118_2⟩ := at0_T24 HR0.out q118
         obtain rfl : ad117 = ad118 := (by injection e118)
         have qi118 : (0 < l0.length) = True := eq_true (by omega)
         replace hx118_0 := bc_ HB.out hx118_0
         replace hx118_1 := bc_ HB.out hx118_1
         replace hx118_2 := bc_ HB.out hx118_2
         have HR118_2 := mkA hi118_2
         have HC118_2 := mkA hl118_2
         clear hi118_2 hl118_2
         replace p118 := eq_true p118
         replace q118 := eq_true q118
         have ea_ := Option.some.inj (hx117_2.symm.trans hx118_2)
         injection ea_ with ea_ en_ ec_
         subst ea_
         subst ec_
         clear en_
         have p119 : 0 ≤ (x3_2 : Int) := dt_
         have q119 : x3_2 < (((rd_T24 l0 0).f2).length : Int) := dt_
         obtain ⟨ad119, e119, hx119_0⟩ := Kd.at_int HR118_2.out x3_2 p119 q119
         cases e119
         replace hx119_0 := bc_ HB.out hx119_0
         replace p119 := eq_true p119
         replace q119 := eq_true q119
         go_wp2_with (first | ((with_reducible refine gate_callee (f := 21) rfl ?_); refine goesL_ (some 51) rfl rfl Tryd.func21 (by kernel_rfl) rfl #[.int .i64 (rd ((rd_T24 l0 0).f2) x3_2), .int .i64 0, .int .i64 1] rfl (by (try simp only [List.map_toArray, List.map_cons, List.map_nil]); first | done | rfl | (simp only [List.length_drop, List.length_take]; rfl)) ?_; (with_reducible refine (spec_l00In.calls (rd ((rd_T24 l0 0).f2) x3_2) 0 1 false _ A15.out).mono ?_); rintro e w' ⟨rfl, ⟨nd, rfl⟩⟩; refine ⟨_, rfl, ?_⟩))
         go_ret
         exact ⟨by first | rfl | (simp [errW_none, errW_some] <;> rfl) | (simp [*, errW_none, errW_some] <;> rfl), by repeat (first | (with_reducible first | exact HB.out | apply below_alloc | apply pw_below_drewN | apply below_drew1) | exact HB.out)⟩
       subst c16
       have H1 : (spec_l19Ok.l0 k2 (wrap64 (x3_2 + 1)) l0) = some r := by rw [if_pos rfl] at H; exact H
       clear H
       have H := H1
       clear H1
       have H' := mkA H
       clear H
       have p117 : 0 ≤ (0 : Int) := (by omega)
       have q117 : 0 < (l0.length : Int) := dt_
       obtain ⟨ad117, A117_2, c117_2, e117, hx117_0, hx117_1, hx117_2, hl117_2, hi117_2⟩ := at0_T24 HR0.out q117
       cases e117
       have qi117 : (0 < l0.length) = True := eq_true (by omega)
       replace hx117_0 := bc_ HB.out hx117_0
       replace hx117_1 := bc_ HB.out hx117_1
       replace hx117_2 := bc_ HB.out hx117_2
       have HR117_2 := mkA hi117_2
       have HC117_2 := mkA hl117_2
       clear hi117_2 hl117_2
       replace p117 := eq_true p117
       replace q117 := eq_true q117
       have p118 : 0 ≤ (0 : Int) := (by omega)
       have q118 : 0 < (l0.length : Int) := dt_
       obtain ⟨ad118, A118_2, c118_2, e118, hx118_0, hx118_1, hx118_2, hl118_2, hi118_2⟩ := at0_T24 HR0.out q118
       obtain rfl : ad117 = ad118 := (by injection e118)
       have qi118 : (0 < l0.length) = True := eq_true (by omega)
       replace hx118_0 := bc_ HB.out hx118_0
       replace hx118_1 := bc_ HB.out hx118_1
       replace hx118_2 := bc_ HB.out hx118_2
       have HR118_2 := mkA hi118_2
       have HC118_2 := mkA hl118_2
       clear hi118_2 hl118_2
       replace p118 := eq_true p118
       replace q118 := eq_true q118
       have ea_ := Option.some.inj (hx117_2.symm.trans hx118_2)
       injection ea_ with ea_ en_ ec_
       subst ea_
       subst ec_
       clear en_
       have p119 : 0 ≤ (x3_2 : Int) := dt_
       have q119 : x3_2 < (((rd_T24 l0 0).f2).length : Int) := dt_
       obtain ⟨ad119, e119, hx119_0⟩ := Kd.at_int HR118_2.out x3_2 p119 q119
       cases e119
       replace hx119_0 := bc_ HB.out hx119_0
       replace p119 := eq_true p119
       replace q119 := eq_true q119
       go_wp2_with (first | ((with_reducible refine gate_callee (f := 21) rfl ?_); refine goesL_ (some 51) rfl rfl Tryd.func21 (by kernel_rfl) rfl #[.int .i64 (rd ((rd_T24 l0 0).f2) x3_2), .int .i64 0, .int .i64 1] rfl (by (try simp only [List.map_toArray, List.map_cons, List.map_nil]); first | done | rfl | (simp only [List.length_drop, List.length_take]; rfl)) ?_; (with_reducible refine (spec_l00In.calls (rd ((rd_T24 l0 0).f2) x3_2) 0 1 true _ A15.out).mono ?_); rintro e w' ⟨rfl, ⟨nd, rfl⟩⟩; refine ⟨_, rfl, ?_⟩))
       go_roundg k2
       case measure => have := HJ1.out; have := HK2.out; omega
       case rel => exact ⟨(wrap64 (x3_2 + 1)), (by first | rfl | (simp; done) | (simp [*]; done) | (simp [i64_w, i32_w]; done)), H', ⟨by have := HJ1.out; have := HK2.out; omega⟩, ⟨by repeat (first | (with_reducible first | exact HB.out | apply below_alloc | apply pw_below_drewN | apply below_drew1) | exact HB.out)⟩⟩
end Go.Proofs.YtakagkflgkoiiaaDoor.GFnExactReadShape

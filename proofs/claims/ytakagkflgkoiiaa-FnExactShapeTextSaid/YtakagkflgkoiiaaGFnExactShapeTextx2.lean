-- Written by the session's own program (gen.py) out of the translation's print. Lean checks it.
import Derived.Test.YtakagkflgkoiiaaGFnExactShapeTextx0
import Derived.Test.YtakagkflgkoiiaaGFnExactShapeTextx1
namespace Go.Proofs.Ytakagkflgkoiiaa.GFnExactShapeText
open Go.RowKit Go.Proofs.YtakagkflgkoiiaaW.PrintWords Go.Proofs.YtakagkflgkoiiaaW.PrintLast Go.Proofs.YtakagkflgkoiiaaW.PrintMore
attribute [local go_sem] max2_int min2_int max_two min_two max_three min_three max_four min_four   -- for this text's walks alone
set_option linter.unusedVariables false
set_option linter.unusedSimpArgs false

/-! ### spec_l19Ok: function 55 -/
mutual
def spec_l19Ok.j0 : Nat → Bool → List (S27) → Option (Bool)
  | 0, _, _ => none
  | k + 1, x34, x960 => if x34 = true then (some false) else (spec_l19Ok.l0 k 0 x960)
def spec_l19Ok.l0 : Nat → Int → List (S27) → Option (Bool)
  | 0, _, _ => none
  | k + 1, x3, x960 => if 0 < (x960.length : Int) then (if x3 < (((rd_T27 x960 0).f2).length : Int) then (if 0 ≤ x3 then ((spec_l00In.f (rd ((rd_T27 x960 0).f2) x3) 0 1).bind fun t129 => (if t129 = true then (spec_l19Ok.l0 k (wrap64 (x3 + 1)) x960) else (some false))) else (none)) else (some true)) else (none)
end
def spec_l19Ok.f (k : Nat) (l0 : List (S27)) : Option (Bool) := if 0 < (l0.length : Int) then ((spec_l00In.f ((rd_T27 l0 0).f0) 1 12).bind fun t120 => (if t120 = true then ((spec_l00In.f ((rd_T27 l0 0).f1) 1 12).bind fun t122 => (if t122 = true then (spec_l19Ok.j0 k ((((rd_T27 l0 0).f2).length : Int) != (wrap64 (((rd_T27 l0 0).f0) * ((rd_T27 l0 0).f1)))) l0) else (spec_l19Ok.j0 k true l0))) else (spec_l19Ok.j0 k true l0))) else (none)
theorem spec_l19Ok.mono_l : ∀ k, (∀ y0 y1, LeO (spec_l19Ok.j0 k y0 y1) (spec_l19Ok.j0 (k + 1) y0 y1)) ∧ (∀ y0 y1, LeO (spec_l19Ok.l0 k y0 y1) (spec_l19Ok.l0 (k + 1) y0 y1))
  | 0 => ⟨fun _ _ r h => by simp [spec_l19Ok.j0] at h, fun _ _ r h => by simp [spec_l19Ok.l0] at h⟩
  | k + 1 => by
    obtain ⟨ih0, ih1⟩ := spec_l19Ok.mono_l k
    refine ⟨?_, ?_⟩
    · intro y0 y1
      unfold spec_l19Ok.j0
      repeat' first
      | (with_reducible exact ih0 _ _)
      | (with_reducible exact ih1 _ _)
      | (with_reducible exact LeO.refl _)
      | (with_reducible exact LeO.none _)
      | (with_reducible refine LeO.ite ?_ ?_)
      | (with_reducible refine LeO.bind ?_ (fun _ => ?_))
      | exact ih0 _ _
      | exact ih1 _ _
      | exact LeO.none _
      | refine LeO.ite ?_ ?_
      | refine LeO.bind ?_ (fun _ => ?_)
    · intro y0 y1
      unfold spec_l19Ok.l0
      repeat' first
      | (with_reducible exact ih0 _ _)
      | (with_reducible exact ih1 _ _)
      | (with_reducible exact LeO.refl _)
      | (with_reducible exact LeO.none _)
      | (with_reducible refine LeO.ite ?_ ?_)
      | (with_reducible refine LeO.bind ?_ (fun _ => ?_))
      | exact ih0 _ _
      | exact ih1 _ _
      | exact LeO.none _
      | refine LeO.ite ?_ ?_
      | refine LeO.bind ?_ (fun _ => ?_)
theorem spec_l19Ok.mono : ∀ a0 k, LeO (spec_l19Ok.f k a0) (spec_l19Ok.f (k + 1) a0) := by
  intro a0 k
  obtain ⟨ih0, ih1⟩ := spec_l19Ok.mono_l k
  unfold spec_l19Ok.f
  repeat' first
      | (with_reducible exact ih0 _ _)
      | (with_reducible exact ih1 _ _)
      | (with_reducible exact LeO.refl _)
      | (with_reducible exact LeO.none _)
      | (with_reducible refine LeO.ite ?_ ?_)
      | (with_reducible refine LeO.bind ?_ (fun _ => ?_))
      | exact ih0 _ _
      | exact ih1 _ _
      | exact LeO.none _
      | refine LeO.ite ?_ ?_
      | refine LeO.bind ?_ (fun _ => ?_)
def spec_l19Ok.T1 : Bool × List (List Nat × List Nat) := (true, [([], []), ([0], [0]), ([1], [1]), ([2], [2]), ([3], [3]), ([4], [4]), ([5, 4], [5]), ([6], [6]), ([7, 6], [6, 7]), ([8, 6], [6, 8]), ([9, 6], [6, 9]), ([10, 6, 6], [6, 10]), ([11, 6], [6, 11]), ([6, 12], [6, 12]), ([13, 11], [13]), ([14], [14]), ([15, 14], [14, 15]), ([16, 14], [14, 16]), ([17, 14], [14, 17]), ([18, 14], [14, 18]), ([14], [14]), ([20, 14], [14, 20]), ([21, 14], [14, 21]), ([22, 14], [14, 22]), ([14], [14]), ([24, 14], [14, 24]), ([25, 14], [14, 25]), ([26, 14], [14, 26]), ([23, 27, 14], [14, 23, 27]), ([19, 28, 14], [14, 19, 28]), ([14, 29], [14, 29])])
def spec_l19Ok.B1 : List Nat := [0, 1, 3, 7, 15, 31, 63, 127, 255, 511, 1023, 2047, 4095, 8191, 16383, 32767, 65535, 131071, 262143, 524287, 32767, 1081343, 3178495, 7372799, 32767, 16809983, 50364415, 117473279, 267419647, 536870911, 1073741823]
theorem spec_l19Ok.tab1 : rtab .any (opsOf Try.f55 1) = spec_l19Ok.T1 := by kernel_rfl
theorem spec_l19Ok.bits1 : waitsOk spec_l19Ok.T1.2 spec_l19Ok.B1 = true := by kernel_rfl
open List renaming setIfInBounds_toArray → sA, set_cons_zero → sB, set_cons_succ → sC
open Go.Proofs.YtakagkflgkoiiaaW.PrintWords.Aside0 renaming mk → mkA
open Go.Proofs.YtakagkflgkoiiaaX (dt_ bc_ p0_ p1_ bl_ cb_ bs0_ bs1_ bs2_ bs3_ bs4_ bs5_ bs6_ bs7_ bs8_ bs9_ bs10_ bs11_ bs12_)
abbrev spec_l19Ok.d0 : Array Bool := #[false, false, false, false, false, false, false, false, false, false, false, false, false, false, false, false, false, false, false, false, false, false, false, false, false, false, false, false, false, false, false]
abbrev spec_l19Ok.d1 : Array Bool := #[true, false, false, false, false, false, false, false, false, false, false, false, false, false, false, false, false, false, false, false, false, false, false, false, false, false, false, false, false, false, false]
abbrev spec_l19Ok.d2 : Array Bool := #[true, true, false, false, false, false, false, false, false, false, false, false, false, false, false, false, false, false, false, false, false, false, false, false, false, false, false, false, false, false, false]
abbrev spec_l19Ok.d3 : Array Bool := #[true, true, true, false, false, false, false, false, false, false, false, false, false, false, false, false, false, false, false, false, false, false, false, false, false, false, false, false, false, false, false]
abbrev spec_l19Ok.d4 : Array Bool := #[true, true, true, true, false, false, false, false, false, false, false, false, false, false, false, false, false, false, false, false, false, false, false, false, false, false, false, false, false, false, false]
abbrev spec_l19Ok.d5 : Array Bool := #[true, true, true, true, true, false, false, false, false, false, false, false, false, false, false, false, false, false, false, false, false, false, false, false, false, false, false, false, false, false, false]
abbrev spec_l19Ok.d6 : Array Bool := #[true, true, true, true, true, true, false, false, false, false, false, false, false, false, false, false, false, false, false, false, false, false, false, false, false, false, false, false, false, false, false]
abbrev spec_l19Ok.d7 : Array Bool := #[true, true, true, true, true, true, true, false, false, false, false, false, false, false, false, false, false, false, false, false, false, false, false, false, false, false, false, false, false, false, false]
abbrev spec_l19Ok.d8 : Array Bool := #[true, true, true, true, true, true, true, true, false, false, false, false, false, false, false, false, false, false, false, false, false, false, false, false, false, false, false, false, false, false, false]
abbrev spec_l19Ok.d9 : Array Bool := #[true, true, true, true, true, true, true, true, true, false, false, false, false, false, false, false, false, false, false, false, false, false, false, false, false, false, false, false, false, false, false]
abbrev spec_l19Ok.d10 : Array Bool := #[true, true, true, true, true, true, true, true, true, true, false, false, false, false, false, false, false, false, false, false, false, false, false, false, false, false, false, false, false, false, false]
abbrev spec_l19Ok.d11 : Array Bool := #[true, true, true, true, true, true, true, true, true, true, true, false, false, false, false, false, false, false, false, false, false, false, false, false, false, false, false, false, false, false, false]
abbrev spec_l19Ok.d12 : Array Bool := #[true, true, true, true, true, true, true, true, true, true, true, true, false, false, false, false, false, false, false, false, false, false, false, false, false, false, false, false, false, false, false]
abbrev spec_l19Ok.d13 : Array Bool := #[true, true, true, true, true, true, true, true, true, true, true, true, true, false, false, false, false, false, false, false, false, false, false, false, false, false, false, false, false, false, false]
abbrev spec_l19Ok.d14 : Array Bool := #[true, true, true, true, true, true, true, true, true, true, true, true, true, true, false, false, false, false, false, false, false, false, false, false, false, false, false, false, false, false, false]
abbrev spec_l19Ok.d15 : Array Bool := #[true, true, true, true, true, true, true, true, true, true, true, true, true, true, true, false, false, false, false, false, false, false, false, false, false, false, false, false, false, false, false]
abbrev spec_l19Ok.d16 : Array Bool := #[true, true, true, true, true, true, true, true, true, true, true, true, true, true, true, true, false, false, false, false, false, false, false, false, false, false, false, false, false, false, false]
abbrev spec_l19Ok.d17 : Array Bool := #[true, true, true, true, true, true, true, true, true, true, true, true, true, true, true, true, true, false, false, false, false, false, false, false, false, false, false, false, false, false, false]
abbrev spec_l19Ok.d18 : Array Bool := #[true, true, true, true, true, true, true, true, true, true, true, true, true, true, true, true, true, true, false, false, false, false, false, false, false, false, false, false, false, false, false]
abbrev spec_l19Ok.d19 : Array Bool := #[true, true, true, true, true, true, true, true, true, true, true, true, true, true, true, true, true, true, false, false, true, false, false, false, false, false, false, false, false, false, false]
abbrev spec_l19Ok.d20 : Array Bool := #[true, true, true, true, true, true, true, true, true, true, true, true, true, true, true, true, true, true, false, false, true, true, false, false, false, false, false, false, false, false, false]
abbrev spec_l19Ok.d21 : Array Bool := #[true, true, true, true, true, true, true, true, true, true, true, true, true, true, true, true, true, true, false, false, true, true, true, false, false, false, false, false, false, false, false]
abbrev spec_l19Ok.d22 : Array Bool := #[true, true, true, true, true, true, true, true, true, true, true, true, true, true, true, true, true, true, false, false, true, true, true, false, true, false, false, false, false, false, false]
abbrev spec_l19Ok.d23 : Array Bool := #[true, true, true, true, true, true, true, true, true, true, true, true, true, true, true, true, true, true, false, false, true, true, true, false, true, true, false, false, false, false, false]
abbrev spec_l19Ok.d24 : Array Bool := #[true, true, true, true, true, true, true, true, true, true, true, true, true, true, true, true, true, true, false, false, true, true, true, false, true, true, true, false, false, false, false]
abbrev spec_l19Ok.d25 : Array Bool := #[true, true, true, true, true, true, true, true, true, true, true, true, true, true, true, true, true, true, true, false, true, true, true, false, true, true, true, false, false, false, false]
abbrev spec_l19Ok.d26 : Array Bool := #[true, true, true, true, true, true, true, true, true, true, true, true, true, true, true, true, true, true, true, true, true, true, true, false, true, true, true, false, false, false, false]
abbrev spec_l19Ok.d27 : Array Bool := #[true, true, true, true, true, true, true, true, true, true, true, true, true, true, true, true, true, true, true, true, true, true, true, true, true, true, true, false, false, false, false]
abbrev spec_l19Ok.d28 : Array Bool := #[true, true, true, true, true, true, true, true, true, true, true, true, true, true, true, true, true, true, true, true, true, true, true, true, true, true, true, true, false, false, false]
abbrev spec_l19Ok.d29 : Array Bool := #[true, true, true, true, true, true, true, true, true, true, true, true, true, true, true, true, true, true, true, true, true, true, true, true, true, true, true, true, true, false, false]
abbrev spec_l19Ok.d30 : Array Bool := #[true, true, true, true, true, true, true, true, true, true, true, true, true, true, true, true, true, true, true, true, true, true, true, true, true, true, true, true, true, true, false]
abbrev spec_l19Ok.d31 : Array Bool := #[true, true, true, true, true, true, true, true, true, true, true, true, true, true, true, true, true, true, true, true, true, true, true, true, true, true, true, true, true, true, true]
abbrev spec_l19Ok.d32 : Array Bool := #[true, true, true, true, true, true, true, true, true, true, true, true, true, true, true, true, true, true, true, false, false, false, false, false, false, false, false, false, false, false, false]
abbrev spec_l19Ok.d33 : Array Bool := #[true, true, true, true, true, true, true, true, true, true, true, true, true, true, true, true, true, true, true, true, false, false, false, false, false, false, false, false, false, false, false]
abbrev spec_l19Ok.d34 : Array Bool := #[true, true, true, true, true, true, true, true, true, true, true, true, true, true, true, true, true, true, true, true, true, false, false, false, false, false, false, false, false, false, false]
abbrev spec_l19Ok.d35 : Array Bool := #[true, true, true, true, true, true, true, true, true, true, true, true, true, true, true, true, true, true, true, true, true, true, false, false, false, false, false, false, false, false, false]
abbrev spec_l19Ok.d36 : Array Bool := #[true, true, true, true, true, true, true, true, true, true, true, true, true, true, true, true, true, true, true, true, true, true, true, false, false, false, false, false, false, false, false]
abbrev spec_l19Ok.d37 : Array Bool := #[true, true, true, true, true, true, true, true, true, true, true, true, true, true, true, true, true, true, true, true, true, true, true, true, false, false, false, false, false, false, false]
abbrev spec_l19Ok.d38 : Array Bool := #[true, true, true, true, true, true, true, true, true, true, true, true, true, true, true, true, true, true, true, true, true, true, true, true, true, false, false, false, false, false, false]
abbrev spec_l19Ok.d39 : Array Bool := #[true, true, true, true, true, true, true, true, true, true, true, true, true, true, true, true, true, true, true, true, true, true, true, true, true, true, false, false, false, false, false]
set_option maxHeartbeats 8000000 in
set_option maxRecDepth 100000 in
theorem spec_l19Ok.calls (k : Nat) (A0 : Option Addr) (l0 : List (S27)) (r : Bool) (w : World) (hr0 : Kd.C k27 w A0 l0.length l0) (h : spec_l19Ok.f k l0 = some r) :
 Calls Try.prog 55 #[.pointer A0] w fun e w' => e = .returned (.bool r) ∧ Below w.heap.size w w' := by
 have HR0 := mkA hr0
 clear hr0
 have HB := mkA (Below.refl w.heap.size w)
 have H : (if 0 < (l0.length : Int) then ((spec_l00In.f ((rd_T27 l0 0).f0) 1 12).bind fun t120 => (if t120 = true then ((spec_l00In.f ((rd_T27 l0 0).f1) 1 12).bind fun t122 => (if t122 = true then (spec_l19Ok.j0 k ((((rd_T27 l0 0).f2).length : Int) != (wrap64 (((rd_T27 l0 0).f0) * ((rd_T27 l0 0).f1)))) l0) else (spec_l19Ok.j0 k true l0))) else (spec_l19Ok.j0 k true l0))) else (none)) = some r := h
 clear h
 have HC2 := mkA H
 clear H
 go_enter Try.func55, Try.ntmps55
 go_upto_region 1 with (fail)
 go_cut [34] (fun v34 wc => ∃ (kq : Nat) (x34_1 : Bool), v34 = .bool x34_1 ∧ Aside0 (spec_l19Ok.j0 kq x34_1 l0 = some r) ∧ Aside0 (kq ≤ k) ∧ Aside0 (Below w.heap.size w wc))
 case first =>
  have H := HC2.out
  clear HC2
  by_cases c3 : 0 < (l0.length : Int)
  rotate_left
  · rw [if_neg c3] at H
    exact absurd H (by simp)
  rw [if_pos c3] at H
  have c3b0 : decide (0 < (l0.length : Int)) = true := decide_eq_true c3
  have c3b1 : decide (0 < l0.length) = true := decide_eq_true (by omega)
  clear c3
  (first | rw [c3b0] | (simp only [i64_w, i32_w]; rw [c3b0]) | skip)
  replace H := Option.bind_eq_some_iff.mp H
  obtain ⟨t120, A40, H⟩ := H
  replace H : (if t120 = true then ((spec_l00In.f ((rd_T27 l0 0).f1) 1 12).bind fun t122 => (if t122 = true then (spec_l19Ok.j0 k ((((rd_T27 l0 0).f2).length : Int) != (wrap64 (((rd_T27 l0 0).f0) * ((rd_T27 l0 0).f1)))) l0) else (spec_l19Ok.j0 k true l0))) else (spec_l19Ok.j0 k true l0)) = some r := H
  have A4 := mkA A40
  clear A40
  by_cases c5 : t120 = true
  rotate_left
  · replace c5 := Bool.eq_false_iff.mpr c5
    subst c5
    have H1 : (spec_l19Ok.j0 k true l0) = some r := by rw [if_neg (show ¬ (false = true) by decide)] at H; exact H
    clear H
    have H := H1
    clear H1
    have H' := mkA H
    clear H
    try go_wp2
    have n0_ := mkA (below_drew1 HB.out)
    clear HB
    have HB := n0_
    clear n0_
    have p119 : 0 ≤ (0 : Int) := (by omega)
    have q119 : 0 < (l0.length : Int) := dt_
    obtain ⟨ad119, A119_2, c119_2, e119, hx119_0, hx119_1, hx119_2, hl119_2, hi119_2⟩ := at0_T27 HR0.out q119
    have hw119_2 := hx119_2
    have hw119_1 := hx119_1
    have hw119_0 := hx119_0
    cases e119
    have qi119 : (0 < l0.length) = True := eq_true (by omega)
    replace hx119_0 := bc_ HB.out hx119_0
    replace hx119_1 := bc_ HB.out hx119_1
    replace hx119_2 := bc_ HB.out hx119_2
    have HR119_2 := mkA hi119_2
    have HC119_2 := mkA hl119_2
    clear hi119_2 hl119_2
    replace p119 := eq_true p119
    replace q119 := eq_true q119
    refine start_ (n := 31) (S := fun w' => w'.cell? ad119 = some (.int .i64 ((rd_T27 l0 0).f0)) ∧ w'.cell? ⟨ad119.block, ad119.off + 1, none⟩ = some (.int .i64 ((rd_T27 l0 0).f1)) ∧ w'.cell? ⟨ad119.block, ad119.off + 2, none⟩ = some (.slice A119_2 ((rd_T27 l0 0).f2).length c119_2)) (ds := []) spec_l19Ok.d0 (by kernel_rfl) rfl rfl ⟨(bc_ HB.out hw119_0 :), (bc_ HB.out hw119_1 :), (bc_ HB.out hw119_2 :)⟩ (fun hHeld => ?_); refine with_tabW spec_l19Ok.tab1 spec_l19Ok.bits1 (fun HT_ HW_ => ?_)
    generalize w.drew = w10 at HB HR119_2 hx119_0 hx119_1 hx119_2 hHeld ⊢
    refine p1_ HT_.out 0 4 spec_l19Ok.d1 ?_
    refine p1_ HT_.out 1 5 spec_l19Ok.d2 ?_
    refine p1_ HT_.out 2 6 spec_l19Ok.d3 ?_
    refine take_ (i := 3) (N := some 7) (v := ?_) (a' := ?_) spec_l19Ok.d4 rfl rfl (take_ofW HT_.out HW_.out (by kernel_rfl)) (fun _ _ _ h => h) (Or.inl ⟨by rfl, ?_⟩) hHeld ?_ ?_
    rotate_left
    · rintro w' ⟨s0, s1, s2⟩
      go_simp
      with_reducible rfl
    rotate_left
    · simp only [Act.put, sA, sB, sC, i64_w, i32_w]
      rfl
    refine one_ (i := 4) (N := some 8) spec_l19Ok.d5 rfl rfl (one_of HT_.out (by kernel_rfl)) (by decide) (fun K hK => ?_)
    refine goes_ Try.func60 (by kernel_rfl) rfl #[.int .i64 ((rd_T27 l0 0).f0), .int .i64 1, .int .i64 12] (by rfl) rfl rfl (by (try simp only [List.map_toArray, List.map_cons, List.map_nil]); first | done | rfl | (simp only [List.length_drop, List.length_take]; rfl)) ?_
    with_reducible refine (spec_l00In.calls ((rd_T27 l0 0).f0) 1 12 false _ A4.out).mono ?_
    rintro e w' ⟨rfl, ⟨nd, rfl⟩⟩
    refine ⟨_, rfl, ?_⟩
    refine hK.out _ _ ⟨(bc_ HB.out hw119_0 :), (bc_ HB.out hw119_1 :), (bc_ HB.out hw119_2 :)⟩ (fun hHeld => ?_)
    clear hK K
    refine norm_ (a' := ?_) ?_ ?_
    rotate_left
    · show Act.put _ (some 8) _ = _
      simp only [Act.put, sA, sB, sC, i64_w, i32_w]
      rfl
    refine p1_ HT_.out 5 9 spec_l19Ok.d6 ?_
    refine p1_ HT_.out 6 10 spec_l19Ok.d7 ?_
    refine p0_ HT_.out 7 11 spec_l19Ok.d8 ?_
    refine p0_ HT_.out 8 12 spec_l19Ok.d9 ?_
    refine p0_ HT_.out 9 13 spec_l19Ok.d10 ?_
    refine p0_ HT_.out 10 14 spec_l19Ok.d11 ?_
    refine p0_ HT_.out 11 15 spec_l19Ok.d12 ?_
    refine p0_ HT_.out 12 16 spec_l19Ok.d13 ?_
    refine p1_ HT_.out 13 17 spec_l19Ok.d14 ?_
    refine p1_ HT_.out 14 18 spec_l19Ok.d15 ?_
    refine p0_ HT_.out 15 19 spec_l19Ok.d16 ?_
    refine p0_ HT_.out 16 20 spec_l19Ok.d17 ?_
    refine p0_ HT_.out 17 21 spec_l19Ok.d18 ?_
    refine p0_ HT_.out 18 22 spec_l19Ok.d32 ?_
    refine p0_ HT_.out 19 23 spec_l19Ok.d33 ?_
    refine p0_ HT_.out 20 24 spec_l19Ok.d34 ?_
    refine p0_ HT_.out 21 25 spec_l19Ok.d35 ?_
    refine p0_ HT_.out 22 26 spec_l19Ok.d36 ?_
    refine p0_ HT_.out 23 27 spec_l19Ok.d37 ?_
    refine p0_ HT_.out 24 28 spec_l19Ok.d38 ?_
    refine p0_ HT_.out 25 29 spec_l19Ok.d39 ?_
    refine p0_ HT_.out 26 30 spec_l19Ok.d27 ?_
    refine p0_ HT_.out 27 31 spec_l19Ok.d28 ?_
    refine p0_ HT_.out 28 32 spec_l19Ok.d29 ?_
    refine p0_ HT_.out 29 33 spec_l19Ok.d30 ?_
    refine p1_ HT_.out 30 34 spec_l19Ok.d31 ?_
    refine done_ (done_of HT_.out (by kernel_rfl)) ?_
    try go_wp2
    go_meet
    case rel => exact ⟨_, (true), (by first | rfl | (simp; done) | (simp [*]; done) | (simp [i64_w, i32_w]; done)), H', ⟨by first | omega | exact Nat.le_refl _⟩, ⟨by repeat (first | (with_reducible first | exact HB.out | apply below_alloc | apply pw_below_drewN | apply below_drew1) | exact HB.out)⟩⟩
  subst c5
  have H1 : ((spec_l00In.f ((rd_T27 l0 0).f1) 1 12).bind fun t122 => (if t122 = true then (spec_l19Ok.j0 k ((((rd_T27 l0 0).f2).length : Int) != (wrap64 (((rd_T27 l0 0).f0) * ((rd_T27 l0 0).f1)))) l0) else (spec_l19Ok.j0 k true l0))) = some r := by rw [if_pos rfl] at H; exact H
  clear H
  have H := H1
  clear H1
  replace H := Option.bind_eq_some_iff.mp H
  obtain ⟨t122, A60, H⟩ := H
  replace H : (if t122 = true then (spec_l19Ok.j0 k ((((rd_T27 l0 0).f2).length : Int) != (wrap64 (((rd_T27 l0 0).f0) * ((rd_T27 l0 0).f1)))) l0) else (spec_l19Ok.j0 k true l0)) = some r := H
  have A6 := mkA A60
  clear A60
  by_cases c7 : t122 = true
  rotate_left
  · replace c7 := Bool.eq_false_iff.mpr c7
    subst c7
    have H1 : (spec_l19Ok.j0 k true l0) = some r := by rw [if_neg (show ¬ (false = true) by decide)] at H; exact H
    clear H
    have H := H1
    clear H1
    have H' := mkA H
    clear H
    try go_wp2
    have n0_ := mkA (below_drew1 HB.out)
    clear HB
    have HB := n0_
    clear n0_
    have p119 : 0 ≤ (0 : Int) := (by omega)
    have q119 : 0 < (l0.length : Int) := dt_
    obtain ⟨ad119, A119_2, c119_2, e119, hx119_0, hx119_1, hx119_2, hl119_2, hi119_2⟩ := at0_T27 HR0.out q119
    have hw119_2 := hx119_2
    have hw119_1 := hx119_1
    have hw119_0 := hx119_0
    cases e119
    have qi119 : (0 < l0.length) = True := eq_true (by omega)
    replace hx119_0 := bc_ HB.out hx119_0
    replace hx119_1 := bc_ HB.out hx119_1
    replace hx119_2 := bc_ HB.out hx119_2
    have HR119_2 := mkA hi119_2
    have HC119_2 := mkA hl119_2
    clear hi119_2 hl119_2
    replace p119 := eq_true p119
    replace q119 := eq_true q119
    have p121 : 0 ≤ (0 : Int) := (by omega)
    have q121 : 0 < (l0.length : Int) := dt_
    obtain ⟨ad121, A121_2, c121_2, e121, hx121_0, hx121_1, hx121_2, hl121_2, hi121_2⟩ := at0_T27 HR0.out q121
    have hw121_2 := hx121_2
    have hw121_1 := hx121_1
    have hw121_0 := hx121_0
    obtain rfl : ad119 = ad121 := (by injection e121)
    have qi121 : (0 < l0.length) = True := eq_true (by omega)
    replace hx121_0 := bc_ HB.out hx121_0
    replace hx121_1 := bc_ HB.out hx121_1
    replace hx121_2 := bc_ HB.out hx121_2
    have HR121_2 := mkA hi121_2
    have HC121_2 := mkA hl121_2
    clear hi121_2 hl121_2
    replace p121 := eq_true p121
    replace q121 := eq_true q121
    have ea_ := Option.some.inj (hx119_2.symm.trans hx121_2)
    injection ea_ with ea_ en_ ec_
    subst ea_
    subst ec_
    clear en_
    refine start_ (n := 31) (S := fun w' => w'.cell? ad119 = some (.int .i64 ((rd_T27 l0 0).f0)) ∧ w'.cell? ⟨ad119.block, ad119.off + 1, none⟩ = some (.int .i64 ((rd_T27 l0 0).f1)) ∧ w'.cell? ⟨ad119.block, ad119.off + 2, none⟩ = some (.slice A119_2 ((rd_T27 l0 0).f2).length c119_2) ∧ w'.cell? ad119 = some (.int .i64 ((rd_T27 l0 0).f0)) ∧ w'.cell? ⟨ad119.block, ad119.off + 1, none⟩ = some (.int .i64 ((rd_T27 l0 0).f1)) ∧ w'.cell? ⟨ad119.block, ad119.off + 2, none⟩ = some (.slice A119_2 ((rd_T27 l0 0).f2).length c119_2)) (ds := []) spec_l19Ok.d0 (by kernel_rfl) rfl rfl ⟨(bc_ HB.out hw119_0 :), (bc_ HB.out hw119_1 :), (bc_ HB.out hw119_2 :), (bc_ HB.out hw121_0 :), (bc_ HB.out hw121_1 :), (bc_ HB.out hw121_2 :)⟩ (fun hHeld => ?_); refine with_tabW spec_l19Ok.tab1 spec_l19Ok.bits1 (fun HT_ HW_ => ?_)
    generalize w.drew = w9 at HB HR119_2 HR121_2 hx119_0 hx119_1 hx119_2 hx121_0 hx121_1 hx121_2 hHeld ⊢
    refine p1_ HT_.out 0 4 spec_l19Ok.d1 ?_
    refine p1_ HT_.out 1 5 spec_l19Ok.d2 ?_
    refine p1_ HT_.out 2 6 spec_l19Ok.d3 ?_
    refine take_ (i := 3) (N := some 7) (v := ?_) (a' := ?_) spec_l19Ok.d4 rfl rfl (take_ofW HT_.out HW_.out (by kernel_rfl)) (fun _ _ _ h => h) (Or.inl ⟨by rfl, ?_⟩) hHeld ?_ ?_
    rotate_left
    · rintro w' ⟨s0, s1, s2, s3, s4, s5⟩
      go_simp
      with_reducible rfl
    rotate_left
    · simp only [Act.put, sA, sB, sC, i64_w, i32_w]
      rfl
    refine one_ (i := 4) (N := some 8) spec_l19Ok.d5 rfl rfl (one_of HT_.out (by kernel_rfl)) (by decide) (fun K hK => ?_)
    refine goes_ Try.func60 (by kernel_rfl) rfl #[.int .i64 ((rd_T27 l0 0).f0), .int .i64 1, .int .i64 12] (by rfl) rfl rfl (by (try simp only [List.map_toArray, List.map_cons, List.map_nil]); first | done | rfl | (simp only [List.length_drop, List.length_take]; rfl)) ?_
    with_reducible refine (spec_l00In.calls ((rd_T27 l0 0).f0) 1 12 true _ A4.out).mono ?_
    rintro e w' ⟨rfl, ⟨nd, rfl⟩⟩
    refine ⟨_, rfl, ?_⟩
    refine hK.out _ _ ⟨(bc_ HB.out hw119_0 :), (bc_ HB.out hw119_1 :), (bc_ HB.out hw119_2 :), (bc_ HB.out hw121_0 :), (bc_ HB.out hw121_1 :), (bc_ HB.out hw121_2 :)⟩ (fun hHeld => ?_)
    clear hK K
    refine norm_ (a' := ?_) ?_ ?_
    rotate_left
    · show Act.put _ (some 8) _ = _
      simp only [Act.put, sA, sB, sC, i64_w, i32_w]
      rfl
    refine p1_ HT_.out 5 9 spec_l19Ok.d6 ?_
    refine p1_ HT_.out 6 10 spec_l19Ok.d7 ?_
    refine p1_ HT_.out 7 11 spec_l19Ok.d8 ?_
    refine p1_ HT_.out 8 12 spec_l19Ok.d9 ?_
    refine p1_ HT_.out 9 13 spec_l19Ok.d10 ?_
    refine take_ (i := 10) (N := some 14) (v := ?_) (a' := ?_) spec_l19Ok.d11 rfl rfl (take_ofW HT_.out HW_.out (by kernel_rfl)) (fun _ _ _ h => h) (Or.inl ⟨by rfl, ?_⟩) hHeld ?_ ?_
    rotate_left
    · rintro w' ⟨s0, s1, s2, s3, s4, s5⟩
      go_simp
      with_reducible rfl
    rotate_left
    · simp only [Act.put, sA, sB, sC, i64_w, i32_w]
      rfl
    refine one_ (i := 11) (N := some 15) spec_l19Ok.d12 rfl rfl (one_of HT_.out (by kernel_rfl)) (by decide) (fun K hK => ?_)
    refine goes_ Try.func60 (by kernel_rfl) rfl #[.int .i64 ((rd_T27 l0 0).f1), .int .i64 1, .int .i64 12] (by rfl) rfl rfl (by (try simp only [List.map_toArray, List.map_cons, List.map_nil]); first | done | rfl | (simp only [List.length_drop, List.length_take]; rfl)) ?_
    with_reducible refine (spec_l00In.calls ((rd_T27 l0 0).f1) 1 12 false _ A6.out).mono ?_
    rintro e w' ⟨rfl, ⟨nd, rfl⟩⟩
    refine ⟨_, rfl, ?_⟩
    refine hK.out _ _ ⟨(bc_ HB.out hw119_0 :), (bc_ HB.out hw119_1 :), (bc_ HB.out hw119_2 :), (bc_ HB.out hw121_0 :), (bc_ HB.out hw121_1 :), (bc_ HB.out hw121_2 :)⟩ (fun hHeld => ?_)
    clear hK K
    refine norm_ (a' := ?_) ?_ ?_
    rotate_left
    · show Act.put _ (some 15) _ = _
      simp only [Act.put, sA, sB, sC, i64_w, i32_w]
      rfl
    refine p1_ HT_.out 12 16 spec_l19Ok.d13 ?_
    refine p1_ HT_.out 13 17 spec_l19Ok.d14 ?_
    refine p1_ HT_.out 14 18 spec_l19Ok.d15 ?_
    refine p0_ HT_.out 15 19 spec_l19Ok.d16 ?_
    refine p0_ HT_.out 16 20 spec_l19Ok.d17 ?_
    refine p0_ HT_.out 17 21 spec_l19Ok.d18 ?_
    refine p0_ HT_.out 18 22 spec_l19Ok.d32 ?_
    refine p0_ HT_.out 19 23 spec_l19Ok.d33 ?_
    refine p0_ HT_.out 20 24 spec_l19Ok.d34 ?_
    refine p0_ HT_.out 21 25 spec_l19Ok.d35 ?_
    refine p0_ HT_.out 22 26 spec_l19Ok.d36 ?_
    refine p0_ HT_.out 23 27 spec_l19Ok.d37 ?_
    refine p0_ HT_.out 24 28 spec_l19Ok.d38 ?_
    refine p0_ HT_.out 25 29 spec_l19Ok.d39 ?_
    refine p0_ HT_.out 26 30 spec_l19Ok.d27 ?_
    refine p0_ HT_.out 27 31 spec_l19Ok.d28 ?_
    refine p0_ HT_.out 28 32 spec_l19Ok.d29 ?_
    refine p0_ HT_.out 29 33 spec_l19Ok.d30 ?_
    refine p1_ HT_.out 30 34 spec_l19Ok.d31 ?_
    refine done_ (done_of HT_.out (by kernel_rfl)) ?_
    try go_wp2
    go_meet
    case rel => exact ⟨_, (true), (by first | rfl | (simp; done) | (simp [*]; done) | (simp [i64_w, i32_w]; done)), H', ⟨by first | omega | exact Nat.le_refl _⟩, ⟨by repeat (first | (with_reducible first | exact HB.out | apply below_alloc | apply pw_below_drewN | apply below_drew1) | exact HB.out)⟩⟩
  subst c7
  have H1 : (spec_l19Ok.j0 k ((((rd_T27 l0 0).f2).length : Int) != (wrap64 (((rd_T27 l0 0).f0) * ((rd_T27 l0 0).f1)))) l0) = some r := by rw [if_pos rfl] at H; exact H
  clear H
  have H := H1
  clear H1
  have H' := mkA H
  clear H
  try go_wp2
  have n0_ := mkA (below_drew1 HB.out)
  clear HB
  have HB := n0_
  clear n0_
  have p119 : 0 ≤ (0 : Int) := (by omega)
  have q119 : 0 < (l0.length : Int) := dt_
  obtain ⟨ad119, A119_2, c119_2, e119, hx119_0, hx119_1, hx119_2, hl119_2, hi119_2⟩ := at0_T27 HR0.out q119
  have hw119_2 := hx119_2
  have hw119_1 := hx119_1
  have hw119_0 := hx119_0
  cases e119
  have qi119 : (0 < l0.length) = True := eq_true (by omega)
  replace hx119_0 := bc_ HB.out hx119_0
  replace hx119_1 := bc_ HB.out hx119_1
  replace hx119_2 := bc_ HB.out hx119_2
  have HR119_2 := mkA hi119_2
  have HC119_2 := mkA hl119_2
  clear hi119_2 hl119_2
  replace p119 := eq_true p119
  replace q119 := eq_true q119
  have p121 : 0 ≤ (0 : Int) := (by omega)
  have q121 : 0 < (l0.length : Int) := dt_
  obtain ⟨ad121, A121_2, c121_2, e121, hx121_0, hx121_1, hx121_2, hl121_2, hi121_2⟩ := at0_T27 HR0.out q121
  have hw121_2 := hx121_2
  have hw121_1 := hx121_1
  have hw121_0 := hx121_0
  obtain rfl : ad119 = ad121 := (by injection e121)
  have qi121 : (0 < l0.length) = True := eq_true (by omega)
  replace hx121_0 := bc_ HB.out hx121_0
  replace hx121_1 := bc_ HB.out hx121_1
  replace hx121_2 := bc_ HB.out hx121_2
  have HR121_2 := mkA hi121_2
  have HC121_2 := mkA hl121_2
  clear hi121_2 hl121_2
  replace p121 := eq_true p121
  replace q121 := eq_true q121
  have ea_ := Option.some.inj (hx119_2.symm.trans hx121_2)
  injection ea_ with ea_ en_ ec_
  subst ea_
  subst ec_
  clear en_
  have p123 : 0 ≤ (0 : Int) := (by omega)
  have q123 : 0 < (l0.length : Int) := dt_
  obtain ⟨ad123, A123_2, c123_2, e123, hx123_0, hx123_1, hx123_2, hl123_2, hi123_2⟩ := at0_T27 HR0.out q123
  have hw123_2 := hx123_2
  have hw123_1 := hx123_1
  have hw123_0 := hx123_0
  obtain rfl : ad119 = ad123 := (by injection e123)
  have qi123 : (0 < l0.length) = True := eq_true (by omega)
  replace hx123_0 := bc_ HB.out hx123_0
  replace hx123_1 := bc_ HB.out hx123_1
  replace hx123_2 := bc_ HB.out hx123_2
  have HR123_2 := mkA hi123_2
  have HC123_2 := mkA hl123_2
  clear hi123_2 hl123_2
  replace p123 := eq_true p123
  replace q123 := eq_true q123
  have ea_ := Option.some.inj (hx119_2.symm.trans hx123_2)
  injection ea_ with ea_ en_ ec_
  subst ea_
  subst ec_
  clear en_
  have p124 : 0 ≤ (0 : Int) := (by omega)
  have q124 : 0 < (l0.length : Int) := dt_
  obtain ⟨ad124, A124_2, c124_2, e124, hx124_0, hx124_1, hx124_2, hl124_2, hi124_2⟩ := at0_T27 HR0.out q124
  have hw124_2 := hx124_2
  have hw124_1 := hx124_1
  have hw124_0 := hx124_0
  obtain rfl : ad119 = ad124 := (by injection e124)
  have qi124 : (0 < l0.length) = True := eq_true (by omega)
  replace hx124_0 := bc_ HB.out hx124_0
  replace hx124_1 := bc_ HB.out hx124_1
  replace hx124_2 := bc_ HB.out hx124_2
  have HR124_2 := mkA hi124_2
  have HC124_2 := mkA hl124_2
  clear hi124_2 hl124_2
  replace p124 := eq_true p124
  replace q124 := eq_true q124
  have ea_ := Option.some.inj (hx119_2.symm.trans hx124_2)
  injection ea_ with ea_ en_ ec_
  subst ea_
  subst ec_
  clear en_
  have p125 : 0 ≤ (0 : Int) := (by omega)
  have q125 : 0 < (l0.length : Int) := dt_
  obtain ⟨ad125, A125_2, c125_2, e125, hx125_0, hx125_1, hx125_2, hl125_2, hi125_2⟩ := at0_T27 HR0.out q125
  have hw125_2 := hx125_2
  have hw125_1 := hx125_1
  have hw125_0 := hx125_0
  obtain rfl : ad119 = ad125 := (by injection e125)
  have qi125 : (0 < l0.length) = True := eq_true (by omega)
  replace hx125_0 := bc_ HB.out hx125_0
  replace hx125_1 := bc_ HB.out hx125_1
  replace hx125_2 := bc_ HB.out hx125_2
  have HR125_2 := mkA hi125_2
  have HC125_2 := mkA hl125_2
  clear hi125_2 hl125_2
  replace p125 := eq_true p125
  replace q125 := eq_true q125
  have ea_ := Option.some.inj (hx119_2.symm.trans hx125_2)
  injection ea_ with ea_ en_ ec_
  subst ea_
  subst ec_
  clear en_
  refine start_ (n := 31) (S := fun w' => w'.cell? ad119 = some (.int .i64 ((rd_T27 l0 0).f0)) ∧ w'.cell? ⟨ad119.block, ad119.off + 1, none⟩ = some (.int .i64 ((rd_T27 l0 0).f1)) ∧ w'.cell? ⟨ad119.block, ad119.off + 2, none⟩ = some (.slice A119_2 ((rd_T27 l0 0).f2).length c119_2) ∧ w'.cell? ad119 = some (.int .i64 ((rd_T27 l0 0).f0)) ∧ w'.cell? ⟨ad119.block, ad119.off + 1, none⟩ = some (.int .i64 ((rd_T27 l0 0).f1)) ∧ w'.cell? ⟨ad119.block, ad119.off + 2, none⟩ = some (.slice A119_2 ((rd_T27 l0 0).f2).length c119_2) ∧ w'.cell? ad119 = some (.int .i64 ((rd_T27 l0 0).f0)) ∧ w'.cell? ⟨ad119.block, ad119.off + 1, none⟩ = some (.int .i64 ((rd_T27 l0 0).f1)) ∧ w'.cell? ⟨ad119.block, ad119.off + 2, none⟩ = some (.slice A119_2 ((rd_T27 l0 0).f2).length c119_2) ∧ w'.cell? ad119 = some (.int .i64 ((rd_T27 l0 0).f0)) ∧ w'.cell? ⟨ad119.block, ad119.off + 1, none⟩ = some (.int .i64 ((rd_T27 l0 0).f1)) ∧ w'.cell? ⟨ad119.block, ad119.off + 2, none⟩ = some (.slice A119_2 ((rd_T27 l0 0).f2).length c119_2) ∧ w'.cell? ad119 = some (.int .i64 ((rd_T27 l0 0).f0)) ∧ w'.cell? ⟨ad119.block, ad119.off + 1, none⟩ = some (.int .i64 ((rd_T27 l0 0).f1)) ∧ w'.cell? ⟨ad119.block, ad119.off + 2, none⟩ = some (.slice A119_2 ((rd_T27 l0 0).f2).length c119_2)) (ds := []) spec_l19Ok.d0 (by kernel_rfl) rfl rfl ⟨(bc_ HB.out hw119_0 :), (bc_ HB.out hw119_1 :), (bc_ HB.out hw119_2 :), (bc_ HB.out hw121_0 :), (bc_ HB.out hw121_1 :), (bc_ HB.out hw121_2 :), (bc_ HB.out hw123_0 :), (bc_ HB.out hw123_1 :), (bc_ HB.out hw123_2 :), (bc_ HB.out hw124_0 :), (bc_ HB.out hw124_1 :), (bc_ HB.out hw124_2 :), (bc_ HB.out hw125_0 :), (bc_ HB.out hw125_1 :), (bc_ HB.out hw125_2 :)⟩ (fun hHeld => ?_); refine with_tabW spec_l19Ok.tab1 spec_l19Ok.bits1 (fun HT_ HW_ => ?_)
  generalize w.drew = w8 at HB HR119_2 HR121_2 HR123_2 HR124_2 HR125_2 hx119_0 hx119_1 hx119_2 hx121_0 hx121_1 hx121_2 hx123_0 hx123_1 hx123_2 hx124_0 hx124_1 hx124_2 hx125_0 hx125_1 hx125_2 hHeld ⊢
  refine p1_ HT_.out 0 4 spec_l19Ok.d1 ?_
  refine p1_ HT_.out 1 5 spec_l19Ok.d2 ?_
  refine p1_ HT_.out 2 6 spec_l19Ok.d3 ?_
  refine take_ (i := 3) (N := some 7) (v := ?_) (a' := ?_) spec_l19Ok.d4 rfl rfl (take_ofW HT_.out HW_.out (by kernel_rfl)) (fun _ _ _ h => h) (Or.inl ⟨by rfl, ?_⟩) hHeld ?_ ?_
  rotate_left
  · rintro w' ⟨s0, s1, s2, s3, s4, s5, s6, s7, s8, s9, s10, s11, s12, s13, s14⟩
    go_simp
    with_reducible rfl
  rotate_left
  · simp only [Act.put, sA, sB, sC, i64_w, i32_w]
    rfl
  refine one_ (i := 4) (N := some 8) spec_l19Ok.d5 rfl rfl (one_of HT_.out (by kernel_rfl)) (by decide) (fun K hK => ?_)
  refine goes_ Try.func60 (by kernel_rfl) rfl #[.int .i64 ((rd_T27 l0 0).f0), .int .i64 1, .int .i64 12] (by rfl) rfl rfl (by (try simp only [List.map_toArray, List.map_cons, List.map_nil]); first | done | rfl | (simp only [List.length_drop, List.length_take]; rfl)) ?_
  with_reducible refine (spec_l00In.calls ((rd_T27 l0 0).f0) 1 12 true _ A4.out).mono ?_
  rintro e w' ⟨rfl, ⟨nd, rfl⟩⟩
  refine ⟨_, rfl, ?_⟩
  refine hK.out _ _ ⟨(bc_ HB.out hw119_0 :), (bc_ HB.out hw119_1 :), (bc_ HB.out hw119_2 :), (bc_ HB.out hw121_0 :), (bc_ HB.out hw121_1 :), (bc_ HB.out hw121_2 :), (bc_ HB.out hw123_0 :), (bc_ HB.out hw123_1 :), (bc_ HB.out hw123_2 :), (bc_ HB.out hw124_0 :), (bc_ HB.out hw124_1 :), (bc_ HB.out hw124_2 :), (bc_ HB.out hw125_0 :), (bc_ HB.out hw125_1 :), (bc_ HB.out hw125_2 :)⟩ (fun hHeld => ?_)
  clear hK K
  refine norm_ (a' := ?_) ?_ ?_
  rotate_left
  · show Act.put _ (some 8) _ = _
    simp only [Act.put, sA, sB, sC, i64_w, i32_w]
    rfl
  refine p1_ HT_.out 5 9 spec_l19Ok.d6 ?_
  refine p1_ HT_.out 6 10 spec_l19Ok.d7 ?_
  refine p1_ HT_.out 7 11 spec_l19Ok.d8 ?_
  refine p1_ HT_.out 8 12 spec_l19Ok.d9 ?_
  refine p1_ HT_.out 9 13 spec_l19Ok.d10 ?_
  refine take_ (i := 10) (N := some 14) (v := ?_) (a' := ?_) spec_l19Ok.d11 rfl rfl (take_ofW HT_.out HW_.out (by kernel_rfl)) (fun _ _ _ h => h) (Or.inl ⟨by rfl, ?_⟩) hHeld ?_ ?_
  rotate_left
  · rintro w' ⟨s0, s1, s2, s3, s4, s5, s6, s7, s8, s9, s10, s11, s12, s13, s14⟩
    go_simp
    with_reducible rfl
  rotate_left
  · simp only [Act.put, sA, sB, sC, i64_w, i32_w]
    rfl
  refine one_ (i := 11) (N := some 15) spec_l19Ok.d12 rfl rfl (one_of HT_.out (by kernel_rfl)) (by decide) (fun K hK => ?_)
  refine goes_ Try.func60 (by kernel_rfl) rfl #[.int .i64 ((rd_T27 l0 0).f1), .int .i64 1, .int .i64 12] (by rfl) rfl rfl (by (try simp only [List.map_toArray, List.map_cons, List.map_nil]); first | done | rfl | (simp only [List.length_drop, List.length_take]; rfl)) ?_
  with_reducible refine (spec_l00In.calls ((rd_T27 l0 0).f1) 1 12 true _ A6.out).mono ?_
  rintro e w' ⟨rfl, ⟨nd, rfl⟩⟩
  refine ⟨_, rfl, ?_⟩
  refine hK.out _ _ ⟨(bc_ HB.out hw119_0 :), (bc_ HB.out hw119_1 :), (bc_ HB.out hw119_2 :), (bc_ HB.out hw121_0 :), (bc_ HB.out hw121_1 :), (bc_ HB.out hw121_2 :), (bc_ HB.out hw123_0 :), (bc_ HB.out hw123_1 :), (bc_ HB.out hw123_2 :), (bc_ HB.out hw124_0 :), (bc_ HB.out hw124_1 :), (bc_ HB.out hw124_2 :), (bc_ HB.out hw125_0 :), (bc_ HB.out hw125_1 :), (bc_ HB.out hw125_2 :)⟩ (fun hHeld => ?_)
  clear hK K
  refine norm_ (a' := ?_) ?_ ?_
  rotate_left
  · show Act.put _ (some 15) _ = _
    simp only [Act.put, sA, sB, sC, i64_w, i32_w]
    rfl
  refine p1_ HT_.out 12 16 spec_l19Ok.d13 ?_
  refine p1_ HT_.out 13 17 spec_l19Ok.d14 ?_
  refine p1_ HT_.out 14 18 spec_l19Ok.d15 ?_
  refine p1_ HT_.out 15 19 spec_l19Ok.d16 ?_
  refine p1_ HT_.out 16 20 spec_l19Ok.d17 ?_
  refine p1_ HT_.out 17 21 spec_l19Ok.d18 ?_
  refine p1_ HT_.out 20 24 spec_l19Ok.d19 ?_
  refine p1_ HT_.out 21 25 spec_l19Ok.d20 ?_
  refine p1_ HT_.out 22 26 spec_l19Ok.d21 ?_
  refine p1_ HT_.out 24 28 spec_l19Ok.d22 ?_
  refine p1_ HT_.out 25 29 spec_l19Ok.d23 ?_
  refine p1_ HT_.out 26 30 spec_l19Ok.d24 ?_
  refine take_ (i := 18) (N := some 22) (v := ?_) (a' := ?_) spec_l19Ok.d25 rfl rfl (take_ofW HT_.out HW_.out (by kernel_rfl)) (fun _ _ _ h => h) (Or.inl ⟨by rfl, ?_⟩) hHeld ?_ ?_
  rotate_left
  · rintro w' ⟨s0, s1, s2, s3, s4, s5, s6, s7, s8, s9, s10, s11, s12, s13, s14⟩
    go_simp
    with_reducible rfl
  rotate_left
  · simp only [Act.put, sA, sB, sC, i64_w, i32_w]
    rfl
  refine p1_ HT_.out 19 23 spec_l19Ok.d26 ?_
  refine take_ (i := 23) (N := some 27) (v := ?_) (a' := ?_) spec_l19Ok.d27 rfl rfl (take_ofW HT_.out HW_.out (by kernel_rfl)) (fun _ _ _ h => h) (Or.inl ⟨by rfl, ?_⟩) hHeld ?_ ?_
  rotate_left
  · rintro w' ⟨s0, s1, s2, s3, s4, s5, s6, s7, s8, s9, s10, s11, s12, s13, s14⟩
    go_simp
    with_reducible rfl
  rotate_left
  · simp only [Act.put, sA, sB, sC, i64_w, i32_w]
    rfl
  refine take_ (i := 27) (N := some 31) (v := ?_) (a' := ?_) spec_l19Ok.d28 rfl rfl (take_ofW HT_.out HW_.out (by kernel_rfl)) (fun _ _ _ h => h) (Or.inl ⟨by rfl, ?_⟩) hHeld ?_ ?_
  rotate_left
  · rintro w' ⟨s0, s1, s2, s3, s4, s5, s6, s7, s8, s9, s10, s11, s12, s13, s14⟩
    go_simp
    with_reducible rfl
  rotate_left
  · simp only [Act.put, sA, sB, sC, i64_w, i32_w]
    rfl
  refine p1_ HT_.out 28 32 spec_l19Ok.d29 ?_
  refine p1_ HT_.out 29 33 spec_l19Ok.d30 ?_
  refine p1_ HT_.out 30 34 spec_l19Ok.d31 ?_
  refine done_ (done_of HT_.out (by kernel_rfl)) ?_
  try go_wp2
  go_meet
  case rel => exact ⟨_, (((((rd_T27 l0 0).f2).length : Int) != (wrap64 (((rd_T27 l0 0).f0) * ((rd_T27 l0 0).f1))))), (by first | rfl | (simp; done) | (simp [*]; done) | (simp [i64_w, i32_w]; done)), H', ⟨by first | omega | exact Nat.le_refl _⟩, ⟨by repeat (first | (with_reducible first | exact HB.out | apply below_alloc | apply pw_below_drewN | apply below_drew1) | exact HB.out)⟩⟩
 case rest =>
  clear HC2
  try clear c1
  try clear p1
  try clear q1
  try clear hx1
  try clear qi1
  try clear p2
  try clear c3
  try clear c5
  try clear c6
  try clear p6
  try clear c7
  try clear hx119_0
  try clear hx119_1
  try clear hx119_2
  try clear hx121_0
  try clear hx121_1
  try clear hx121_2
  try clear p119
  try clear p121
  try clear q119
  try clear q121
  obtain ⟨kq, x34_1, rfl, HA, HJ1, HB⟩ := hcut
  cases kq with
  | zero => exact absurd HA.out (by simp [spec_l19Ok.j0])
  | succ kj1 =>
   have H := HA.out
   clear HA
   simp only [spec_l19Ok.j0] at H
   by_cases c11 : x34_1 = true
   · subst c11
     have H1 : (some false) = some r := by rw [if_pos rfl] at H; exact H
     clear H
     have H := H1
     clear H1
     obtain rfl := Option.some.inj H
     go_wp2
     go_ret
     exact ⟨by first | rfl | (simp [errW_none, errW_some] <;> rfl) | (simp [*, errW_none, errW_some] <;> rfl), by repeat (first | (with_reducible first | exact HB.out | apply below_alloc | apply pw_below_drewN | apply below_drew1) | exact HB.out)⟩
   · replace c11 := Bool.eq_false_iff.mpr c11
     subst c11
     have H1 : (spec_l19Ok.l0 kj1 0 l0) = some r := by rw [if_neg (show ¬ (false = true) by decide)] at H; exact H
     clear H
     have H := H1
     clear H1
     have H' := mkA H
     clear H
     go_wp2
     go_loopg [3] kj1 (fun kq v3 w' => ∃ (x3_2 : Int), v3 = .int .i64 x3_2 ∧ Aside0 (spec_l19Ok.l0 kq x3_2 l0 = some r) ∧ Aside0 (kq ≤ kj1) ∧ Aside0 (Below w.heap.size w w'))
     case atStart => exact ⟨(0), (by first | rfl | (simp; done) | (simp [*]; done) | (simp [i64_w, i32_w]; done)), H', ⟨Nat.le_refl _⟩, ⟨by repeat (first | (with_reducible first | exact HB.out | apply below_alloc | apply pw_below_drewN | apply below_drew1) | exact HB.out)⟩⟩
     case round =>
      clear H'
      try clear c1
      try clear p1
      try clear q1
      try clear hx1
      try clear qi1
      try clear p2
      try clear c3
      try clear c5
      try clear c6
      try clear p6
      try clear c7
      try clear c11
      try clear p11
      try clear q11
      try clear hx11
      try clear qi11
      try clear hx119_0
      try clear hx119_1
      try clear hx119_2
      try clear hx121_0
      try clear hx121_1
      try clear hx121_2
      try clear p1
      try clear p119
      try clear p121
      try clear p2
      try clear p6
      try clear q1
      try clear q119
      try clear q121
      obtain ⟨x3_2, rfl, HA, HK2, HB⟩ := hrel
      cases gk with
      | zero => exact absurd HA.out (by simp [spec_l19Ok.l0])
      | succ k2 =>
       have H := HA.out
       clear HA
       simp only [spec_l19Ok.l0] at H
       by_cases c12 : 0 < (l0.length : Int)
       rotate_left
       · rw [if_neg c12] at H
         exact absurd H (by simp)

       rw [if_pos c12] at H
       have c12b0 : decide (0 < (l0.length : Int)) = true := decide_eq_true c12
       have c12b1 : decide (0 < l0.length) = true := decide_eq_true (by omega)
       clear c12
       by_cases c13 : x3_2 < (((rd_T27 l0 0).f2).length : Int)
       rotate_left
       · rw [if_neg c13] at H
         have c13b0 : decide (x3_2 < (((rd_T27 l0 0).f2).length : Int)) = false := decide_eq_false c13
         clear c13
         obtain rfl := Option.some.inj H
         have p126 : 0 ≤ (0 : Int) := (by omega)
         have q126 : 0 < (l0.length : Int) := dt_
         obtain ⟨ad126, A126_2, c126_2, e126, hx126_0, hx126_1, hx126_2, hl126_2, hi126_2⟩ := at0_T27 HR0.out q126
         cases e126
         have qi126 : (0 < l0.length) = True := eq_true (by omega)
         replace hx126_0 := bc_ HB.out hx126_0
         replace hx126_1 := bc_ HB.out hx126_1
         replace hx126_2 := bc_ HB.out hx126_2
         have HR126_2 := mkA hi126_2
         have HC126_2 := mkA hl126_2
         clear hi126_2 hl126_2
         replace p126 := eq_true p126
         replace q126 := eq_true q126
         go_wp2
         go_ret
         exact ⟨by first | rfl | (simp [errW_none, errW_some] <;> rfl) | (simp [*, errW_none, errW_some] <;> rfl), by repeat (first | (with_reducible first | exact HB.out | apply below_alloc | apply pw_below_drewN | apply below_drew1) | exact HB.out)⟩
       rw [if_pos c13] at H
       have c13b0 : decide (x3_2 < (((rd_T27 l0 0).f2).length : Int)) = true := decide_eq_true c13
       clear c13
       by_cases c14 : 0 ≤ x3_2
       rotate_left
       · rw [if_neg c14] at H
         exact absurd H (by simp)
       rw [if_pos c14] at H
       have c14b0 : decide (0 ≤ x3_2) = true := decide_eq_true c14
       clear c14
       replace H := Option.bind_eq_some_iff.mp H
       obtain ⟨t129, A150, H⟩ := H
       replace H : (if t129 = true then (spec_l19Ok.l0 k2 (wrap64 (x3_2 + 1)) l0) else (some false)) = some r := H
       have A15 := mkA A150
       clear A150
       by_cases c16 : t129 = true
       rotate_left
       · replace c16 := Bool.eq_false_iff.mpr c16
         subst c16
         have H1 : (some false) = some r := by rw [if_neg (show ¬ (false = true) by decide)] at H; exact H
         clear H
         have H := H1
         clear H1
         obtain rfl := Option.some.inj H
         have p126 : 0 ≤ (0 : Int) := (by omega)
         have q126 : 0 < (l0.length : Int) := dt_
         obtain ⟨ad126, A126_2, c126_2, e126, hx126_0, hx126_1, hx126_2, hl126_2, hi126_2⟩ := at0_T27 HR0.out q126
         cases e126
         have qi126 : (0 < l0.length) = True := eq_true (by omega)
         replace hx126_0 := bc_ HB.out hx126_0
         replace hx126_1 := bc_ HB.out hx126_1
         replace hx126_2 := bc_ HB.out hx126_2
         have HR126_2 := mkA hi126_2
         have HC126_2 := mkA hl126_2
         clear hi126_2 hl126_2
         replace p126 := eq_true p126
         replace q126 := eq_true q126
         have p127 : 0 ≤ (0 : Int) := (by omega)
         have q127 : 0 < (l0.length : Int) := dt_
         obtain ⟨ad127, A127_2, c127_2, e127, hx127_0, hx127_1, hx127_2, hl127_2, hi127_2⟩ := at0_T27 HR0.out q127
         obtain rfl : ad126 = ad127 := (by injection e127)
         have qi127 : (0 < l0.length) = True := eq_true (by omega)
         replace hx127_0 := bc_ HB.out hx127_0
         replace hx127_1 := bc_ HB.out hx127_1
         replace hx127_2 := bc_ HB.out hx127_2
         have HR127_2 := mkA hi127_2
         have HC127_2 := mkA hl127_2
         clear hi127_2 hl127_2
         replace p127 := eq_true p127
         replace q127 := eq_true q127
         have ea_ := Option.some.inj (hx126_2.symm.trans hx127_2)
         injection ea_ with ea_ en_ ec_
         subst ea_
         subst ec_
         clear en_
         have p128 : 0 ≤ (x3_2 : Int) := dt_
         have q128 : x3_2 < (((rd_T27 l0 0).f2).length : Int) := dt_
         obtain ⟨ad128, e128, hx128_0⟩ := Kd.at_int HR127_2.out x3_2 p128 q128
         cases e128
         replace hx128_0 := bc_ HB.out hx128_0
         replace p128 := eq_true p128
         replace q128 := eq_true q128
         go_wp2_with (first | ((with_reducible refine gate_callee (f := 60) rfl ?_); refine goesL_ (some 51) rfl rfl Try.func60 (by kernel_rfl) rfl #[.int .i64 (rd ((rd_T27 l0 0).f2) x3_2), .int .i64 0, .int .i64 1] rfl (by (try simp only [List.map_toArray, List.map_cons, List.map_nil]); first | done | rfl | (simp only [List.length_drop, List.length_take]; rfl)) ?_; (with_reducible refine (spec_l00In.calls (rd ((rd_T27 l0 0).f2) x3_2) 0 1 false _ A15.out).mono ?_); rintro e w' ⟨rfl, ⟨nd, rfl⟩⟩; refine ⟨_, rfl, ?_⟩))
         go_ret
         exact ⟨by first | rfl | (simp [errW_none, errW_some] <;> rfl) | (simp [*, errW_none, errW_some] <;> rfl), by repeat (first | (with_reducible first | exact HB.out | apply below_alloc | apply pw_below_drewN | apply below_drew1) | exact HB.out)⟩
       subst c16
       have H1 : (spec_l19Ok.l0 k2 (wrap64 (x3_2 + 1)) l0) = some r := by rw [if_pos rfl] at H; exact H
       clear H
       have H := H1
       clear H1
       have H' := mkA H
       clear H
       have p126 : 0 ≤ (0 : Int) := (by omega)
       have q126 : 0 < (l0.length : Int) := dt_
       obtain ⟨ad126, A126_2, c126_2, e126, hx126_0, hx126_1, hx126_2, hl126_2, hi126_2⟩ := at0_T27 HR0.out q126
       cases e126
       have qi126 : (0 < l0.length) = True := eq_true (by omega)
       replace hx126_0 := bc_ HB.out hx126_0
       replace hx126_1 := bc_ HB.out hx126_1
       replace hx126_2 := bc_ HB.out hx126_2
       have HR126_2 := mkA hi126_2
       have HC126_2 := mkA hl126_2
       clear hi126_2 hl126_2
       replace p126 := eq_true p126
       replace q126 := eq_true q126
       have p127 : 0 ≤ (0 : Int) := (by omega)
       have q127 : 0 < (l0.length : Int) := dt_
       obtain ⟨ad127, A127_2, c127_2, e127, hx127_0, hx127_1, hx127_2, hl127_2, hi127_2⟩ := at0_T27 HR0.out q127
       obtain rfl : ad126 = ad127 := (by injection e127)
       have qi127 : (0 < l0.length) = True := eq_true (by omega)
       replace hx127_0 := bc_ HB.out hx127_0
       replace hx127_1 := bc_ HB.out hx127_1
       replace hx127_2 := bc_ HB.out hx127_2
       have HR127_2 := mkA hi127_2
       have HC127_2 := mkA hl127_2
       clear hi127_2 hl127_2
       replace p127 := eq_true p127
       replace q127 := eq_true q127
       have ea_ := Option.some.inj (hx126_2.symm.trans hx127_2)
       injection ea_ with ea_ en_ ec_
       subst ea_
       subst ec_
       clear en_
       have p128 : 0 ≤ (x3_2 : Int) := dt_
       have q128 : x3_2 < (((rd_T27 l0 0).f2).length : Int) := dt_
       obtain ⟨ad128, e128, hx128_0⟩ := Kd.at_int HR127_2.out x3_2 p128 q128
       cases e128
       replace hx128_0 := bc_ HB.out hx128_0
       replace p128 := eq_true p128
       replace q128 := eq_true q128
       go_wp2_with (first | ((with_reducible refine gate_callee (f := 60) rfl ?_); refine goesL_ (some 51) rfl rfl Try.func60 (by kernel_rfl) rfl #[.int .i64 (rd ((rd_T27 l0 0).f2) x3_2), .int .i64 0, .int .i64 1] rfl (by (try simp only [List.map_toArray, List.map_cons, List.map_nil]); first | done | rfl | (simp only [List.length_drop, List.length_take]; rfl)) ?_; (with_reducible refine (spec_l00In.calls (rd ((rd_T27 l0 0).f2) x3_2) 0 1 true _ A15.out).mono ?_); rintro e w' ⟨rfl, ⟨nd, rfl⟩⟩; refine ⟨_, rfl, ?_⟩))
       go_roundg k2
       case measure => have := HJ1.out; have := HK2.out; omega
       case rel => exact ⟨(wrap64 (x3_2 + 1)), (by first | rfl | (simp; done) | (simp [*]; done) | (simp [i64_w, i32_w]; done)), H', ⟨by have := HJ1.out; have := HK2.out; omega⟩, ⟨by repeat (first | (with_reducible first | exact HB.out | apply below_alloc | apply pw_below_drewN | apply below_drew1) | exact HB.out)⟩⟩
end Go.Proofs.Ytakagkflgkoiiaa.GFnExactShapeText

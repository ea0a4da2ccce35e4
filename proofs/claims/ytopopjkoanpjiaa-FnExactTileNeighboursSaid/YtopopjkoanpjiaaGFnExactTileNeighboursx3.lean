-- Written by the session's own program (gen.py) out of the translation's print. Lean checks it.
import Derived.Test.YtopopjkoanpjiaaGFnExactTileNeighboursx0
import Derived.Test.YtopopjkoanpjiaaGFnExactTileNeighboursx1
import Derived.Test.YtopopjkoanpjiaaGFnExactTileNeighboursx2
namespace Go.Proofs.Ytopopjkoanpjiaa.GFnExactTileNeighbours
open Go.RowKit Go.Proofs.YtopopjkoanpjiaaW.PrintWords Go.Proofs.YtopopjkoanpjiaaW.PrintLast Go.Proofs.YtopopjkoanpjiaaW.PrintMore
attribute [local go_sem] max2_int min2_int max_two min_two max_three min_three max_four min_four   -- for this text's walks alone
set_option linter.unusedVariables false
set_option linter.unusedSimpArgs false

/-! ### spec_l17Ok: function 14 -/
mutual
def spec_l17Ok.j0 : Nat → Bool → List (S28) → Option (Bool)
  | 0, _, _ => none
  | k + 1, x35, x960 => if x35 = true then (some false) else ((spec_l17Most.f k x960).bind fun t155 => (spec_l17Ok.l0 k t155 0 x960))
def spec_l17Ok.l0 : Nat → Int → Int → List (S28) → Option (Bool)
  | 0, _, _, _ => none
  | k + 1, x3, x4, x960 => if x4 < x3 then ((spec_l17Joined.f k x960 x4).bind fun t156 => (if t156 = true then (spec_l17Ok.l0 k x3 (wrap64 (x4 + 1)) x960) else (some false))) else (some (decide (x3 > 0)))
end
def spec_l17Ok.f (k : Nat) (l0 : List (S28)) : Option (Bool) := if 0 < (l0.length : Int) then ((spec_l00In.f ((rd_T28 l0 0).f0) 1 12).bind fun t149 => (if t149 = true then ((spec_l00In.f ((rd_T28 l0 0).f1) 1 12).bind fun t151 => (if t151 = true then (spec_l17Ok.j0 k ((((rd_T28 l0 0).f2).length : Int) != (wrap64 (((rd_T28 l0 0).f0) * ((rd_T28 l0 0).f1)))) l0) else (spec_l17Ok.j0 k true l0))) else (spec_l17Ok.j0 k true l0))) else (none)
theorem spec_l17Ok.mono_l : ∀ k, (∀ y0 y1, LeO (spec_l17Ok.j0 k y0 y1) (spec_l17Ok.j0 (k + 1) y0 y1)) ∧ (∀ y0 y1 y2, LeO (spec_l17Ok.l0 k y0 y1 y2) (spec_l17Ok.l0 (k + 1) y0 y1 y2))
  | 0 => ⟨fun _ _ r h => by simp [spec_l17Ok.j0] at h, fun _ _ _ r h => by simp [spec_l17Ok.l0] at h⟩
  | k + 1 => by
    obtain ⟨ih0, ih1⟩ := spec_l17Ok.mono_l k
    refine ⟨?_, ?_⟩
    · intro y0 y1
      unfold spec_l17Ok.j0
      repeat' first
      | (with_reducible exact ih0 _ _)
      | (with_reducible exact ih1 _ _ _)
      | (with_reducible exact spec_l17Joined.mono _ _ _)
      | (with_reducible exact spec_l17Most.mono _ _)
      | (with_reducible exact LeO.refl _)
      | (with_reducible exact LeO.none _)
      | (with_reducible refine LeO.ite ?_ ?_)
      | (with_reducible refine LeO.bind ?_ (fun _ => ?_))
      | exact ih0 _ _
      | exact ih1 _ _ _
      | exact spec_l17Joined.mono _ _ _
      | exact spec_l17Most.mono _ _
      | exact LeO.none _
      | refine LeO.ite ?_ ?_
      | refine LeO.bind ?_ (fun _ => ?_)
    · intro y0 y1 y2
      unfold spec_l17Ok.l0
      repeat' first
      | (with_reducible exact ih0 _ _)
      | (with_reducible exact ih1 _ _ _)
      | (with_reducible exact spec_l17Joined.mono _ _ _)
      | (with_reducible exact spec_l17Most.mono _ _)
      | (with_reducible exact LeO.refl _)
      | (with_reducible exact LeO.none _)
      | (with_reducible refine LeO.ite ?_ ?_)
      | (with_reducible refine LeO.bind ?_ (fun _ => ?_))
      | exact ih0 _ _
      | exact ih1 _ _ _
      | exact spec_l17Joined.mono _ _ _
      | exact spec_l17Most.mono _ _
      | exact LeO.none _
      | refine LeO.ite ?_ ?_
      | refine LeO.bind ?_ (fun _ => ?_)
theorem spec_l17Ok.mono : ∀ a0 k, LeO (spec_l17Ok.f k a0) (spec_l17Ok.f (k + 1) a0) := by
  intro a0 k
  obtain ⟨ih0, ih1⟩ := spec_l17Ok.mono_l k
  unfold spec_l17Ok.f
  repeat' first
      | (with_reducible exact ih0 _ _)
      | (with_reducible exact ih1 _ _ _)
      | (with_reducible exact spec_l17Joined.mono _ _ _)
      | (with_reducible exact spec_l17Most.mono _ _)
      | (with_reducible exact LeO.refl _)
      | (with_reducible exact LeO.none _)
      | (with_reducible refine LeO.ite ?_ ?_)
      | (with_reducible refine LeO.bind ?_ (fun _ => ?_))
      | exact ih0 _ _
      | exact ih1 _ _ _
      | exact spec_l17Joined.mono _ _ _
      | exact spec_l17Most.mono _ _
      | exact LeO.none _
      | refine LeO.ite ?_ ?_
      | refine LeO.bind ?_ (fun _ => ?_)
def spec_l17Ok.T1 : Bool × List (List Nat × List Nat) := (true, [([], []), ([0], [0]), ([1], [1]), ([2], [2]), ([3], [3]), ([4], [4]), ([5, 4], [5]), ([6], [6]), ([7, 6], [6, 7]), ([8, 6], [6, 8]), ([9, 6], [6, 9]), ([10, 6, 6], [6, 10]), ([11, 6], [6, 11]), ([6, 12], [6, 12]), ([13, 11], [13]), ([14], [14]), ([15, 14], [14, 15]), ([16, 14], [14, 16]), ([17, 14], [14, 17]), ([18, 14], [14, 18]), ([14], [14]), ([20, 14], [14, 20]), ([21, 14], [14, 21]), ([22, 14], [14, 22]), ([14], [14]), ([24, 14], [14, 24]), ([25, 14], [14, 25]), ([26, 14], [14, 26]), ([23, 27, 14], [14, 23, 27]), ([19, 28, 14], [14, 19, 28]), ([14, 29], [14, 29])])
def spec_l17Ok.B1 : List Nat := [0, 1, 3, 7, 15, 31, 63, 127, 255, 511, 1023, 2047, 4095, 8191, 16383, 32767, 65535, 131071, 262143, 524287, 32767, 1081343, 3178495, 7372799, 32767, 16809983, 50364415, 117473279, 267419647, 536870911, 1073741823]
theorem spec_l17Ok.tab1 : rtab .any (opsOf Try.f14 1) = spec_l17Ok.T1 := by kernel_rfl
theorem spec_l17Ok.bits1 : waitsOk spec_l17Ok.T1.2 spec_l17Ok.B1 = true := by kernel_rfl
open List renaming setIfInBounds_toArray → sA, set_cons_zero → sB, set_cons_succ → sC
open Go.Proofs.YtopopjkoanpjiaaW.PrintWords.Aside0 renaming mk → mkA
open Go.Proofs.YtopopjkoanpjiaaX (dt_ bc_ p0_ p1_ bl_ cb_ bs0_ bs1_ bs2_ bs3_ bs4_ bs5_ bs6_ bs7_ bs8_ bs9_ bs10_ bs11_ bs12_)
abbrev spec_l17Ok.d0 : Array Bool := #[false, false, false, false, false, false, false, false, false, false, false, false, false, false, false, false, false, false, false, false, false, false, false, false, false, false, false, false, false, false, false]
abbrev spec_l17Ok.d1 : Array Bool := #[true, false, false, false, false, false, false, false, false, false, false, false, false, false, false, false, false, false, false, false, false, false, false, false, false, false, false, false, false, false, false]
abbrev spec_l17Ok.d2 : Array Bool := #[true, true, false, false, false, false, false, false, false, false, false, false, false, false, false, false, false, false, false, false, false, false, false, false, false, false, false, false, false, false, false]
abbrev spec_l17Ok.d3 : Array Bool := #[true, true, true, false, false, false, false, false, false, false, false, false, false, false, false, false, false, false, false, false, false, false, false, false, false, false, false, false, false, false, false]
abbrev spec_l17Ok.d4 : Array Bool := #[true, true, true, true, false, false, false, false, false, false, false, false, false, false, false, false, false, false, false, false, false, false, false, false, false, false, false, false, false, false, false]
abbrev spec_l17Ok.d5 : Array Bool := #[true, true, true, true, true, false, false, false, false, false, false, false, false, false, false, false, false, false, false, false, false, false, false, false, false, false, false, false, false, false, false]
abbrev spec_l17Ok.d6 : Array Bool := #[true, true, true, true, true, true, false, false, false, false, false, false, false, false, false, false, false, false, false, false, false, false, false, false, false, false, false, false, false, false, false]
abbrev spec_l17Ok.d7 : Array Bool := #[true, true, true, true, true, true, true, false, false, false, false, false, false, false, false, false, false, false, false, false, false, false, false, false, false, false, false, false, false, false, false]
abbrev spec_l17Ok.d8 : Array Bool := #[true, true, true, true, true, true, true, true, false, false, false, false, false, false, false, false, false, false, false, false, false, false, false, false, false, false, false, false, false, false, false]
abbrev spec_l17Ok.d9 : Array Bool := #[true, true, true, true, true, true, true, true, true, false, false, false, false, false, false, false, false, false, false, false, false, false, false, false, false, false, false, false, false, false, false]
abbrev spec_l17Ok.d10 : Array Bool := #[true, true, true, true, true, true, true, true, true, true, false, false, false, false, false, false, false, false, false, false, false, false, false, false, false, false, false, false, false, false, false]
abbrev spec_l17Ok.d11 : Array Bool := #[true, true, true, true, true, true, true, true, true, true, true, false, false, false, false, false, false, false, false, false, false, false, false, false, false, false, false, false, false, false, false]
abbrev spec_l17Ok.d12 : Array Bool := #[true, true, true, true, true, true, true, true, true, true, true, true, false, false, false, false, false, false, false, false, false, false, false, false, false, false, false, false, false, false, false]
abbrev spec_l17Ok.d13 : Array Bool := #[true, true, true, true, true, true, true, true, true, true, true, true, true, false, false, false, false, false, false, false, false, false, false, false, false, false, false, false, false, false, false]
abbrev spec_l17Ok.d14 : Array Bool := #[true, true, true, true, true, true, true, true, true, true, true, true, true, true, false, false, false, false, false, false, false, false, false, false, false, false, false, false, false, false, false]
abbrev spec_l17Ok.d15 : Array Bool := #[true, true, true, true, true, true, true, true, true, true, true, true, true, true, true, false, false, false, false, false, false, false, false, false, false, false, false, false, false, false, false]
abbrev spec_l17Ok.d16 : Array Bool := #[true, true, true, true, true, true, true, true, true, true, true, true, true, true, true, true, false, false, false, false, false, false, false, false, false, false, false, false, false, false, false]
abbrev spec_l17Ok.d17 : Array Bool := #[true, true, true, true, true, true, true, true, true, true, true, true, true, true, true, true, true, false, false, false, false, false, false, false, false, false, false, false, false, false, false]
abbrev spec_l17Ok.d18 : Array Bool := #[true, true, true, true, true, true, true, true, true, true, true, true, true, true, true, true, true, true, false, false, false, false, false, false, false, false, false, false, false, false, false]
abbrev spec_l17Ok.d19 : Array Bool := #[true, true, true, true, true, true, true, true, true, true, true, true, true, true, true, true, true, true, false, false, true, false, false, false, false, false, false, false, false, false, false]
abbrev spec_l17Ok.d20 : Array Bool := #[true, true, true, true, true, true, true, true, true, true, true, true, true, true, true, true, true, true, false, false, true, true, false, false, false, false, false, false, false, false, false]
abbrev spec_l17Ok.d21 : Array Bool := #[true, true, true, true, true, true, true, true, true, true, true, true, true, true, true, true, true, true, false, false, true, true, true, false, false, false, false, false, false, false, false]
abbrev spec_l17Ok.d22 : Array Bool := #[true, true, true, true, true, true, true, true, true, true, true, true, true, true, true, true, true, true, false, false, true, true, true, false, true, false, false, false, false, false, false]
abbrev spec_l17Ok.d23 : Array Bool := #[true, true, true, true, true, true, true, true, true, true, true, true, true, true, true, true, true, true, false, false, true, true, true, false, true, true, false, false, false, false, false]
abbrev spec_l17Ok.d24 : Array Bool := #[true, true, true, true, true, true, true, true, true, true, true, true, true, true, true, true, true, true, false, false, true, true, true, false, true, true, true, false, false, false, false]
abbrev spec_l17Ok.d25 : Array Bool := #[true, true, true, true, true, true, true, true, true, true, true, true, true, true, true, true, true, true, true, false, true, true, true, false, true, true, true, false, false, false, false]
abbrev spec_l17Ok.d26 : Array Bool := #[true, true, true, true, true, true, true, true, true, true, true, true, true, true, true, true, true, true, true, true, true, true, true, false, true, true, true, false, false, false, false]
abbrev spec_l17Ok.d27 : Array Bool := #[true, true, true, true, true, true, true, true, true, true, true, true, true, true, true, true, true, true, true, true, true, true, true, true, true, true, true, false, false, false, false]
abbrev spec_l17Ok.d28 : Array Bool := #[true, true, true, true, true, true, true, true, true, true, true, true, true, true, true, true, true, true, true, true, true, true, true, true, true, true, true, true, false, false, false]
abbrev spec_l17Ok.d29 : Array Bool := #[true, true, true, true, true, true, true, true, true, true, true, true, true, true, true, true, true, true, true, true, true, true, true, true, true, true, true, true, true, false, false]
abbrev spec_l17Ok.d30 : Array Bool := #[true, true, true, true, true, true, true, true, true, true, true, true, true, true, true, true, true, true, true, true, true, true, true, true, true, true, true, true, true, true, false]
abbrev spec_l17Ok.d31 : Array Bool := #[true, true, true, true, true, true, true, true, true, true, true, true, true, true, true, true, true, true, true, true, true, true, true, true, true, true, true, true, true, true, true]
abbrev spec_l17Ok.d32 : Array Bool := #[true, true, true, true, true, true, true, true, true, true, true, true, true, true, true, true, true, true, true, false, false, false, false, false, false, false, false, false, false, false, false]
abbrev spec_l17Ok.d33 : Array Bool := #[true, true, true, true, true, true, true, true, true, true, true, true, true, true, true, true, true, true, true, true, false, false, false, false, false, false, false, false, false, false, false]
abbrev spec_l17Ok.d34 : Array Bool := #[true, true, true, true, true, true, true, true, true, true, true, true, true, true, true, true, true, true, true, true, true, false, false, false, false, false, false, false, false, false, false]
abbrev spec_l17Ok.d35 : Array Bool := #[true, true, true, true, true, true, true, true, true, true, true, true, true, true, true, true, true, true, true, true, true, true, false, false, false, false, false, false, false, false, false]
abbrev spec_l17Ok.d36 : Array Bool := #[true, true, true, true, true, true, true, true, true, true, true, true, true, true, true, true, true, true, true, true, true, true, true, false, false, false, false, false, false, false, false]
abbrev spec_l17Ok.d37 : Array Bool := #[true, true, true, true, true, true, true, true, true, true, true, true, true, true, true, true, true, true, true, true, true, true, true, true, false, false, false, false, false, false, false]
abbrev spec_l17Ok.d38 : Array Bool := #[true, true, true, true, true, true, true, true, true, true, true, true, true, true, true, true, true, true, true, true, true, true, true, true, true, false, false, false, false, false, false]
abbrev spec_l17Ok.d39 : Array Bool := #[true, true, true, true, true, true, true, true, true, true, true, true, true, true, true, true, true, true, true, true, true, true, true, true, true, true, false, false, false, false, false]
set_option maxHeartbeats 8000000 in
set_option maxRecDepth 100000 in
theorem spec_l17Ok.calls (k : Nat) (A0 : Option Addr) (l0 : List (S28)) (r : Bool) (w : World) (hr0 : Kd.C k28 w A0 l0.length l0) (h : spec_l17Ok.f k l0 = some r) :
 Calls Try.prog 14 #[.pointer A0] w fun e w' => e = .returned (.bool r) ∧ Below w.heap.size w w' := by
 have HR0 := mkA hr0
 clear hr0
 have HB := mkA (Below.refl w.heap.size w)
 have H : (if 0 < (l0.length : Int) then ((spec_l00In.f ((rd_T28 l0 0).f0) 1 12).bind fun t149 => (if t149 = true then ((spec_l00In.f ((rd_T28 l0 0).f1) 1 12).bind fun t151 => (if t151 = true then (spec_l17Ok.j0 k ((((rd_T28 l0 0).f2).length : Int) != (wrap64 (((rd_T28 l0 0).f0) * ((rd_T28 l0 0).f1)))) l0) else (spec_l17Ok.j0 k true l0))) else (spec_l17Ok.j0 k true l0))) else (none)) = some r := h
 clear h
 have HC2 := mkA H
 clear H
 go_enter Try.func14, Try.ntmps14
 go_upto_region 1 with (fail)
 go_cut [35] (fun v35 wc => ∃ (kq : Nat) (x35_1 : Bool), v35 = .bool x35_1 ∧ Aside0 (spec_l17Ok.j0 kq x35_1 l0 = some r) ∧ Aside0 (kq ≤ k) ∧ Aside0 (Below w.heap.size w wc))
 case first =>
  have H := HC2.out
  clear HC2
  by_cases c3 : 0 < (l0.length : Int)
  rotate_left
  · rw [if_neg c3] at H
    exact absurd H (by simp)
  rw [if_pos c3] at H
  have c3b0 : decide (0 < (l0.length : Int)) = true := decide_eq_true c3
  have c3b1 : decide (0 < l0.length) = true := decide_eq_true (by omega)
  clear c3
  (first | rw [c3b0] | (simp only [i64_w, i32_w]; rw [c3b0]) | skip)
  replace H := Option.bind_eq_some_iff.mp H
  obtain ⟨t149, A40, H⟩ := H
  replace H : (if t149 = true then ((spec_l00In.f ((rd_T28 l0 0).f1) 1 12).bind fun t151 => (if t151 = true then (spec_l17Ok.j0 k ((((rd_T28 l0 0).f2).length : Int) != (wrap64 (((rd_T28 l0 0).f0) * ((rd_T28 l0 0).f1)))) l0) else (spec_l17Ok.j0 k true l0))) else (spec_l17Ok.j0 k true l0)) = some r := H
  have A4 := mkA A40
  clear A40
  by_cases c5 : t149 = true
  rotate_left
  · replace c5 := Bool.eq_false_iff.mpr c5
    subst c5
    have H1 : (spec_l17Ok.j0 k true l0) = some r := by rw [if_neg (show ¬ (false = true) by decide)] at H; exact H
    clear H
    have H := H1
    clear H1
    have H' := mkA H
    clear H
    try go_wp2
    have n0_ := mkA (below_drew1 HB.out)
    clear HB
    have HB := n0_
    clear n0_
    have p148 : 0 ≤ (0 : Int) := (by omega)
    have q148 : 0 < (l0.length : Int) := dt_
    obtain ⟨ad148, A148_2, c148_2, e148, hx148_0, hx148_1, hx148_2, hl148_2, hi148_2⟩ := at0_T28 HR0.out q148
    have hw148_2 := hx148_2
    have hw148_1 := hx148_1
    have hw148_0 := hx148_0
    cases e148
    have qi148 : (0 < l0.length) = True := eq_true (by omega)
    replace hx148_0 := bc_ HB.out hx148_0
    replace hx148_1 := bc_ HB.out hx148_1
    replace hx148_2 := bc_ HB.out hx148_2
    have HR148_2 := mkA hi148_2
    have HC148_2 := mkA hl148_2
    clear hi148_2 hl148_2
    replace p148 := eq_true p148
    replace q148 := eq_true q148
    refine start_ (n := 31) (S := fun w' => w'.cell? ad148 = some (.int .i64 ((rd_T28 l0 0).f0)) ∧ w'.cell? ⟨ad148.block, ad148.off + 1, none⟩ = some (.int .i64 ((rd_T28 l0 0).f1)) ∧ w'.cell? ⟨ad148.block, ad148.off + 2, none⟩ = some (.slice A148_2 ((rd_T28 l0 0).f2).length c148_2)) (ds := []) spec_l17Ok.d0 (by kernel_rfl) rfl rfl ⟨(bc_ HB.out hw148_0 :), (bc_ HB.out hw148_1 :), (bc_ HB.out hw148_2 :)⟩ (fun hHeld => ?_); refine with_tabW spec_l17Ok.tab1 spec_l17Ok.bits1 (fun HT_ HW_ => ?_)
    generalize w.drew = w10 at HB HR148_2 hx148_0 hx148_1 hx148_2 hHeld ⊢
    refine p1_ HT_.out 0 5 spec_l17Ok.d1 ?_
    refine p1_ HT_.out 1 6 spec_l17Ok.d2 ?_
    refine p1_ HT_.out 2 7 spec_l17Ok.d3 ?_
    refine take_ (i := 3) (N := some 8) (v := ?_) (a' := ?_) spec_l17Ok.d4 rfl rfl (take_ofW HT_.out HW_.out (by kernel_rfl)) (fun _ _ _ h => h) (Or.inl ⟨by rfl, ?_⟩) hHeld ?_ ?_
    rotate_left
    · rintro w' ⟨s0, s1, s2⟩
      go_simp
      with_reducible rfl
    rotate_left
    · simp only [Act.put, sA, sB, sC, i64_w, i32_w]
      rfl
    refine one_ (i := 4) (N := some 9) spec_l17Ok.d5 rfl rfl (one_of HT_.out (by kernel_rfl)) (by decide) (fun K hK => ?_)
    refine goes_ Try.func15 (by kernel_rfl) rfl #[.int .i64 ((rd_T28 l0 0).f0), .int .i64 1, .int .i64 12] (by rfl) rfl rfl (by (try simp only [List.map_toArray, List.map_cons, List.map_nil]); first | done | rfl | (simp only [List.length_drop, List.length_take]; rfl)) ?_
    with_reducible refine (spec_l00In.calls ((rd_T28 l0 0).f0) 1 12 false _ A4.out).mono ?_
    rintro e w' ⟨rfl, ⟨nd, rfl⟩⟩
    refine ⟨_, rfl, ?_⟩
    refine hK.out _ _ ⟨(bc_ HB.out hw148_0 :), (bc_ HB.out hw148_1 :), (bc_ HB.out hw148_2 :)⟩ (fun hHeld => ?_)
    clear hK K
    refine norm_ (a' := ?_) ?_ ?_
    rotate_left
    · show Act.put _ (some 9) _ = _
      simp only [Act.put, sA, sB, sC, i64_w, i32_w]
      rfl
    refine p1_ HT_.out 5 10 spec_l17Ok.d6 ?_
    refine p1_ HT_.out 6 11 spec_l17Ok.d7 ?_
    refine p0_ HT_.out 7 12 spec_l17Ok.d8 ?_
    refine p0_ HT_.out 8 13 spec_l17Ok.d9 ?_
    refine p0_ HT_.out 9 14 spec_l17Ok.d10 ?_
    refine p0_ HT_.out 10 15 spec_l17Ok.d11 ?_
    refine p0_ HT_.out 11 16 spec_l17Ok.d12 ?_
    refine p0_ HT_.out 12 17 spec_l17Ok.d13 ?_
    refine p1_ HT_.out 13 18 spec_l17Ok.d14 ?_
    refine p1_ HT_.out 14 19 spec_l17Ok.d15 ?_
    refine p0_ HT_.out 15 20 spec_l17Ok.d16 ?_
    refine p0_ HT_.out 16 21 spec_l17Ok.d17 ?_
    refine p0_ HT_.out 17 22 spec_l17Ok.d18 ?_
    refine p0_ HT_.out 18 23 spec_l17Ok.d32 ?_
    refine p0_ HT_.out 19 24 spec_l17Ok.d33 ?_
    refine p0_ HT_.out 20 25 spec_l17Ok.d34 ?_
    refine p0_ HT_.out 21 26 spec_l17Ok.d35 ?_
    refine p0_ HT_.out 22 27 spec_l17Ok.d36 ?_
    refine p0_ HT_.out 23 28 spec_l17Ok.d37 ?_
    refine p0_ HT_.out 24 29 spec_l17Ok.d38 ?_
    refine p0_ HT_.out 25 30 spec_l17Ok.d39 ?_
    refine p0_ HT_.out 26 31 spec_l17Ok.d27 ?_
    refine p0_ HT_.out 27 32 spec_l17Ok.d28 ?_
    refine p0_ HT_.out 28 33 spec_l17Ok.d29 ?_
    refine p0_ HT_.out 29 34 spec_l17Ok.d30 ?_
    refine p1_ HT_.out 30 35 spec_l17Ok.d31 ?_
    refine done_ (done_of HT_.out (by kernel_rfl)) ?_
    try go_wp2
    go_meet
    case rel => exact ⟨_, (true), (by first | rfl | (simp; done) | (simp [*]; done) | (simp [i64_w, i32_w]; done)), H', ⟨by first | omega | exact Nat.le_refl _⟩, ⟨by repeat (first | (with_reducible first | exact HB.out | apply below_alloc | apply pw_below_drewN | apply below_drew1) | exact HB.out)⟩⟩
  subst c5
  have H1 : ((spec_l00In.f ((rd_T28 l0 0).f1) 1 12).bind fun t151 => (if t151 = true then (spec_l17Ok.j0 k ((((rd_T28 l0 0).f2).length : Int) != (wrap64 (((rd_T28 l0 0).f0) * ((rd_T28 l0 0).f1)))) l0) else (spec_l17Ok.j0 k true l0))) = some r := by rw [if_pos rfl] at H; exact H
  clear H
  have H := H1
  clear H1
  replace H := Option.bind_eq_some_iff.mp H
  obtain ⟨t151, A60, H⟩ := H
  replace H : (if t151 = true then (spec_l17Ok.j0 k ((((rd_T28 l0 0).f2).length : Int) != (wrap64 (((rd_T28 l0 0).f0) * ((rd_T28 l0 0).f1)))) l0) else (spec_l17Ok.j0 k true l0)) = some r := H
  have A6 := mkA A60
  clear A60
  by_cases c7 : t151 = true
  rotate_left
  · replace c7 := Bool.eq_false_iff.mpr c7
    subst c7
    have H1 : (spec_l17Ok.j0 k true l0) = some r := by rw [if_neg (show ¬ (false = true) by decide)] at H; exact H
    clear H
    have H := H1
    clear H1
    have H' := mkA H
    clear H
    try go_wp2
    have n0_ := mkA (below_drew1 HB.out)
    clear HB
    have HB := n0_
    clear n0_
    have p148 : 0 ≤ (0 : Int) := (by omega)
    have q148 : 0 < (l0.length : Int) := dt_
    obtain ⟨ad148, A148_2, c148_2, e148, hx148_0, hx148_1, hx148_2, hl148_2, hi148_2⟩ := at0_T28 HR0.out q148
    have hw148_2 := hx148_2
    have hw148_1 := hx148_1
    have hw148_0 := hx148_0
    cases e148
    have qi148 : (0 < l0.length) = True := eq_true (by omega)
    replace hx148_0 := bc_ HB.out hx148_0
    replace hx148_1 := bc_ HB.out hx148_1
    replace hx148_2 := bc_ HB.out hx148_2
    have HR148_2 := mkA hi148_2
    have HC148_2 := mkA hl148_2
    clear hi148_2 hl148_2
    replace p148 := eq_true p148
    replace q148 := eq_true q148
    have p150 : 0 ≤ (0 : Int) := (by omega)
    have q150 : 0 < (l0.length : Int) := dt_
    obtain ⟨ad150, A150_2, c150_2, e150, hx150_0, hx150_1, hx150_2, hl150_2, hi150_2⟩ := at0_T28 HR0.out q150
    have hw150_2 := hx150_2
    have hw150_1 := hx150_1
    have hw150_0 := hx150_0
    obtain rfl : ad148 = ad150 := (by injection e150)
    have qi150 : (0 < l0.length) = True := eq_true (by omega)
    replace hx150_0 := bc_ HB.out hx150_0
    replace hx150_1 := bc_ HB.out hx150_1
    replace hx150_2 := bc_ HB.out hx150_2
    have HR150_2 := mkA hi150_2
    have HC150_2 := mkA hl150_2
    clear hi150_2 hl150_2
    replace p150 := eq_true p150
    replace q150 := eq_true q150
    have ea_ := Option.some.inj (hx148_2.symm.trans hx150_2)
    injection ea_ with ea_ en_ ec_
    subst ea_
    subst ec_
    clear en_
    refine start_ (n := 31) (S := fun w' => w'.cell? ad148 = some (.int .i64 ((rd_T28 l0 0).f0)) ∧ w'.cell? ⟨ad148.block, ad148.off + 1, none⟩ = some (.int .i64 ((rd_T28 l0 0).f1)) ∧ w'.cell? ⟨ad148.block, ad148.off + 2, none⟩ = some (.slice A148_2 ((rd_T28 l0 0).f2).length c148_2) ∧ w'.cell? ad148 = some (.int .i64 ((rd_T28 l0 0).f0)) ∧ w'.cell? ⟨ad148.block, ad148.off + 1, none⟩ = some (.int .i64 ((rd_T28 l0 0).f1)) ∧ w'.cell? ⟨ad148.block, ad148.off + 2, none⟩ = some (.slice A148_2 ((rd_T28 l0 0).f2).length c148_2)) (ds := []) spec_l17Ok.d0 (by kernel_rfl) rfl rfl ⟨(bc_ HB.out hw148_0 :), (bc_ HB.out hw148_1 :), (bc_ HB.out hw148_2 :), (bc_ HB.out hw150_0 :), (bc_ HB.out hw150_1 :), (bc_ HB.out hw150_2 :)⟩ (fun hHeld => ?_); refine with_tabW spec_l17Ok.tab1 spec_l17Ok.bits1 (fun HT_ HW_ => ?_)
    generalize w.drew = w9 at HB HR148_2 HR150_2 hx148_0 hx148_1 hx148_2 hx150_0 hx150_1 hx150_2 hHeld ⊢
    refine p1_ HT_.out 0 5 spec_l17Ok.d1 ?_
    refine p1_ HT_.out 1 6 spec_l17Ok.d2 ?_
    refine p1_ HT_.out 2 7 spec_l17Ok.d3 ?_
    refine take_ (i := 3) (N := some 8) (v := ?_) (a' := ?_) spec_l17Ok.d4 rfl rfl (take_ofW HT_.out HW_.out (by kernel_rfl)) (fun _ _ _ h => h) (Or.inl ⟨by rfl, ?_⟩) hHeld ?_ ?_
    rotate_left
    · rintro w' ⟨s0, s1, s2, s3, s4, s5⟩
      go_simp
      with_reducible rfl
    rotate_left
    · simp only [Act.put, sA, sB, sC, i64_w, i32_w]
      rfl
    refine one_ (i := 4) (N := some 9) spec_l17Ok.d5 rfl rfl (one_of HT_.out (by kernel_rfl)) (by decide) (fun K hK => ?_)
    refine goes_ Try.func15 (by kernel_rfl) rfl #[.int .i64 ((rd_T28 l0 0).f0), .int .i64 1, .int .i64 12] (by rfl) rfl rfl (by (try simp only [List.map_toArray, List.map_cons, List.map_nil]); first | done | rfl | (simp only [List.length_drop, List.length_take]; rfl)) ?_
    with_reducible refine (spec_l00In.calls ((rd_T28 l0 0).f0) 1 12 true _ A4.out).mono ?_
    rintro e w' ⟨rfl, ⟨nd, rfl⟩⟩
    refine ⟨_, rfl, ?_⟩
    refine hK.out _ _ ⟨(bc_ HB.out hw148_0 :), (bc_ HB.out hw148_1 :), (bc_ HB.out hw148_2 :), (bc_ HB.out hw150_0 :), (bc_ HB.out hw150_1 :), (bc_ HB.out hw150_2 :)⟩ (fun hHeld => ?_)
    clear hK K
    refine norm_ (a' := ?_) ?_ ?_
    rotate_left
    · show Act.put _ (some 9) _ = _
      simp only [Act.put, sA, sB, sC, i64_w, i32_w]
      rfl
    refine p1_ HT_.out 5 10 spec_l17Ok.d6 ?_
    refine p1_ HT_.out 6 11 spec_l17Ok.d7 ?_
    refine p1_ HT_.out 7 12 spec_l17Ok.d8 ?_
    refine p1_ HT_.out 8 13 spec_l17Ok.d9 ?_
    refine p1_ HT_.out 9 14 spec_l17Ok.d10 ?_
    refine take_ (i := 10) (N := some 15) (v := ?_) (a' := ?_) spec_l17Ok.d11 rfl rfl (take_ofW HT_.out HW_.out (by kernel_rfl)) (fun _ _ _ h => h) (Or.inl ⟨by rfl, ?_⟩) hHeld ?_ ?_
    rotate_left
    · rintro w' ⟨s0, s1, s2, s3, s4, s5⟩
      go_simp
      with_reducible rfl
    rotate_left
    · simp only [Act.put, sA, sB, sC, i64_w, i32_w]
      rfl
    refine one_ (i := 11) (N := some 16) spec_l17Ok.d12 rfl rfl (one_of HT_.out (by kernel_rfl)) (by decide) (fun K hK => ?_)
    refine goes_ Try.func15 (by kernel_rfl) rfl #[.int .i64 ((rd_T28 l0 0).f1), .int .i64 1, .int .i64 12] (by rfl) rfl rfl (by (try simp only [List.map_toArray, List.map_cons, List.map_nil]); first | done | rfl | (simp only [List.length_drop, List.length_take]; rfl)) ?_
    with_reducible refine (spec_l00In.calls ((rd_T28 l0 0).f1) 1 12 false _ A6.out).mono ?_
    rintro e w' ⟨rfl, ⟨nd, rfl⟩⟩
    refine ⟨_, rfl, ?_⟩
    refine hK.out _ _ ⟨(bc_ HB.out hw148_0 :), (bc_ HB.out hw148_1 :), (bc_ HB.out hw148_2 :), (bc_ HB.out hw150_0 :), (bc_ HB.out hw150_1 :), (bc_ HB.out hw150_2 :)⟩ (fun hHeld => ?_)
    clear hK K
    refine norm_ (a' := ?_) ?_ ?_
    rotate_left
    · show Act.put _ (some 16) _ = _
      simp only [Act.put, sA, sB, sC, i64_w, i32_w]
      rfl
    refine p1_ HT_.out 12 17 spec_l17Ok.d13 ?_
    refine p1_ HT_.out 13 18 spec_l17Ok.d14 ?_
    refine p1_ HT_.out 14 19 spec_l17Ok.d15 ?_
    refine p0_ HT_.out 15 20 spec_l17Ok.d16 ?_
    refine p0_ HT_.out 16 21 spec_l17Ok.d17 ?_
    refine p0_ HT_.out 17 22 spec_l17Ok.d18 ?_
    refine p0_ HT_.out 18 23 spec_l17Ok.d32 ?_
    refine p0_ HT_.out 19 24 spec_l17Ok.d33 ?_
    refine p0_ HT_.out 20 25 spec_l17Ok.d34 ?_
    refine p0_ HT_.out 21 26 spec_l17Ok.d35 ?_
    refine p0_ HT_.out 22 27 spec_l17Ok.d36 ?_
    refine p0_ HT_.out 23 28 spec_l17Ok.d37 ?_
    refine p0_ HT_.out 24 29 spec_l17Ok.d38 ?_
    refine p0_ HT_.out 25 30 spec_l17Ok.d39 ?_
    refine p0_ HT_.out 26 31 spec_l17Ok.d27 ?_
    refine p0_ HT_.out 27 32 spec_l17Ok.d28 ?_
    refine p0_ HT_.out 28 33 spec_l17Ok.d29 ?_
    refine p0_ HT_.out 29 34 spec_l17Ok.d30 ?_
    refine p1_ HT_.out 30 35 spec_l17Ok.d31 ?_
    refine done_ (done_of HT_.out (by kernel_rfl)) ?_
    try go_wp2
    go_meet
    case rel => exact ⟨_, (true), (by first | rfl | (simp; done) | (simp [*]; done) | (simp [i64_w, i32_w]; done)), H', ⟨by first | omega | exact Nat.le_refl _⟩, ⟨by repeat (first | (with_reducible first | exact HB.out | apply below_alloc | apply pw_below_drewN | apply below_drew1) | exact HB.out)⟩⟩
  subst c7
  have H1 : (spec_l17Ok.j0 k ((((rd_T28 l0 0).f2).length : Int) != (wrap64 (((rd_T28 l0 0).f0) * ((rd_T28 l0 0).f1)))) l0) = some r := by rw [if_pos rfl] at H; exact H
  clear H
  have H := H1
  clear H1
  have H' := mkA H
  clear H
  try go_wp2
  have n0_ := mkA (below_drew1 HB.out)
  clear HB
  have HB := n0_
  clear n0_
  have p148 : 0 ≤ (0 : Int) := (by omega)
  have q148 : 0 < (l0.length : Int) := dt_
  obtain ⟨ad148, A148_2, c148_2, e148, hx148_0, hx148_1, hx148_2, hl148_2, hi148_2⟩ := at0_T28 HR0.out q148
  have hw148_2 := hx148_2
  have hw148_1 := hx148_1
  have hw148_0 := hx148_0
  cases e148
  have qi148 : (0 < l0.length) = True := eq_true (by omega)
  replace hx148_0 := bc_ HB.out hx148_0
  replace hx148_1 := bc_ HB.out hx148_1
  replace hx148_2 := bc_ HB.out hx148_2
  have HR148_2 := mkA hi148_2
  have HC148_2 := mkA hl148_2
  clear hi148_2 hl148_2
  replace p148 := eq_true p148
  replace q148 := eq_true q148
  have p150 : 0 ≤ (0 : Int) := (by omega)
  have q150 : 0 < (l0.length : Int) := dt_
  obtain ⟨ad150, A150_2, c150_2, e150, hx150_0, hx150_1, hx150_2, hl150_2, hi150_2⟩ := at0_T28 HR0.out q150
  have hw150_2 := hx150_2
  have hw150_1 := hx150_1
  have hw150_0 := hx150_0
  obtain rfl : ad148 = ad150 := (by injection e150)
  have qi150 : (0 < l0.length) = True := eq_true (by omega)
  replace hx150_0 := bc_ HB.out hx150_0
  replace hx150_1 := bc_ HB.out hx150_1
  replace hx150_2 := bc_ HB.out hx150_2
  have HR150_2 := mkA hi150_2
  have HC150_2 := mkA hl150_2
  clear hi150_2 hl150_2
  replace p150 := eq_true p150
  replace q150 := eq_true q150
  have ea_ := Option.some.inj (hx148_2.symm.trans hx150_2)
  injection ea_ with ea_ en_ ec_
  subst ea_
  subst ec_
  clear en_
  have p152 : 0 ≤ (0 : Int) := (by omega)
  have q152 : 0 < (l0.length : Int) := dt_
  obtain ⟨ad152, A152_2, c152_2, e152, hx152_0, hx152_1, hx152_2, hl152_2, hi152_2⟩ := at0_T28 HR0.out q152
  have hw152_2 := hx152_2
  have hw152_1 := hx152_1
  have hw152_0 := hx152_0
  obtain rfl : ad148 = ad152 := (by injection e152)
  have qi152 : (0 < l0.length) = True := eq_true (by omega)
  replace hx152_0 := bc_ HB.out hx152_0
  replace hx152_1 := bc_ HB.out hx152_1
  replace hx152_2 := bc_ HB.out hx152_2
  have HR152_2 := mkA hi152_2
  have HC152_2 := mkA hl152_2
  clear hi152_2 hl152_2
  replace p152 := eq_true p152
  replace q152 := eq_true q152
  have ea_ := Option.some.inj (hx148_2.symm.trans hx152_2)
  injection ea_ with ea_ en_ ec_
  subst ea_
  subst ec_
  clear en_
  have p153 : 0 ≤ (0 : Int) := (by omega)
  have q153 : 0 < (l0.length : Int) := dt_
  obtain ⟨ad153, A153_2, c153_2, e153, hx153_0, hx153_1, hx153_2, hl153_2, hi153_2⟩ := at0_T28 HR0.out q153
  have hw153_2 := hx153_2
  have hw153_1 := hx153_1
  have hw153_0 := hx153_0
  obtain rfl : ad148 = ad153 := (by injection e153)
  have qi153 : (0 < l0.length) = True := eq_true (by omega)
  replace hx153_0 := bc_ HB.out hx153_0
  replace hx153_1 := bc_ HB.out hx153_1
  replace hx153_2 := bc_ HB.out hx153_2
  have HR153_2 := mkA hi153_2
  have HC153_2 := mkA hl153_2
  clear hi153_2 hl153_2
  replace p153 := eq_true p153
  replace q153 := eq_true q153
  have ea_ := Option.some.inj (hx148_2.symm.trans hx153_2)
  injection ea_ with ea_ en_ ec_
  subst ea_
  subst ec_
  clear en_
  have p154 : 0 ≤ (0 : Int) := (by omega)
  have q154 : 0 < (l0.length : Int) := dt_
  obtain ⟨ad154, A154_2, c154_2, e154, hx154_0, hx154_1, hx154_2, hl154_2, hi154_2⟩ := at0_T28 HR0.out q154
  have hw154_2 := hx154_2
  have hw154_1 := hx154_1
  have hw154_0 := hx154_0
  obtain rfl : ad148 = ad154 := (by injection e154)
  have qi154 : (0 < l0.length) = True := eq_true (by omega)
  replace hx154_0 := bc_ HB.out hx154_0
  replace hx154_1 := bc_ HB.out hx154_1
  replace hx154_2 := bc_ HB.out hx154_2
  have HR154_2 := mkA hi154_2
  have HC154_2 := mkA hl154_2
  clear hi154_2 hl154_2
  replace p154 := eq_true p154
  replace q154 := eq_true q154
  have ea_ := Option.some.inj (hx148_2.symm.trans hx154_2)
  injection ea_ with ea_ en_ ec_
  subst ea_
  subst ec_
  clear en_
  refine start_ (n := 31) (S := fun w' => w'.cell? ad148 = some (.int .i64 ((rd_T28 l0 0).f0)) ∧ w'.cell? ⟨ad148.block, ad148.off + 1, none⟩ = some (.int .i64 ((rd_T28 l0 0).f1)) ∧ w'.cell? ⟨ad148.block, ad148.off + 2, none⟩ = some (.slice A148_2 ((rd_T28 l0 0).f2).length c148_2) ∧ w'.cell? ad148 = some (.int .i64 ((rd_T28 l0 0).f0)) ∧ w'.cell? ⟨ad148.block, ad148.off + 1, none⟩ = some (.int .i64 ((rd_T28 l0 0).f1)) ∧ w'.cell? ⟨ad148.block, ad148.off + 2, none⟩ = some (.slice A148_2 ((rd_T28 l0 0).f2).length c148_2) ∧ w'.cell? ad148 = some (.int .i64 ((rd_T28 l0 0).f0)) ∧ w'.cell? ⟨ad148.block, ad148.off + 1, none⟩ = some (.int .i64 ((rd_T28 l0 0).f1)) ∧ w'.cell? ⟨ad148.block, ad148.off + 2, none⟩ = some (.slice A148_2 ((rd_T28 l0 0).f2).length c148_2) ∧ w'.cell? ad148 = some (.int .i64 ((rd_T28 l0 0).f0)) ∧ w'.cell? ⟨ad148.block, ad148.off + 1, none⟩ = some (.int .i64 ((rd_T28 l0 0).f1)) ∧ w'.cell? ⟨ad148.block, ad148.off + 2, none⟩ = some (.slice A148_2 ((rd_T28 l0 0).f2).length c148_2) ∧ w'.cell? ad148 = some (.int .i64 ((rd_T28 l0 0).f0)) ∧ w'.cell? ⟨ad148.block, ad148.off + 1, none⟩ = some (.int .i64 ((rd_T28 l0 0).f1)) ∧ w'.cell? ⟨ad148.block, ad148.off + 2, none⟩ = some (.slice A148_2 ((rd_T28 l0 0).f2).length c148_2)) (ds := []) spec_l17Ok.d0 (by kernel_rfl) rfl rfl ⟨(bc_ HB.out hw148_0 :), (bc_ HB.out hw148_1 :), (bc_ HB.out hw148_2 :), (bc_ HB.out hw150_0 :), (bc_ HB.out hw150_1 :), (bc_ HB.out hw150_2 :), (bc_ HB.out hw152_0 :), (bc_ HB.out hw152_1 :), (bc_ HB.out hw152_2 :), (bc_ HB.out hw153_0 :), (bc_ HB.out hw153_1 :), (bc_ HB.out hw153_2 :), (bc_ HB.out hw154_0 :), (bc_ HB.out hw154_1 :), (bc_ HB.out hw154_2 :)⟩ (fun hHeld => ?_); refine with_tabW spec_l17Ok.tab1 spec_l17Ok.bits1 (fun HT_ HW_ => ?_)
  generalize w.drew = w8 at HB HR148_2 HR150_2 HR152_2 HR153_2 HR154_2 hx148_0 hx148_1 hx148_2 hx150_0 hx150_1 hx150_2 hx152_0 hx152_1 hx152_2 hx153_0 hx153_1 hx153_2 hx154_0 hx154_1 hx154_2 hHeld ⊢
  refine p1_ HT_.out 0 5 spec_l17Ok.d1 ?_
  refine p1_ HT_.out 1 6 spec_l17Ok.d2 ?_
  refine p1_ HT_.out 2 7 spec_l17Ok.d3 ?_
  refine take_ (i := 3) (N := some 8) (v := ?_) (a' := ?_) spec_l17Ok.d4 rfl rfl (take_ofW HT_.out HW_.out (by kernel_rfl)) (fun _ _ _ h => h) (Or.inl ⟨by rfl, ?_⟩) hHeld ?_ ?_
  rotate_left
  · rintro w' ⟨s0, s1, s2, s3, s4, s5, s6, s7, s8, s9, s10, s11, s12, s13, s14⟩
    go_simp
    with_reducible rfl
  rotate_left
  · simp only [Act.put, sA, sB, sC, i64_w, i32_w]
    rfl
  refine one_ (i := 4) (N := some 9) spec_l17Ok.d5 rfl rfl (one_of HT_.out (by kernel_rfl)) (by decide) (fun K hK => ?_)
  refine goes_ Try.func15 (by kernel_rfl) rfl #[.int .i64 ((rd_T28 l0 0).f0), .int .i64 1, .int .i64 12] (by rfl) rfl rfl (by (try simp only [List.map_toArray, List.map_cons, List.map_nil]); first | done | rfl | (simp only [List.length_drop, List.length_take]; rfl)) ?_
  with_reducible refine (spec_l00In.calls ((rd_T28 l0 0).f0) 1 12 true _ A4.out).mono ?_
  rintro e w' ⟨rfl, ⟨nd, rfl⟩⟩
  refine ⟨_, rfl, ?_⟩
  refine hK.out _ _ ⟨(bc_ HB.out hw148_0 :), (bc_ HB.out hw148_1 :), (bc_ HB.out hw148_2 :), (bc_ HB.out hw150_0 :), (bc_ HB.out hw150_1 :), (bc_ HB.out hw150_2 :), (bc_ HB.out hw152_0 :), (bc_ HB.out hw152_1 :), (bc_ HB.out hw152_2 :), (bc_ HB.out hw153_0 :), (bc_ HB.out hw153_1 :), (bc_ HB.out hw153_2 :), (bc_ HB.out hw154_0 :), (bc_ HB.out hw154_1 :), (bc_ HB.out hw154_2 :)⟩ (fun hHeld => ?_)
  clear hK K
  refine norm_ (a' := ?_) ?_ ?_
  rotate_left
  · show Act.put _ (some 9) _ = _
    simp only [Act.put, sA, sB, sC, i64_w, i32_w]
    rfl
  refine p1_ HT_.out 5 10 spec_l17Ok.d6 ?_
  refine p1_ HT_.out 6 11 spec_l17Ok.d7 ?_
  refine p1_ HT_.out 7 12 spec_l17Ok.d8 ?_
  refine p1_ HT_.out 8 13 spec_l17Ok.d9 ?_
  refine p1_ HT_.out 9 14 spec_l17Ok.d10 ?_
  refine take_ (i := 10) (N := some 15) (v := ?_) (a' := ?_) spec_l17Ok.d11 rfl rfl (take_ofW HT_.out HW_.out (by kernel_rfl)) (fun _ _ _ h => h) (Or.inl ⟨by rfl, ?_⟩) hHeld ?_ ?_
  rotate_left
  · rintro w' ⟨s0, s1, s2, s3, s4, s5, s6, s7, s8, s9, s10, s11, s12, s13, s14⟩
    go_simp
    with_reducible rfl
  rotate_left
  · simp only [Act.put, sA, sB, sC, i64_w, i32_w]
    rfl
  refine one_ (i := 11) (N := some 16) spec_l17Ok.d12 rfl rfl (one_of HT_.out (by kernel_rfl)) (by decide) (fun K hK => ?_)
  refine goes_ Try.func15 (by kernel_rfl) rfl #[.int .i64 ((rd_T28 l0 0).f1), .int .i64 1, .int .i64 12] (by rfl) rfl rfl (by (try simp only [List.map_toArray, List.map_cons, List.map_nil]); first | done | rfl | (simp only [List.length_drop, List.length_take]; rfl)) ?_
  with_reducible refine (spec_l00In.calls ((rd_T28 l0 0).f1) 1 12 true _ A6.out).mono ?_
  rintro e w' ⟨rfl, ⟨nd, rfl⟩⟩
  refine ⟨_, rfl, ?_⟩
  refine hK.out _ _ ⟨(bc_ HB.out hw148_0 :), (bc_ HB.out hw148_1 :), (bc_ HB.out hw148_2 :), (bc_ HB.out hw150_0 :), (bc_ HB.out hw150_1 :), (bc_ HB.out hw150_2 :), (bc_ HB.out hw152_0 :), (bc_ HB.out hw152_1 :), (bc_ HB.out hw152_2 :), (bc_ HB.out hw153_0 :), (bc_ HB.out hw153_1 :), (bc_ HB.out hw153_2 :), (bc_ HB.out hw154_0 :), (bc_ HB.out hw154_1 :), (bc_ HB.out hw154_2 :)⟩ (fun hHeld => ?_)
  clear hK K
  refine norm_ (a' := ?_) ?_ ?_
  rotate_left
  · show Act.put _ (some 16) _ = _
    simp only [Act.put, sA, sB, sC, i64_w, i32_w]
    rfl
  refine p1_ HT_.out 12 17 spec_l17Ok.d13 ?_
  refine p1_ HT_.out 13 18 spec_l17Ok.d14 ?_
  refine p1_ HT_.out 14 19 spec_l17Ok.d15 ?_
  refine p1_ HT_.out 15 20 spec_l17Ok.d16 ?_
  refine p1_ HT_.out 16 21 spec_l17Ok.d17 ?_
  refine p1_ HT_.out 17 22 spec_l17Ok.d18 ?_
  refine p1_ HT_.out 20 25 spec_l17Ok.d19 ?_
  refine p1_ HT_.out 21 26 spec_l17Ok.d20 ?_
  refine p1_ HT_.out 22 27 spec_l17Ok.d21 ?_
  refine p1_ HT_.out 24 29 spec_l17Ok.d22 ?_
  refine p1_ HT_.out 25 30 spec_l17Ok.d23 ?_
  refine p1_ HT_.out 26 31 spec_l17Ok.d24 ?_
  refine take_ (i := 18) (N := some 23) (v := ?_) (a' := ?_) spec_l17Ok.d25 rfl rfl (take_ofW HT_.out HW_.out (by kernel_rfl)) (fun _ _ _ h => h) (Or.inl ⟨by rfl, ?_⟩) hHeld ?_ ?_
  rotate_left
  · rintro w' ⟨s0, s1, s2, s3, s4, s5, s6, s7, s8, s9, s10, s11, s12, s13, s14⟩
    go_simp
    with_reducible rfl
  rotate_left
  · simp only [Act.put, sA, sB, sC, i64_w, i32_w]
    rfl
  refine p1_ HT_.out 19 24 spec_l17Ok.d26 ?_
  refine take_ (i := 23) (N := some 28) (v := ?_) (a' := ?_) spec_l17Ok.d27 rfl rfl (take_ofW HT_.out HW_.out (by kernel_rfl)) (fun _ _ _ h => h) (Or.inl ⟨by rfl, ?_⟩) hHeld ?_ ?_
  rotate_left
  · rintro w' ⟨s0, s1, s2, s3, s4, s5, s6, s7, s8, s9, s10, s11, s12, s13, s14⟩
    go_simp
    with_reducible rfl
  rotate_left
  · simp only [Act.put, sA, sB, sC, i64_w, i32_w]
    rfl
  refine take_ (i := 27) (N := some 32) (v := ?_) (a' := ?_) spec_l17Ok.d28 rfl rfl (take_ofW HT_.out HW_.out (by kernel_rfl)) (fun _ _ _ h => h) (Or.inl ⟨by rfl, ?_⟩) hHeld ?_ ?_
  rotate_left
  · rintro w' ⟨s0, s1, s2, s3, s4, s5, s6, s7, s8, s9, s10, s11, s12, s13, s14⟩
    go_simp
    with_reducible rfl
  rotate_left
  · simp only [Act.put, sA, sB, sC, i64_w, i32_w]
    rfl
  refine p1_ HT_.out 28 33 spec_l17Ok.d29 ?_
  refine p1_ HT_.out 29 34 spec_l17Ok.d30 ?_
  refine p1_ HT_.out 30 35 spec_l17Ok.d31 ?_
  refine done_ (done_of HT_.out (by kernel_rfl)) ?_
  try go_wp2
  go_meet
  case rel => exact ⟨_, (((((rd_T28 l0 0).f2).length : Int) != (wrap64 (((rd_T28 l0 0).f0) * ((rd_T28 l0 0).f1))))), (by first | rfl | (simp; done) | (simp [*]; done) | (simp [i64_w, i32_w]; done)), H', ⟨by first | omega | exact Nat.le_refl _⟩, ⟨by repeat (first | (with_reducible first | exact HB.out | apply below_alloc | apply pw_below_drewN | apply below_drew1) | exact HB.out)⟩⟩
 case rest =>
  clear HC2
  try clear c1
  try clear p1
  try clear q1
  try clear hx1
  try clear qi1
  try clear p2
  try clear c3
  try clear c5
  try clear p6
  try clear c7
  try clear hx148_0
  try clear hx148_1
  try clear hx148_2
  try clear hx150_0
  try clear hx150_1
  try clear hx150_2
  try clear p148
  try clear p150
  try clear q148
  try clear q150
  obtain ⟨kq, x35_1, rfl, HA, HJ1, HB⟩ := hcut
  cases kq with
  | zero => exact absurd HA.out (by simp [spec_l17Ok.j0])
  | succ kj1 =>
   have H := HA.out
   clear HA
   simp only [spec_l17Ok.j0] at H
   by_cases c11 : x35_1 = true
   · subst c11
     have H1 : (some false) = some r := by rw [if_pos rfl] at H; exact H
     clear H
     have H := H1
     clear H1
     obtain rfl := Option.some.inj H
     go_wp2
     go_ret
     exact ⟨by first | rfl | (simp [errW_none, errW_some] <;> rfl) | (simp [*, errW_none, errW_some] <;> rfl), by repeat (first | (with_reducible first | exact HB.out | apply below_alloc | apply pw_below_drewN | apply below_drew1) | exact HB.out)⟩
   · replace c11 := Bool.eq_false_iff.mpr c11
     subst c11
     have H1 : ((spec_l17Most.f kj1 l0).bind fun t155 => (spec_l17Ok.l0 kj1 t155 0 l0)) = some r := by rw [if_neg (show ¬ (false = true) by decide)] at H; exact H
     clear H
     have H := H1
     clear H1
     replace H := Option.bind_eq_some_iff.mp H
     obtain ⟨t155, A120, H⟩ := H
     replace H : (spec_l17Ok.l0 kj1 t155 0 l0) = some r := H
     have A12 := mkA A120
     clear A120
     have H' := mkA H
     clear H
     go_wp2_with (first | ((with_reducible refine gate_callee (f := 16) rfl ?_); refine goesL_ (some 37) rfl rfl Try.func16 (by kernel_rfl) rfl #[.pointer A0] rfl (by (try simp only [List.map_toArray, List.map_cons, List.map_nil]); first | done | rfl | (simp only [List.length_drop, List.length_take]; rfl)) ?_; (with_reducible refine (spec_l17Most.calls kj1 _ l0 t155 _ ?side1 A12.out).mono ?_); (case side1 => exact cb_ HR0.out HB.out); rintro e w' ⟨rfl, ⟨nd, rfl⟩⟩; refine ⟨_, rfl, ?_⟩))
     go_loopg [4] kj1 (fun kq v4 w' => ∃ (x4_2 : Int), v4 = .int .i64 x4_2 ∧ Aside0 (spec_l17Ok.l0 kq t155 x4_2 l0 = some r) ∧ Aside0 (kq ≤ kj1) ∧ Aside0 (Below w.heap.size w w'))
     case atStart => exact ⟨(0), (by first | rfl | (simp; done) | (simp [*]; done) | (simp [i64_w, i32_w]; done)), H', ⟨Nat.le_refl _⟩, ⟨by repeat (first | (with_reducible first | exact HB.out | apply below_alloc | apply pw_below_drewN | apply below_drew1) | exact HB.out)⟩⟩
     case round =>
      clear H'
      try clear c1
      try clear p1
      try clear q1
      try clear hx1
      try clear qi1
      try clear p2
      try clear c3
      try clear c5
      try clear p6
      try clear c7
      try clear c11
      try clear hx148_0
      try clear hx148_1
      try clear hx148_2
      try clear hx150_0
      try clear hx150_1
      try clear hx150_2
      try clear p1
      try clear p148
      try clear p150
      try clear p2
      try clear p6
      try clear q1
      try clear q148
      try clear q150
      obtain ⟨x4_2, rfl, HA, HK2, HB⟩ := hrel
      cases gk with
      | zero => exact absurd HA.out (by simp [spec_l17Ok.l0])
      | succ k2 =>
       have H := HA.out
       clear HA
       simp only [spec_l17Ok.l0] at H
       by_cases c13 : x4_2 < t155
       rotate_left
       · rw [if_neg c13] at H
         have c13b0 : decide (x4_2 < t155) = false := decide_eq_false c13
         clear c13
         obtain rfl := Option.some.inj H
         go_wp2
         go_ret
         exact ⟨by first | rfl | (simp [errW_none, errW_some] <;> rfl) | (simp [*, errW_none, errW_some] <;> rfl), by repeat (first | (with_reducible first | exact HB.out | apply below_alloc | apply pw_below_drewN | apply below_drew1) | exact HB.out)⟩

       rw [if_pos c13] at H
       have c13b0 : decide (x4_2 < t155) = true := decide_eq_true c13
       clear c13
       replace H := Option.bind_eq_some_iff.mp H
       obtain ⟨t156, A140, H⟩ := H
       replace H : (if t156 = true then (spec_l17Ok.l0 k2 t155 (wrap64 (x4_2 + 1)) l0) else (some false)) = some r := H
       have A14 := mkA A140
       clear A140
       by_cases c15 : t156 = true
       rotate_left
       · replace c15 := Bool.eq_false_iff.mpr c15
         subst c15
         have H1 : (some false) = some r := by rw [if_neg (show ¬ (false = true) by decide)] at H; exact H
         clear H
         have H := H1
         clear H1
         obtain rfl := Option.some.inj H
         go_wp2_with (first | ((with_reducible refine gate_callee (f := 23) rfl ?_); refine goesL_ (some 45) rfl rfl Try.func23 (by kernel_rfl) rfl #[.pointer A0, .int .i64 x4_2] rfl (by (try simp only [List.map_toArray, List.map_cons, List.map_nil]); first | done | rfl | (simp only [List.length_drop, List.length_take]; rfl)) ?_; (with_reducible refine (spec_l17Joined.calls k2 _ l0 x4_2 false _ ?side1 A14.out).mono ?_); (case side1 => exact cb_ HR0.out HB.out); rintro e w17 ⟨rfl, hb⟩; refine ⟨_, rfl, ?_⟩; have n0_ := mkA (below_step (bs0_ HB.out) hb); clear HB; have HB := n0_; clear n0_; (try clear hb); (try clear hb2); (try clear hk); (try clear hi)))
         go_ret
         exact ⟨by first | rfl | (simp [errW_none, errW_some] <;> rfl) | (simp [*, errW_none, errW_some] <;> rfl), by repeat (first | (with_reducible first | exact HB.out | apply below_alloc | apply pw_below_drewN | apply below_drew1) | exact HB.out)⟩
       subst c15
       have H1 : (spec_l17Ok.l0 k2 t155 (wrap64 (x4_2 + 1)) l0) = some r := by rw [if_pos rfl] at H; exact H
       clear H
       have H := H1
       clear H1
       have H' := mkA H
       clear H
       go_wp2_with (first | ((with_reducible refine gate_callee (f := 23) rfl ?_); refine goesL_ (some 45) rfl rfl Try.func23 (by kernel_rfl) rfl #[.pointer A0, .int .i64 x4_2] rfl (by (try simp only [List.map_toArray, List.map_cons, List.map_nil]); first | done | rfl | (simp only [List.length_drop, List.length_take]; rfl)) ?_; (with_reducible refine (spec_l17Joined.calls k2 _ l0 x4_2 true _ ?side1 A14.out).mono ?_); (case side1 => exact cb_ HR0.out HB.out); rintro e w16 ⟨rfl, hb⟩; refine ⟨_, rfl, ?_⟩; have n0_ := mkA (below_step (bs0_ HB.out) hb); clear HB; have HB := n0_; clear n0_; (try clear hb); (try clear hb2); (try clear hk); (try clear hi)))
       go_roundg k2
       case measure => have := HJ1.out; have := HK2.out; omega
       case rel => exact ⟨(wrap64 (x4_2 + 1)), (by first | rfl | (simp; done) | (simp [*]; done) | (simp [i64_w, i32_w]; done)), H', ⟨by have := HJ1.out; have := HK2.out; omega⟩, ⟨by repeat (first | (with_reducible first | exact HB.out | apply below_alloc | apply pw_below_drewN | apply below_drew1) | exact HB.out)⟩⟩
end Go.Proofs.Ytopopjkoanpjiaa.GFnExactTileNeighbours

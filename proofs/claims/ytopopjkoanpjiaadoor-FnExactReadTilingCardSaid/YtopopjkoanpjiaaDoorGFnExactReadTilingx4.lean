-- Written by the session's own program (gen.py) out of the translation's print. Lean checks it.
import Derived.Test.YtopopjkoanpjiaaDoorGFnExactReadTilingx0
import Derived.Test.YtopopjkoanpjiaaDoorGFnExactReadTilingx1
import Derived.Test.YtopopjkoanpjiaaDoorGFnExactReadTilingx3
namespace Go.Proofs.YtopopjkoanpjiaaDoor.GFnExactReadTiling
open Go.RowKit Go.Proofs.YtopopjkoanpjiaaDoorW.PrintWords Go.Proofs.YtopopjkoanpjiaaDoorW.PrintLast Go.Proofs.YtopopjkoanpjiaaDoorW.PrintMore
attribute [local go_sem] max2_int min2_int max_two min_two max_three min_three max_four min_four   -- for this text's walks alone
set_option linter.unusedVariables false
set_option linter.unusedSimpArgs false

/-! ### spec_l17Ok: function 15 -/
mutual
def spec_l17Ok.j0 : Nat → Bool → List (S27) → Option (Bool)
  | 0, _, _ => none
  | k + 1, x35, x960 => if x35 = true then (some false) else ((spec_l17Most.f k x960).bind fun t158 => (spec_l17Ok.l0 k t158 0 x960))
def spec_l17Ok.l0 : Nat → Int → Int → List (S27) → Option (Bool)
  | 0, _, _, _ => none
  | k + 1, x3, x4, x960 => if x4 < x3 then ((spec_l17Joined.f k x960 x4).bind fun t159 => (if t159 = true then (spec_l17Ok.l0 k x3 (wrap64 (x4 + 1)) x960) else (some false))) else (some (decide (x3 > 0)))
end
def spec_l17Ok.f (k : Nat) (l0 : List (S27)) : Option (Bool) := if 0 < (l0.length : Int) then ((spec_l00In.f ((rd_T27 l0 0).f0) 1 12).bind fun t152 => (if t152 = true then ((spec_l00In.f ((rd_T27 l0 0).f1) 1 12).bind fun t154 => (if t154 = true then (spec_l17Ok.j0 k ((((rd_T27 l0 0).f2).length : Int) != (wrap64 (((rd_T27 l0 0).f0) * ((rd_T27 l0 0).f1)))) l0) else (spec_l17Ok.j0 k true l0))) else (spec_l17Ok.j0 k true l0))) else (none)
theorem spec_l17Ok.mono_l : ∀ k, (∀ y0 y1, LeO (spec_l17Ok.j0 k y0 y1) (spec_l17Ok.j0 (k + 1) y0 y1)) ∧ (∀ y0 y1 y2, LeO (spec_l17Ok.l0 k y0 y1 y2) (spec_l17Ok.l0 (k + 1) y0 y1 y2))
  | 0 => ⟨fun _ _ r h => by simp [spec_l17Ok.j0] at h, fun _ _ _ r h => by simp [spec_l17Ok.l0] at h⟩
  | k + 1 => by
    obtain ⟨ih0, ih1⟩ := spec_l17Ok.mono_l k
    refine ⟨?_, ?_⟩
    · intro y0 y1
      unfold spec_l17Ok.j0
      repeat' first
      | (with_reducible exact ih0 _ _)
      | (with_reducible exact ih1 _ _ _)
      | (with_reducible exact spec_l17Joined.mono _ _ _)
      | (with_reducible exact spec_l17Most.mono _ _)
      | (with_reducible exact LeO.refl _)
      | (with_reducible exact LeO.none _)
      | (with_reducible refine LeO.ite ?_ ?_)
      | (with_reducible refine LeO.bind ?_ (fun _ => ?_))
      | exact ih0 _ _
      | exact ih1 _ _ _
      | exact spec_l17Joined.mono _ _ _
      | exact spec_l17Most.mono _ _
      | exact LeO.none _
      | refine LeO.ite ?_ ?_
      | refine LeO.bind ?_ (fun _ => ?_)
    · intro y0 y1 y2
      unfold spec_l17Ok.l0
      repeat' first
      | (with_reducible exact ih0 _ _)
      | (with_reducible exact ih1 _ _ _)
      | (with_reducible exact spec_l17Joined.mono _ _ _)
      | (with_reducible exact spec_l17Most.mono _ _)
      | (with_reducible exact LeO.refl _)
      | (with_reducible exact LeO.none _)
      | (with_reducible refine LeO.ite ?_ ?_)
      | (with_reducible refine LeO.bind ?_ (fun _ => ?_))
      | exact ih0 _ _
      | exact ih1 _ _ _
      | exact spec_l17Joined.mono _ _ _
      | exact spec_l17Most.mono _ _
      | exact LeO.none _
      | refine LeO.ite ?_ ?_
      | refine LeO.bind ?_ (fun _ => ?_)
theorem spec_l17Ok.mono : ∀ a0 k, LeO (spec_l17Ok.f k a0) (spec_l17Ok.f (k + 1) a0) := by
  intro a0 k
  obtain ⟨ih0, ih1⟩ := spec_l17Ok.mono_l k
  unfold spec_l17Ok.f
  repeat' first
      | (with_reducible exact ih0 _ _)
      | (with_reducible exact ih1 _ _ _)
      | (with_reducible exact spec_l17Joined.mono _ _ _)
      | (with_reducible exact spec_l17Most.mono _ _)
      | (with_reducible exact LeO.refl _)
      | (with_reducible exact LeO.none _)
      | (with_reducible refine LeO.ite ?_ ?_)
      | (with_reducible refine LeO.bind ?_ (fun _ => ?_))
      | exact ih0 _ _
      | exact ih1 _ _ _
      | exact spec_l17Joined.mono _ _ _
      | exact spec_l17Most.mono _ _
      | exact LeO.none _
      | refine LeO.ite ?_ ?_
      | refine LeO.bind ?_ (fun _ => ?_)
def spec_l17Ok.T1 : Bool × List (List Nat × List Nat) := (true, [([], []), ([0], [0]), ([1], [1]), ([2], [2]), ([3], [3]), ([4], [4]), ([5, 4], [5]), ([6], [6]), ([7, 6], [6, 7]), ([8, 6], [6, 8]), ([9, 6], [6, 9]), ([10, 6, 6], [6, 10]), ([11, 6], [6, 11]), ([6, 12], [6, 12]), ([13, 11], [13]), ([14], [14]), ([15, 14], [14, 15]), ([16, 14], [14, 16]), ([17, 14], [14, 17]), ([18, 14], [14, 18]), ([14], [14]), ([20, 14], [14, 20]), ([21, 14], [14, 21]), ([22, 14], [14, 22]), ([14], [14]), ([24, 14], [14, 24]), ([25, 14], [14, 25]), ([26, 14], [14, 26]), ([23, 27, 14], [14, 23, 27]), ([19, 28, 14], [14, 19, 28]), ([14, 29], [14, 29])])
def spec_l17Ok.B1 : List Nat := [0, 1, 3, 7, 15, 31, 63, 127, 255, 511, 1023, 2047, 4095, 8191, 16383, 32767, 65535, 131071, 262143, 524287, 32767, 1081343, 3178495, 7372799, 32767, 16809983, 50364415, 117473279, 267419647, 536870911, 1073741823]
theorem spec_l17Ok.tab1 : rtab .any (opsOf Tryd.f15 1) = spec_l17Ok.T1 := by kernel_rfl
theorem spec_l17Ok.bits1 : waitsOk spec_l17Ok.T1.2 spec_l17Ok.B1 = true := by kernel_rfl
open List renaming setIfInBounds_toArray → sA, set_cons_zero → sB, set_cons_succ → sC
open Go.Proofs.YtopopjkoanpjiaaDoorW.PrintWords.Aside0 renaming mk → mkA
open Go.Proofs.YtopopjkoanpjiaaDoorX (dt_ bc_ p0_ p1_ bl_ cb_ bs0_ bs1_ bs2_ bs3_ bs4_ bs5_ bs6_ bs7_ bs8_ bs9_ bs10_ bs11_ bs12_)
abbrev spec_l17Ok.d0 : Array Bool := #[false, false, false, false, false, false, false, false, false, false, false, false, false, false, false, false, false, false, false, false, false, false, false, false, false, false, false, false, false, false, false]
abbrev spec_l17Ok.d1 : Array Bool := #[true, false, false, false, false, false, false, false, false, false, false, false, false, false, false, false, false, false, false, false, false, false, false, false, false, false, false, false, false, false, false]
abbrev spec_l17Ok.d2 : Array Bool := #[true, true, false, false, false, false, false, false, false, false, false, false, false, false, false, false, false, false, false, false, false, false, false, false, false, false, false, false, false, false, false]
abbrev spec_l17Ok.d3 : Array Bool := #[true, true, true, false, false, false, false, false, false, false, false, false, false, false, false, false, false, false, false, false, false, false, false, false, false, false, false, false, false, false, false]
abbrev spec_l17Ok.d4 : Array Bool := #[true, true, true, true, false, false, false, false, false, false, false, false, false, false, false, false, false, false, false, false, false, false, false, false, false, false, false, false, false, false, false]
abbrev spec_l17Ok.d5 : Array Bool := #[true, true, true, true, true, false, false, false, false, false, false, false, false, false, false, false, false, false, false, false, false, false, false, false, false, false, false, false, false, false, false]
abbrev spec_l17Ok.d6 : Array Bool := #[true, true, true, true, true, true, false, false, false, false, false, false, false, false, false, false, false, false, false, false, false, false, false, false, false, false, false, false, false, false, false]
abbrev spec_l17Ok.d7 : Array Bool := #[true, true, true, true, true, true, true, false, false, false, false, false, false, false, false, false, false, false, false, false, false, false, false, false, false, false, false, false, false, false, false]
abbrev spec_l17Ok.d8 : Array Bool := #[true, true, true, true, true, true, true, true, false, false, false, false, false, false, false, false, false, false, false, false, false, false, false, false, false, false, false, false, false, false, false]
abbrev spec_l17Ok.d9 : Array Bool := #[true, true, true, true, true, true, true, true, true, false, false, false, false, false, false, false, false, false, false, false, false, false, false, false, false, false, false, false, false, false, false]
abbrev spec_l17Ok.d10 : Array Bool := #[true, true, true, true, true, true, true, true, true, true, false, false, false, false, false, false, false, false, false, false, false, false, false, false, false, false, false, false, false, false, false]
abbrev spec_l17Ok.d11 : Array Bool := #[true, true, true, true, true, true, true, true, true, true, true, false, false, false, false, false, false, false, false, false, false, false, false, false, false, false, false, false, false, false, false]
abbrev spec_l17Ok.d12 : Array Bool := #[true, true, true, true, true, true, true, true, true, true, true, true, false, false, false, false, false, false, false, false, false, false, false, false, false, false, false, false, false, false, false]
abbrev spec_l17Ok.d13 : Array Bool := #[true, true, true, true, true, true, true, true, true, true, true, true, true, false, false, false, false, false, false, false, false, false, false, false, false, false, false, false, false, false, false]
abbrev spec_l17Ok.d14 : Array Bool := #[true, true, true, true, true, true, true, true, true, true, true, true, true, true, false, false, false, false, false, false, false, false, false, false, false, false, false, false, false, false, false]
abbrev spec_l17Ok.d15 : Array Bool := #[true, true, true, true, true, true, true, true, true, true, true, true, true, true, true, false, false, false, false, false, false, false, false, false, false, false, false, false, false, false, false]
abbrev spec_l17Ok.d16 : Array Bool := #[true, true, true, true, true, true, true, true, true, true, true, true, true, true, true, true, false, false, false, false, false, false, false, false, false, false, false, false, false, false, false]
abbrev spec_l17Ok.d17 : Array Bool := #[true, true, true, true, true, true, true, true, true, true, true, true, true, true, true, true, true, false, false, false, false, false, false, false, false, false, false, false, false, false, false]
abbrev spec_l17Ok.d18 : Array Bool := #[true, true, true, true, true, true, true, true, true, true, true, true, true, true, true, true, true, true, false, false, false, false, false, false, false, false, false, false, false, false, false]
abbrev spec_l17Ok.d19 : Array Bool := #[true, true, true, true, true, true, true, true, true, true, true, true, true, true, true, true, true, true, false, false, true, false, false, false, false, false, false, false, false, false, false]
abbrev spec_l17Ok.d20 : Array Bool := #[true, true, true, true, true, true, true, true, true, true, true, true, true, true, true, true, true, true, false, false, true, true, false, false, false, false, false, false, false, false, false]
abbrev spec_l17Ok.d21 : Array Bool := #[true, true, true, true, true, true, true, true, true, true, true, true, true, true, true, true, true, true, false, false, true, true, true, false, false, false, false, false, false, false, false]
abbrev spec_l17Ok.d22 : Array Bool := #[true, true, true, true, true, true, true, true, true, true, true, true, true, true, true, true, true, true, false, false, true, true, true, false, true, false, false, false, false, false, false]
abbrev spec_l17Ok.d23 : Array Bool := #[true, true, true, true, true, true, true, true, true, true, true, true, true, true, true, true, true, true, false, false, true, true, true, false, true, true, false, false, false, false, false]
abbrev spec_l17Ok.d24 : Array Bool := #[true, true, true, true, true, true, true, true, true, true, true, true, true, true, true, true, true, true, false, false, true, true, true, false, true, true, true, false, false, false, false]
abbrev spec_l17Ok.d25 : Array Bool := #[true, true, true, true, true, true, true, true, true, true, true, true, true, true, true, true, true, true, true, false, true, true, true, false, true, true, true, false, false, false, false]
abbrev spec_l17Ok.d26 : Array Bool := #[true, true, true, true, true, true, true, true, true, true, true, true, true, true, true, true, true, true, true, true, true, true, true, false, true, true, true, false, false, false, false]
abbrev spec_l17Ok.d27 : Array Bool := #[true, true, true, true, true, true, true, true, true, true, true, true, true, true, true, true, true, true, true, true, true, true, true, true, true, true, true, false, false, false, false]
abbrev spec_l17Ok.d28 : Array Bool := #[true, true, true, true, true, true, true, true, true, true, true, true, true, true, true, true, true, true, true, true, true, true, true, true, true, true, true, true, false, false, false]
abbrev spec_l17Ok.d29 : Array Bool := #[true, true, true, true, true, true, true, true, true, true, true, true, true, true, true, true, true, true, true, true, true, true, true, true, true, true, true, true, true, false, false]
abbrev spec_l17Ok.d30 : Array Bool := #[true, true, true, true, true, true, true, true, true, true, true, true, true, true, true, true, true, true, true, true, true, true, true, true, true, true, true, true, true, true, false]
abbrev spec_l17Ok.d31 : Array Bool := #[true, true, true, true, true, true, true, true, true, true, true, true, true, true, true, true, true, true, true, true, true, true, true, true, true, true, true, true, true, true, true]
abbrev spec_l17Ok.d32 : Array Bool := #[true, true, true, true, true, true, true, true, true, true, true, true, true, true, true, true, true, true, true, false, false, false, false, false, false, false, false, false, false, false, false]
abbrev spec_l17Ok.d33 : Array Bool := #[true, true, true, true, true, true, true, true, true, true, true, true, true, true, true, true, true, true, true, true, false, false, false, false, false, false, false, false, false, false, false]
abbrev spec_l17Ok.d34 : Array Bool := #[true, true, true, true, true, true, true, true, true, true, true, true, true, true, true, true, true, true, true, true, true, false, false, false, false, false, false, false, false, false, false]
abbrev spec_l17Ok.d35 : Array Bool := #[true, true, true, true, true, true, true, true, true, true, true, true, true, true, true, true, true, true, true, true, true, true, false, false, false, false, false, false, false, false, false]
abbrev spec_l17Ok.d36 : Array Bool := #[true, true, true, true, true, true, true, true, true, true, true, true, true, true, true, true, true, true, true, true, true, true, true, false, false, false, false, false, false, false, false]
abbrev spec_l17Ok.d37 : Array Bool := #[true, true, true, true, true, true, true, true, true, true, true, true, true, true, true, true, true, true, true, true, true, true, true, true, false, false, false, false, false, false, false]
abbrev spec_l17Ok.d38 : Array Bool := #[true, true, true, true, true, true, true, true, true, true, true, true, true, true, true, true, true, true, true, true, true, true, true, true, true, false, false, false, false, false, false]
abbrev spec_l17Ok.d39 : Array Bool := #[true, true, true, true, true, true, true, true, true, true, true, true, true, true, true, true, true, true, true, true, true, true, true, true, true, true, false, false, false, false, false]
set_option maxHeartbeats 8000000 in
set_option maxRecDepth 100000 in
theorem spec_l17Ok.calls (k : Nat) (A0 : Option Addr) (l0 : List (S27)) (r : Bool) (w : World) (hr0 : Kd.C k27 w A0 l0.length l0) (h : spec_l17Ok.f k l0 = some r) :
 Calls Tryd.prog 15 #[.pointer A0] w fun e w' => e = .returned (.bool r) ∧ Below w.heap.size w w' := by
 have HR0 := mkA hr0
 clear hr0
 have HB := mkA (Below.refl w.heap.size w)
 have H : (if 0 < (l0.length : Int) then ((spec_l00In.f ((rd_T27 l0 0).f0) 1 12).bind fun t152 => (if t152 = true then ((spec_l00In.f ((rd_T27 l0 0).f1) 1 12).bind fun t154 => (if t154 = true then (spec_l17Ok.j0 k ((((rd_T27 l0 0).f2).length : Int) != (wrap64 (((rd_T27 l0 0).f0) * ((rd_T27 l0 0).f1)))) l0) else (spec_l17Ok.j0 k true l0))) else (spec_l17Ok.j0 k true l0))) else (none)) = some r := h
 clear h
 have HC2 := mkA H
 clear H
 go_enter Tryd.func15, Tryd.ntmps15
 go_upto_region 1 with (fail)
 go_cut [35] (fun v35 wc => ∃ (kq : Nat) (x35_1 : Bool), v35 = .bool x35_1 ∧ Aside0 (spec_l17Ok.j0 kq x35_1 l0 = some r) ∧ Aside0 (kq ≤ k) ∧ Aside0 (Below w.heap.size w wc))
 case first =>
  have H := HC2.out
  clear HC2
  by_cases c3 : 0 < (l0.length : Int)
  rotate_left
  · rw [if_neg c3] at H
    exact absurd H (by simp)
  rw [if_pos c3] at H
  have c3b0 : decide (0 < (l0.length : Int)) = true := decide_eq_true c3
  have c3b1 : decide (0 < l0.length) = true := decide_eq_true (by omega)
  clear c3
  (first | rw [c3b0] | (simp only [i64_w, i32_w]; rw [c3b0]) | skip)
  replace H := Option.bind_eq_some_iff.mp H
  obtain ⟨t152, A40, H⟩ := H
  replace H : (if t152 = true then ((spec_l00In.f ((rd_T27 l0 0).f1) 1 12).bind fun t154 => (if t154 = true then (spec_l17Ok.j0 k ((((rd_T27 l0 0).f2).length : Int) != (wrap64 (((rd_T27 l0 0).f0) * ((rd_T27 l0 0).f1)))) l0) else (spec_l17Ok.j0 k true l0))) else (spec_l17Ok.j0 k true l0)) = some r := H
  have A4 := mkA A40
  clear A40
  by_cases c5 : t152 = true
  rotate_left
  · replace c5 := Bool.eq_false_iff.mpr c5
    subst c5
    have H1 : (spec_l17Ok.j0 k true l0) = some r := by rw [if_neg (show ¬ (false = true) by decide)] at H; exact H
    clear H
    have H := H1
    clear H1
    have H' := mkA H
    clear H
    try go_wp2
    have n0_ := mkA (below_drew1 HB.out)
    clear HB
    have HB := n0_
    clear n0_
    have p151 : 0 ≤ (0 : Int) := (by omega)
    have q151 : 0 < (l0.length : Int) := dt_
    obtain ⟨ad151, A151_2, c151_2, e151, hx151_0, hx151_1, hx151_2, hl151_2, hi151_2⟩ := at0_T27 HR0.out q151
    have hw151_2 := hx151_2
    have hw151_1 := hx151_1
    have hw151_0 := hx151_0
    cases e151
    have qi151 : (0 < l0.length) = True := eq_true (by omega)
    replace hx151_0 := bc_ HB.out hx151_0
    replace hx151_1 := bc_ HB.out hx151_1
    replace hx151_2 := bc_ HB.out hx151_2
    have HR151_2 := mkA hi151_2
    have HC151_2 := mkA hl151_2
    clear hi151_2 hl151_2
    replace p151 := eq_true p151
    replace q151 := eq_true q151
    refine start_ (n := 31) (S := fun w' => w'.cell? ad151 = some (.int .i64 ((rd_T27 l0 0).f0)) ∧ w'.cell? ⟨ad151.block, ad151.off + 1, none⟩ = some (.int .i64 ((rd_T27 l0 0).f1)) ∧ w'.cell? ⟨ad151.block, ad151.off + 2, none⟩ = some (.slice A151_2 ((rd_T27 l0 0).f2).length c151_2)) (ds := []) spec_l17Ok.d0 (by kernel_rfl) rfl rfl ⟨(bc_ HB.out hw151_0 :), (bc_ HB.out hw151_1 :), (bc_ HB.out hw151_2 :)⟩ (fun hHeld => ?_); refine with_tabW spec_l17Ok.tab1 spec_l17Ok.bits1 (fun HT_ HW_ => ?_)
    generalize w.drew = w10 at HB HR151_2 hx151_0 hx151_1 hx151_2 hHeld ⊢
    refine p1_ HT_.out 0 5 spec_l17Ok.d1 ?_
    refine p1_ HT_.out 1 6 spec_l17Ok.d2 ?_
    refine p1_ HT_.out 2 7 spec_l17Ok.d3 ?_
    refine take_ (i := 3) (N := some 8) (v := ?_) (a' := ?_) spec_l17Ok.d4 rfl rfl (take_ofW HT_.out HW_.out (by kernel_rfl)) (fun _ _ _ h => h) (Or.inl ⟨by rfl, ?_⟩) hHeld ?_ ?_
    rotate_left
    · rintro w' ⟨s0, s1, s2⟩
      go_simp
      with_reducible rfl
    rotate_left
    · simp only [Act.put, sA, sB, sC, i64_w, i32_w]
      rfl
    refine one_ (i := 4) (N := some 9) spec_l17Ok.d5 rfl rfl (one_of HT_.out (by kernel_rfl)) (by decide) (fun K hK => ?_)
    refine goes_ Tryd.func27 (by kernel_rfl) rfl #[.int .i64 ((rd_T27 l0 0).f0), .int .i64 1, .int .i64 12] (by rfl) rfl rfl (by (try simp only [List.map_toArray, List.map_cons, List.map_nil]); first | done | rfl | (simp only [List.length_drop, List.length_take]; rfl)) ?_
    with_reducible refine (spec_l00In.calls ((rd_T27 l0 0).f0) 1 12 false _ A4.out).mono ?_
    rintro e w' ⟨rfl, ⟨nd, rfl⟩⟩
    refine ⟨_, rfl, ?_⟩
    refine hK.out _ _ ⟨(bc_ HB.out hw151_0 :), (bc_ HB.out hw151_1 :), (bc_ HB.out hw151_2 :)⟩ (fun hHeld => ?_)
    clear hK K
    refine norm_ (a' := ?_) ?_ ?_
    rotate_left
    · show Act.put _ (some 9) _ = _
      simp only [Act.put, sA, sB, sC, i64_w, i32_w]
      rfl
    refine p1_ HT_.out 5 10 spec_l17Ok.d6 ?_
    refine p1_ HT_.out 6 11 spec_l17Ok.d7 ?_
    refine p0_ HT_.out 7 12 spec_l17Ok.d8 ?_
    refine p0_ HT_.out 8 13 spec_l17Ok.d9 ?_
    refine p0_ HT_.out 9 14 spec_l17Ok.d10 ?_
    refine p0_ HT_.out 10 15 spec_l17Ok.d11 ?_
    refine p0_ HT_.out 11 16 spec_l17Ok.d12 ?_
    refine p0_ HT_.out 12 17 spec_l17Ok.d13 ?_
    refine p1_ HT_.out 13 18 spec_l17Ok.d14 ?_
    refine p1_ HT_.out 14 19 spec_l17Ok.d15 ?_
    refine p0_ HT_.out 15 20 spec_l17Ok.d16 ?_
    refine p0_ HT_.out 16 21 spec_l17Ok.d17 ?_
    refine p0_ HT_.out 17 22 spec_l17Ok.d18 ?_
    refine p0_ HT_.out 18 23 spec_l17Ok.d32 ?_
    refine p0_ HT_.out 19 24 spec_l17Ok.d33 ?_
    refine p0_ HT_.out 20 25 spec_l17Ok.d34 ?_
    refine p0_ HT_.out 21 26 spec_l17Ok.d35 ?_
    refine p0_ HT_.out 22 27 spec_l17Ok.d36 ?_
    refine p0_ HT_.out 23 28 spec_l17Ok.d37 ?_
    refine p0_ HT_.out 24 29 spec_l17Ok.d38 ?_
    refine p0_ HT_.out 25 30 spec_l17Ok.d39 ?_
    refine p0_ HT_.out 26 31 spec_l17Ok.d27 ?_
    refine p0_ HT_.out 27 32 spec_l17Ok.d28 ?_
    refine p0_ HT_.out 28 33 spec_l17Ok.d29 ?_
    refine p0_ HT_.out 29 34 spec_l17Ok.d30 ?_
    refine p1_ HT_.out 30 35 spec_l17Ok.d31 ?_
    refine done_ (done_of HT_.out (by kernel_rfl)) ?_
    try go_wp2
    go_meet
    case rel => exact ⟨_, (true), (by first | rfl | (simp; done) | (simp [*]; done) | (simp [i64_w, i32_w]; done)), H', ⟨by first | omega | exact Nat.le_refl _⟩, ⟨by repeat (first | (with_reducible first | exact HB.out | apply below_alloc | apply pw_below_drewN | apply below_drew1) | exact HB.out)⟩⟩
  subst c5
  have H1 : ((spec_l00In.f ((rd_T27 l0 0).f1) 1 12).bind fun t154 => (if t154 = true then (spec_l17Ok.j0 k ((((rd_T27 l0 0).f2).length : Int) != (wrap64 (((rd_T27 l0 0).f0) * ((rd_T27 l0 0).f1)))) l0) else (spec_l17Ok.j0 k true l0))) = some r := by rw [if_pos rfl] at H; exact H
  clear H
  have H := H1
  clear H1
  replace H := Option.bind_eq_some_iff.mp H
  obtain ⟨t154, A60, H⟩ := H
  replace H : (if t154 = true then (spec_l17Ok.j0 k ((((rd_T27 l0 0).f2).length : Int) != (wrap64 (((rd_T27 l0 0).f0) * ((rd_T27 l0 0).f1)))) l0) else (spec_l17Ok.j0 k true l0)) = some r := H
  have A6 := mkA A60
  clear A60
  by_cases c7 : t154 = true
  rotate_left
  · replace c7 := Bool.eq_false_iff.mpr c7
    subst c7
    have H1 : (spec_l17Ok.j0 k true l0) = some r := by rw [if_neg (show ¬ (false = true) by decide)] at H; exact H
    clear H
    have H := H1
    clear H1
    have H' := mkA H
    clear H
    try go_wp2
    have n0_ := mkA (below_drew1 HB.out)
    clear HB
    have HB := n0_
    clear n0_
    have p151 : 0 ≤ (0 : Int) := (by omega)
    have q151 : 0 < (l0.length : Int) := dt_
    obtain ⟨ad151, A151_2, c151_2, e151, hx151_0, hx151_1, hx151_2, hl151_2, hi151_2⟩ := at0_T27 HR0.out q151
    have hw151_2 := hx151_2
    have hw151_1 := hx151_1
    have hw151_0 := hx151_0
    cases e151
    have qi151 : (0 < l0.length) = True := eq_true (by omega)
    replace hx151_0 := bc_ HB.out hx151_0
    replace hx151_1 := bc_ HB.out hx151_1
    replace hx151_2 := bc_ HB.out hx151_2
    have HR151_2 := mkA hi151_2
    have HC151_2 := mkA hl151_2
    clear hi151_2 hl151_2
    replace p151 := eq_true p151
    replace q151 := eq_true q151
    have p153 : 0 ≤ (0 : Int) := (by omega)
    have q153 : 0 < (l0.length : Int) := dt_
    obtain ⟨ad153, A153_2, c153_2, e153, hx153_0, hx153_1, hx153_2, hl153_2, hi153_2⟩ := at0_T27 HR0.out q153
    have hw153_2 := hx153_2
    have hw153_1 := hx153_1
    have hw153_0 := hx153_0
    obtain rfl : ad151 = ad153 := (by injection e153)
    have qi153 : (0 < l0.length) = True := eq_true (by omega)
    replace hx153_0 := bc_ HB.out hx153_0
    replace hx153_1 := bc_ HB.out hx153_1
    replace hx153_2 := bc_ HB.out hx153_2
    have HR153_2 := mkA hi153_2
    have HC153_2 := mkA hl153_2
    clear hi153_2 hl153_2
    replace p153 := eq_true p153
    replace q153 := eq_true q153
    have ea_ := Option.some.inj (hx151_2.symm.trans hx153_2)
    injection ea_ with ea_ en_ ec_
    subst ea_
    subst ec_
    clear en_
    refine start_ (n := 31) (S := fun w' => w'.cell? ad151 = some (.int .i64 ((rd_T27 l0 0).f0)) ∧ w'.cell? ⟨ad151.block, ad151.off + 1, none⟩ = some (.int .i64 ((rd_T27 l0 0).f1)) ∧ w'.cell? ⟨ad151.block, ad151.off + 2, none⟩ = some (.slice A151_2 ((rd_T27 l0 0).f2).length c151_2) ∧ w'.cell? ad151 = some (.int .i64 ((rd_T27 l0 0).f0)) ∧ w'.cell? ⟨ad151.block, ad151.off + 1, none⟩ = some (.int .i64 ((rd_T27 l0 0).f1)) ∧ w'.cell? ⟨ad151.block, ad151.off + 2, none⟩ = some (.slice A151_2 ((rd_T27 l0 0).f2).length c151_2)) (ds := []) spec_l17Ok.d0 (by kernel_rfl) rfl rfl ⟨(bc_ HB.out hw151_0 :), (bc_ HB.out hw151_1 :), (bc_ HB.out hw151_2 :), (bc_ HB.out hw153_0 :), (bc_ HB.out hw153_1 :), (bc_ HB.out hw153_2 :)⟩ (fun hHeld => ?_); refine with_tabW spec_l17Ok.tab1 spec_l17Ok.bits1 (fun HT_ HW_ => ?_)
    generalize w.drew = w9 at HB HR151_2 HR153_2 hx151_0 hx151_1 hx151_2 hx153_0 hx153_1 hx153_2 hHeld ⊢
    refine p1_ HT_.out 0 5 spec_l17Ok.d1 ?_
    refine p1_ HT_.out 1 6 spec_l17Ok.d2 ?_
    refine p1_ HT_.out 2 7 spec_l17Ok.d3 ?_
    refine take_ (i := 3) (N := some 8) (v := ?_) (a' := ?_) spec_l17Ok.d4 rfl rfl (take_ofW HT_.out HW_.out (by kernel_rfl)) (fun _ _ _ h => h) (Or.inl ⟨by rfl, ?_⟩) hHeld ?_ ?_
    rotate_left
    · rintro w' ⟨s0, s1, s2, s3, s4, s5⟩
      go_simp
      with_reducible rfl
    rotate_left
    · simp only [Act.put, sA, sB, sC, i64_w, i32_w]
      rfl
    refine one_ (i := 4) (N := some 9) spec_l17Ok.d5 rfl rfl (one_of HT_.out (by kernel_rfl)) (by decide) (fun K hK => ?_)
    refine goes_ Tryd.func27 (by kernel_rfl) rfl #[.int .i64 ((rd_T27 l0 0).f0), .int .i64 1, .int .i64 12] (by rfl) rfl rfl (by (try simp only [List.map_toArray, List.map_cons, List.map_nil]); first | done | rfl | (simp only [List.length_drop, List.length_take]; rfl)) ?_
    with_reducible refine (spec_l00In.calls ((rd_T27 l0 0).f0) 1 12 true _ A4.out).mono ?_
    rintro e w' ⟨rfl, ⟨nd, rfl⟩⟩
    refine ⟨_, rfl, ?_⟩
    refine hK.out _ _ ⟨(bc_ HB.out hw151_0 :), (bc_ HB.out hw151_1 :), (bc_ HB.out hw151_2 :), (bc_ HB.out hw153_0 :), (bc_ HB.out hw153_1 :), (bc_ HB.out hw153_2 :)⟩ (fun hHeld => ?_)
    clear hK K
    refine norm_ (a' := ?_) ?_ ?_
    rotate_left
    · show Act.put _ (some 9) _ = _
      simp only [Act.put, sA, sB, sC, i64_w, i32_w]
      rfl
    refine p1_ HT_.out 5 10 spec_l17Ok.d6 ?_
    refine p1_ HT_.out 6 11 spec_l17Ok.d7 ?_
    refine p1_ HT_.out 7 12 spec_l17Ok.d8 ?_
    refine p1_ HT_.out 8 13 spec_l17Ok.d9 ?_
    refine p1_ HT_.out 9 14 spec_l17Ok.d10 ?_
    refine take_ (i := 10) (N := some 15) (v := ?_) (a' := ?_) spec_l17Ok.d11 rfl rfl (take_ofW HT_.out HW_.out (by kernel_rfl)) (fun _ _ _ h => h) (Or.inl ⟨by rfl, ?_⟩) hHeld ?_ ?_
    rotate_left
    · rintro w' ⟨s0, s1, s2, s3, s4, s5⟩
      go_simp
      with_reducible rfl
    rotate_left
    · simp only [Act.put, sA, sB, sC, i64_w, i32_w]
      rfl
    refine one_ (i := 11) (N := some 16) spec_l17Ok.d12 rfl rfl (one_of HT_.out (by kernel_rfl)) (by decide) (fun K hK => ?_)
    refine goes_ Tryd.func27 (by kernel_rfl) rfl #[.int .i64 ((rd_T27 l0 0).f1), .int .i64 1, .int .i64 12] (by rfl) rfl rfl (by (try simp only [List.map_toArray, List.map_cons, List.map_nil]); first | done | rfl | (simp only [List.length_drop, List.length_take]; rfl)) ?_
    with_reducible refine (spec_l00In.calls ((rd_T27 l0 0).f1) 1 12 false _ A6.out).mono ?_
    rintro e w' ⟨rfl, ⟨nd, rfl⟩⟩
    refine ⟨_, rfl, ?_⟩
    refine hK.out _ _ ⟨(bc_ HB.out hw151_0 :), (bc_ HB.out hw151_1 :), (bc_ HB.out hw151_2 :), (bc_ HB.out hw153_0 :), (bc_ HB.out hw153_1 :), (bc_ HB.out hw153_2 :)⟩ (fun hHeld => ?_)
    clear hK K
    refine norm_ (a' := ?_) ?_ ?_
    rotate_left
    · show Act.put _ (some 16) _ = _
      simp only [Act.put, sA, sB, sC, i64_w, i32_w]
      rfl
    refine p1_ HT_.out 12 17 spec_l17Ok.d13 ?_
    refine p1_ HT_.out 13 18 spec_l17Ok.d14 ?_
    refine p1_ HT_.out 14 19 spec_l17Ok.d15 ?_
    refine p0_ HT_.out 15 20 spec_l17Ok.d16 ?_
    refine p0_ HT_.out 16 21 spec_l17Ok.d17 ?_
    refine p0_ HT_.out 17 22 spec_l17Ok.d18 ?_
    refine p0_ HT_.out 18 23 spec_l17Ok.d32 ?_
    refine p0_ HT_.out 19 24 spec_l17Ok.d33 ?_
    refine p0_ HT_.out 20 25 spec_l17Ok.d34 ?_
    refine p0_ HT_.out 21 26 spec_l17Ok.d35 ?_
    refine p0_ HT_.out 22 27 spec_l17Ok.d36 ?_
    refine p0_ HT_.out 23 28 spec_l17Ok.d37 ?_
    refine p0_ HT_.out 24 29 spec_l17Ok.d38 ?_
    refine p0_ HT_.out 25 30 spec_l17Ok.d39 ?_
    refine p0_ HT_.out 26 31 spec_l17Ok.d27 ?_
    refine p0_ HT_.out 27 32 spec_l17Ok.d28 ?_
    refine p0_ HT_.out 28 33 spec_l17Ok.d29 ?_
    refine p0_ HT_.out 29 34 spec_l17Ok.d30 ?_
    refine p1_ HT_.out 30 35 spec_l17Ok.d31 ?_
    refine done_ (done_of HT_.out (by kernel_rfl)) ?_
    try go_wp2
    go_meet
    case rel => exact ⟨_, (true), (by first | rfl | (simp; done) | (simp [*]; done) | (simp [i64_w, i32_w]; done)), H', ⟨by first | omega | exact Nat.le_refl _⟩, ⟨by repeat (first | (with_reducible first | exact HB.out | apply below_alloc | apply pw_below_drewN | apply below_drew1) | exact HB.out)⟩⟩
  subst c7
  have H1 : (spec_l17Ok.j0 k ((((rd_T27 l0 0).f2).length : Int) != (wrap64 (((rd_T27 l0 0).f0) * ((rd_T27 l0 0).f1)))) l0) = some r := by rw [if_pos rfl] at H; exact H
  clear H
  have H := H1
  clear H1
  have H' := mkA H
  clear H
  try go_wp2
  have n0_ := mkA (below_drew1 HB.out)
  clear HB
  have HB := n0_
  clear n0_
  have p151 : 0 ≤ (0 : Int) := (by omega)
  have q151 : 0 < (l0.length : Int) := dt_
  obtain ⟨ad151, A151_2, c151_2, e151, hx151_0, hx151_1, hx151_2, hl151_2, hi151_2⟩ := at0_T27 HR0.out q151
  have hw151_2 := hx151_2
  have hw151_1 := hx151_1
  have hw151_0 := hx151_0
  cases e151
  have qi151 : (0 < l0.length) = True := eq_true (by omega)
  replace hx151_0 := bc_ HB.out hx151_0
  replace hx151_1 := bc_ HB.out hx151_1
  replace hx151_2 := bc_ HB.out hx151_2
  have HR151_2 := mkA hi151_2
  have HC151_2 := mkA hl151_2
  clear hi151_2 hl151_2
  replace p151 := eq_true p151
  replace q151 := eq_true q151
  have p153 : 0 ≤ (0 : Int) := (by omega)
  have q153 : 0 < (l0.length : Int) := dt_
  obtain ⟨ad153, A153_2, c153_2, e153, hx153_0, hx153_1, hx153_2, hl153_2, hi153_2⟩ := at0_T27 HR0.out q153
  have hw153_2 := hx153_2
  have hw153_1 := hx153_1
  have hw153_0 := hx153_0
  obtain rfl : ad151 = ad153 := (by injection e153)
  have qi153 : (0 < l0.length) = True := eq_true (by omega)
  replace hx153_0 := bc_ HB.out hx153_0
  replace hx153_1 := bc_ HB.out hx153_1
  replace hx153_2 := bc_ HB.out hx153_2
  have HR153_2 := mkA hi153_2
  have HC153_2 := mkA hl153_2
  clear hi153_2 hl153_2
  replace p153 := eq_true p153
  replace q153 := eq_true q153
  have ea_ := Option.some.inj (hx151_2.symm.trans hx153_2)
  injection ea_ with ea_ en_ ec_
  subst ea_
  subst ec_
  clear en_
  have p155 : 0 ≤ (0 : Int) := (by omega)
  have q155 : 0 < (l0.length : Int) := dt_
  obtain ⟨ad155, A155_2, c155_2, e155, hx155_0, hx155_1, hx155_2, hl155_2, hi155_2⟩ := at0_T27 HR0.out q155
  have hw155_2 := hx155_2
  have hw155_1 := hx155_1
  have hw155_0 := hx155_0
  obtain rfl : ad151 = ad155 := (by injection e155)
  have qi155 : (0 < l0.length) = True := eq_true (by omega)
  replace hx155_0 := bc_ HB.out hx155_0
  replace hx155_1 := bc_ HB.out hx155_1
  replace hx155_2 := bc_ HB.out hx155_2
  have HR155_2 := mkA hi155_2
  have HC155_2 := mkA hl155_2
  clear hi155_2 hl155_2
  replace p155 := eq_true p155
  replace q155 := eq_true q155
  have ea_ := Option.some.inj (hx151_2.symm.trans hx155_2)
  injection ea_ with ea_ en_ ec_
  subst ea_
  subst ec_
  clear en_
  have p156 : 0 ≤ (0 : Int) := (by omega)
  have q156 : 0 < (l0.length : Int) := dt_
  obtain ⟨ad156, A156_2, c156_2, e156, hx156_0, hx156_1, hx156_2, hl156_2, hi156_2⟩ := at0_T27 HR0.out q156
  have hw156_2 := hx156_2
  have hw156_1 := hx156_1
  have hw156_0 := hx156_0
  obtain rfl : ad151 = ad156 := (by injection e156)
  have qi156 : (0 < l0.length) = True := eq_true (by omega)
  replace hx156_0 := bc_ HB.out hx156_0
  replace hx156_1 := bc_ HB.out hx156_1
  replace hx156_2 := bc_ HB.out hx156_2
  have HR156_2 := mkA hi156_2
  have HC156_2 := mkA hl156_2
  clear hi156_2 hl156_2
  replace p156 := eq_true p156
  replace q156 := eq_true q156
  have ea_ := Option.some.inj (hx151_2.symm.trans hx156_2)
  injection ea_ with ea_ en_ ec_
  subst ea_
  subst ec_
  clear en_
  have p157 : 0 ≤ (0 : Int) := (by omega)
  have q157 : 0 < (l0.length : Int) := dt_
  obtain ⟨ad157, A157_2, c157_2, e157, hx157_0, hx157_1, hx157_2, hl157_2, hi157_2⟩ := at0_T27 HR0.out q157
  have hw157_2 := hx157_2
  have hw157_1 := hx157_1
  have hw157_0 := hx157_0
  obtain rfl : ad151 = ad157 := (by injection e157)
  have qi157 : (0 < l0.length) = True := eq_true (by omega)
  replace hx157_0 := bc_ HB.out hx157_0
  replace hx157_1 := bc_ HB.out hx157_1
  replace hx157_2 := bc_ HB.out hx157_2
  have HR157_2 := mkA hi157_2
  have HC157_2 := mkA hl157_2
  clear hi157_2 hl157_2
  replace p157 := eq_true p157
  replace q157 := eq_true q157
  have ea_ := Option.some.inj (hx151_2.symm.trans hx157_2)
  injection ea_ with ea_ en_ ec_
  subst ea_
  subst ec_
  clear en_
  refine start_ (n := 31) (S := fun w' => w'.cell? ad151 = some (.int .i64 ((rd_T27 l0 0).f0)) ∧ w'.cell? ⟨ad151.block, ad151.off + 1, none⟩ = some (.int .i64 ((rd_T27 l0 0).f1)) ∧ w'.cell? ⟨ad151.block, ad151.off + 2, none⟩ = some (.slice A151_2 ((rd_T27 l0 0).f2).length c151_2) ∧ w'.cell? ad151 = some (.int .i64 ((rd_T27 l0 0).f0)) ∧ w'.cell? ⟨ad151.block, ad151.off + 1, none⟩ = some (.int .i64 ((rd_T27 l0 0).f1)) ∧ w'.cell? ⟨ad151.block, ad151.off + 2, none⟩ = some (.slice A151_2 ((rd_T27 l0 0).f2).length c151_2) ∧ w'.cell? ad151 = some (.int .i64 ((rd_T27 l0 0).f0)) ∧ w'.cell? ⟨ad151.block, ad151.off + 1, none⟩ = some (.int .i64 ((rd_T27 l0 0).f1)) ∧ w'.cell? ⟨ad151.block, ad151.off + 2, none⟩ = some (.slice A151_2 ((rd_T27 l0 0).f2).length c151_2) ∧ w'.cell? ad151 = some (.int .i64 ((rd_T27 l0 0).f0)) ∧ w'.cell? ⟨ad151.block, ad151.off + 1, none⟩ = some (.int .i64 ((rd_T27 l0 0).f1)) ∧ w'.cell? ⟨ad151.block, ad151.off + 2, none⟩ = some (.slice A151_2 ((rd_T27 l0 0).f2).length c151_2) ∧ w'.cell? ad151 = some (.int .i64 ((rd_T27 l0 0).f0)) ∧ w'.cell? ⟨ad151.block, ad151.off + 1, none⟩ = some (.int .i64 ((rd_T27 l0 0).f1)) ∧ w'.cell? ⟨ad151.block, ad151.off + 2, none⟩ = some (.slice A151_2 ((rd_T27 l0 0).f2).length c151_2)) (ds := []) spec_l17Ok.d0 (by kernel_rfl) rfl rfl ⟨(bc_ HB.out hw151_0 :), (bc_ HB.out hw151_1 :), (bc_ HB.out hw151_2 :), (bc_ HB.out hw153_0 :), (bc_ HB.out hw153_1 :), (bc_ HB.out hw153_2 :), (bc_ HB.out hw155_0 :), (bc_ HB.out hw155_1 :), (bc_ HB.out hw155_2 :), (bc_ HB.out hw156_0 :), (bc_ HB.out hw156_1 :), (bc_ HB.out hw156_2 :), (bc_ HB.out hw157_0 :), (bc_ HB.out hw157_1 :), (bc_ HB.out hw157_2 :)⟩ (fun hHeld => ?_); refine with_tabW spec_l17Ok.tab1 spec_l17Ok.bits1 (fun HT_ HW_ => ?_)
  generalize w.drew = w8 at HB HR151_2 HR153_2 HR155_2 HR156_2 HR157_2 hx151_0 hx151_1 hx151_2 hx153_0 hx153_1 hx153_2 hx155_0 hx155_1 hx155_2 hx156_0 hx156_1 hx156_2 hx157_0 hx157_1 hx157_2 hHeld ⊢
  refine p1_ HT_.out 0 5 spec_l17Ok.d1 ?_
  refine p1_ HT_.out 1 6 spec_l17Ok.d2 ?_
  refine p1_ HT_.out 2 7 spec_l17Ok.d3 ?_
  refine take_ (i := 3) (N := some 8) (v := ?_) (a' := ?_) spec_l17Ok.d4 rfl rfl (take_ofW HT_.out HW_.out (by kernel_rfl)) (fun _ _ _ h => h) (Or.inl ⟨by rfl, ?_⟩) hHeld ?_ ?_
  rotate_left
  · rintro w' ⟨s0, s1, s2, s3, s4, s5, s6, s7, s8, s9, s10, s11, s12, s13, s14⟩
    go_simp
    with_reducible rfl
  rotate_left
  · simp only [Act.put, sA, sB, sC, i64_w, i32_w]
    rfl
  refine one_ (i := 4) (N := some 9) spec_l17Ok.d5 rfl rfl (one_of HT_.out (by kernel_rfl)) (by decide) (fun K hK => ?_)
  refine goes_ Tryd.func27 (by kernel_rfl) rfl #[.int .i64 ((rd_T27 l0 0).f0), .int .i64 1, .int .i64 12] (by rfl) rfl rfl (by (try simp only [List.map_toArray, List.map_cons, List.map_nil]); first | done | rfl | (simp only [List.length_drop, List.length_take]; rfl)) ?_
  with_reducible refine (spec_l00In.calls ((rd_T27 l0 0).f0) 1 12 true _ A4.out).mono ?_
  rintro e w' ⟨rfl, ⟨nd, rfl⟩⟩
  refine ⟨_, rfl, ?_⟩
  refine hK.out _ _ ⟨(bc_ HB.out hw151_0 :), (bc_ HB.out hw151_1 :), (bc_ HB.out hw151_2 :), (bc_ HB.out hw153_0 :), (bc_ HB.out hw153_1 :), (bc_ HB.out hw153_2 :), (bc_ HB.out hw155_0 :), (bc_ HB.out hw155_1 :), (bc_ HB.out hw155_2 :), (bc_ HB.out hw156_0 :), (bc_ HB.out hw156_1 :), (bc_ HB.out hw156_2 :), (bc_ HB.out hw157_0 :), (bc_ HB.out hw157_1 :), (bc_ HB.out hw157_2 :)⟩ (fun hHeld => ?_)
  clear hK K
  refine norm_ (a' := ?_) ?_ ?_
  rotate_left
  · show Act.put _ (some 9) _ = _
    simp only [Act.put, sA, sB, sC, i64_w, i32_w]
    rfl
  refine p1_ HT_.out 5 10 spec_l17Ok.d6 ?_
  refine p1_ HT_.out 6 11 spec_l17Ok.d7 ?_
  refine p1_ HT_.out 7 12 spec_l17Ok.d8 ?_
  refine p1_ HT_.out 8 13 spec_l17Ok.d9 ?_
  refine p1_ HT_.out 9 14 spec_l17Ok.d10 ?_
  refine take_ (i := 10) (N := some 15) (v := ?_) (a' := ?_) spec_l17Ok.d11 rfl rfl (take_ofW HT_.out HW_.out (by kernel_rfl)) (fun _ _ _ h => h) (Or.inl ⟨by rfl, ?_⟩) hHeld ?_ ?_
  rotate_left
  · rintro w' ⟨s0, s1, s2, s3, s4, s5, s6, s7, s8, s9, s10, s11, s12, s13, s14⟩
    go_simp
    with_reducible rfl
  rotate_left
  · simp only [Act.put, sA, sB, sC, i64_w, i32_w]
    rfl
  refine one_ (i := 11) (N := some 16) spec_l17Ok.d12 rfl rfl (one_of HT_.out (by kernel_rfl)) (by decide) (fun K hK => ?_)
  refine goes_ Tryd.func27 (by kernel_rfl) rfl #[.int .i64 ((rd_T27 l0 0).f1), .int .i64 1, .int .i64 12] (by rfl) rfl rfl (by (try simp only [List.map_toArray, List.map_cons, List.map_nil]); first | done | rfl | (simp only [List.length_drop, List.length_take]; rfl)) ?_
  with_reducible refine (spec_l00In.calls ((rd_T27 l0 0).f1) 1 12 true _ A6.out).mono ?_
  rintro e w' ⟨rfl, ⟨nd, rfl⟩⟩
  refine ⟨_, rfl, ?_⟩
  refine hK.out _ _ ⟨(bc_ HB.out hw151_0 :), (bc_ HB.out hw151_1 :), (bc_ HB.out hw151_2 :), (bc_ HB.out hw153_0 :), (bc_ HB.out hw153_1 :), (bc_ HB.out hw153_2 :), (bc_ HB.out hw155_0 :), (bc_ HB.out hw155_1 :), (bc_ HB.out hw155_2 :), (bc_ HB.out hw156_0 :), (bc_ HB.out hw156_1 :), (bc_ HB.out hw156_2 :), (bc_ HB.out hw157_0 :), (bc_ HB.out hw157_1 :), (bc_ HB.out hw157_2 :)⟩ (fun hHeld => ?_)
  clear hK K
  refine norm_ (a' := ?_) ?_ ?_
  rotate_left
  · show Act.put _ (some 16) _ = _
    simp only [Act.put, sA, sB, sC, i64_w, i32_w]
    rfl
  refine p1_ HT_.out 12 17 spec_l17Ok.d13 ?_
  refine p1_ HT_.out 13 18 spec_l17Ok.d14 ?_
  refine p1_ HT_.out 14 19 spec_l17Ok.d15 ?_
  refine p1_ HT_.out 15 20 spec_l17Ok.d16 ?_
  refine p1_ HT_.out 16 21 spec_l17Ok.d17 ?_
  refine p1_ HT_.out 17 22 spec_l17Ok.d18 ?_
  refine p1_ HT_.out 20 25 spec_l17Ok.d19 ?_
  refine p1_ HT_.out 21 26 spec_l17Ok.d20 ?_
  refine p1_ HT_.out 22 27 spec_l17Ok.d21 ?_
  refine p1_ HT_.out 24 29 spec_l17Ok.d22 ?_
  refine p1_ HT_.out 25 30 spec_l17Ok.d23 ?_
  refine p1_ HT_.out 26 31 spec_l17Ok.d24 ?_
  refine take_ (i := 18) (N := some 23) (v := ?_) (a' := ?_) spec_l17Ok.d25 rfl rfl (take_ofW HT_.out HW_.out (by kernel_rfl)) (fun _ _ _ h => h) (Or.inl ⟨by rfl, ?_⟩) hHeld ?_ ?_
  rotate_left
  · rintro w' ⟨s0, s1, s2, s3, s4, s5, s6, s7, s8, s9, s10, s11, s12, s13, s14⟩
    go_simp
    with_reducible rfl
  rotate_left
  · simp only [Act.put, sA, sB, sC, i64_w, i32_w]
    rfl
  refine p1_ HT_.out 19 24 spec_l17Ok.d26 ?_
  refine take_ (i := 23) (N := some 28) (v := ?_) (a' := ?_) spec_l17Ok.d27 rfl rfl (take_ofW HT_.out HW_.out (by kernel_rfl)) (fun _ _ _ h => h) (Or.inl ⟨by rfl, ?_⟩) hHeld ?_ ?_
  rotate_left
  · rintro w' ⟨s0, s1, s2, s3, s4, s5, s6, s7, s8, s9, s10, s11, s12, s13, s14⟩
    go_simp
    with_reducible rfl
  rotate_left
  · simp only [Act.put, sA, sB, sC, i64_w, i32_w]
    rfl
  refine take_ (i := 27) (N := some 32) (v := ?_) (a' := ?_) spec_l17Ok.d28 rfl rfl (take_ofW HT_.out HW_.out (by kernel_rfl)) (fun _ _ _ h => h) (Or.inl ⟨by rfl, ?_⟩) hHeld ?_ ?_
  rotate_left
  · rintro w' ⟨s0, s1, s2, s3, s4, s5, s6, s7, s8, s9, s10, s11, s12, s13, s14⟩
    go_simp
    with_reducible rfl
  rotate_left
  · simp only [Act.put, sA, sB, sC, i64_w, i32_w]
    rfl
  refine p1_ HT_.out 28 33 spec_l17Ok.d29 ?_
  refine p1_ HT_.out 29 34 spec_l17Ok.d30 ?_
  refine p1_ HT_.out 30 35 spec_l17Ok.d31 ?_
  refine done_ (done_of HT_.out (by kernel_rfl)) ?_
  try go_wp2
  go_meet
  case rel => exact ⟨_, (((((rd_T27 l0 0).f2).length : Int) != (wrap64 (((rd_T27 l0 0).f0) * ((rd_T27 l0 0).f1))))), (by first | rfl | (simp; done) | (simp [*]; done) | (simp [i64_w, i32_w]; done)), H', ⟨by first | omega | exact Nat.le_refl _⟩, ⟨by repeat (first | (with_reducible first | exact HB.out | apply below_alloc | apply pw_below_drewN | apply below_drew1) | exact HB.out)⟩⟩
 case rest =>
  clear HC2
  try clear c1
  try clear p1
  try clear q1
  try clear hx1
  try clear qi1
  try clear c2
  try clear p2
  try clear c3
  try clear c5
  try clear p6
  try clear c7
  try clear hx151_0
  try clear hx151_1
  try clear hx151_2
  try clear hx153_0
  try clear hx153_1
  try clear hx153_2
  try clear p151
  try clear p153
  try clear q151
  try clear q153
  obtain ⟨kq, x35_1, rfl, HA, HJ1, HB⟩ := hcut
  cases kq with
  | zero => exact absurd HA.out (by simp [spec_l17Ok.j0])
  | succ kj1 =>
   have H := HA.out
   clear HA
   simp only [spec_l17Ok.j0] at H
   by_cases c11 : x35_1 = true
   · subst c11
     have H1 : (some false) = some r := by rw [if_pos rfl] at H; exact H
     clear H
     have H := H1
     clear H1
     obtain rfl := Option.some.inj H
     go_wp2
     go_ret
     exact ⟨by first | rfl | (simp [errW_none, errW_some] <;> rfl) | (simp [*, errW_none, errW_some] <;> rfl), by repeat (first | (with_reducible first | exact HB.out | apply below_alloc | apply pw_below_drewN | apply below_drew1) | exact HB.out)⟩
   · replace c11 := Bool.eq_false_iff.mpr c11
     subst c11
     have H1 : ((spec_l17Most.f kj1 l0).bind fun t158 => (spec_l17Ok.l0 kj1 t158 0 l0)) = some r := by rw [if_neg (show ¬ (false = true) by decide)] at H; exact H
     clear H
     have H := H1
     clear H1
     replace H := Option.bind_eq_some_iff.mp H
     obtain ⟨t158, A120, H⟩ := H
     replace H : (spec_l17Ok.l0 kj1 t158 0 l0) = some r := H
     have A12 := mkA A120
     clear A120
     have H' := mkA H
     clear H
     go_wp2_with (first | ((with_reducible refine gate_callee (f := 28) rfl ?_); refine goesL_ (some 37) rfl rfl Tryd.func28 (by kernel_rfl) rfl #[.pointer A0] rfl (by (try simp only [List.map_toArray, List.map_cons, List.map_nil]); first | done | rfl | (simp only [List.length_drop, List.length_take]; rfl)) ?_; (with_reducible refine (spec_l17Most.calls kj1 _ l0 t158 _ ?side1 A12.out).mono ?_); (case side1 => exact cb_ HR0.out HB.out); rintro e w' ⟨rfl, ⟨nd, rfl⟩⟩; refine ⟨_, rfl, ?_⟩))
     go_loopg [4] kj1 (fun kq v4 w' => ∃ (x4_2 : Int), v4 = .int .i64 x4_2 ∧ Aside0 (spec_l17Ok.l0 kq t158 x4_2 l0 = some r) ∧ Aside0 (kq ≤ kj1) ∧ Aside0 (Below w.heap.size w w'))
     case atStart => exact ⟨(0), (by first | rfl | (simp; done) | (simp [*]; done) | (simp [i64_w, i32_w]; done)), H', ⟨Nat.le_refl _⟩, ⟨by repeat (first | (with_reducible first | exact HB.out | apply below_alloc | apply pw_below_drewN | apply below_drew1) | exact HB.out)⟩⟩
     case round =>
      clear H'
      try clear c1
      try clear p1
      try clear q1
      try clear hx1
      try clear qi1
      try clear c2
      try clear p2
      try clear c3
      try clear c5
      try clear p6
      try clear c7
      try clear c11
      try clear hx151_0
      try clear hx151_1
      try clear hx151_2
      try clear hx153_0
      try clear hx153_1
      try clear hx153_2
      try clear p1
      try clear p151
      try clear p153
      try clear p2
      try clear p6
      try clear q1
      try clear q151
      try clear q153
      obtain ⟨x4_2, rfl, HA, HK2, HB⟩ := hrel
      cases gk with
      | zero => exact absurd HA.out (by simp [spec_l17Ok.l0])
      | succ k2 =>
       have H := HA.out
       clear HA
       simp only [spec_l17Ok.l0] at H
       by_cases c13 : x4_2 < t158
       rotate_left
       · rw [if_neg c13] at H
         have c13b0 : decide (x4_2 < t158) = false := decide_eq_false c13
         clear c13
         obtain rfl := Option.some.inj H
         go_wp2
         go_ret
         exact ⟨by first | rfl | (simp [errW_none, errW_some] <;> rfl) | (simp [*, errW_none, errW_some] <;> rfl), by repeat (first | (with_reducible first | exact HB.out | apply below_alloc | apply pw_below_drewN | apply below_drew1) | exact HB.out)⟩

       rw [if_pos c13] at H
       have c13b0 : decide (x4_2 < t158) = true := decide_eq_true c13
       clear c13
       replace H := Option.bind_eq_some_iff.mp H
       obtain ⟨t159, A140, H⟩ := H
       replace H : (if t159 = true then (spec_l17Ok.l0 k2 t158 (wrap64 (x4_2 + 1)) l0) else (some false)) = some r := H
       have A14 := mkA A140
       clear A140
       by_cases c15 : t159 = true
       rotate_left
       · replace c15 := Bool.eq_false_iff.mpr c15
         subst c15
         have H1 : (some false) = some r := by rw [if_neg (show ¬ (false = true) by decide)] at H; exact H
         clear H
         have H := H1
         clear H1
         obtain rfl := Option.some.inj H
         go_wp2_with (first | ((with_reducible refine gate_callee (f := 29) rfl ?_); refine goesL_ (some 45) rfl rfl Tryd.func29 (by kernel_rfl) rfl #[.pointer A0, .int .i64 x4_2] rfl (by (try simp only [List.map_toArray, List.map_cons, List.map_nil]); first | done | rfl | (simp only [List.length_drop, List.length_take]; rfl)) ?_; (with_reducible refine (spec_l17Joined.calls k2 _ l0 x4_2 false _ ?side1 A14.out).mono ?_); (case side1 => exact cb_ HR0.out HB.out); rintro e w17 ⟨rfl, hb⟩; refine ⟨_, rfl, ?_⟩; have n0_ := mkA (below_step (bs0_ HB.out) hb); clear HB; have HB := n0_; clear n0_; (try clear hb); (try clear hb2); (try clear hk); (try clear hi)))
         go_ret
         exact ⟨by first | rfl | (simp [errW_none, errW_some] <;> rfl) | (simp [*, errW_none, errW_some] <;> rfl), by repeat (first | (with_reducible first | exact HB.out | apply below_alloc | apply pw_below_drewN | apply below_drew1) | exact HB.out)⟩
       subst c15
       have H1 : (spec_l17Ok.l0 k2 t158 (wrap64 (x4_2 + 1)) l0) = some r := by rw [if_pos rfl] at H; exact H
       clear H
       have H := H1
       clear H1
       have H' := mkA H
       clear H
       go_wp2_with (first | ((with_reducible refine gate_callee (f := 29) rfl ?_); refine goesL_ (some 45) rfl rfl Tryd.func29 (by kernel_rfl) rfl #[.pointer A0, .int .i64 x4_2] rfl (by (try simp only [List.map_toArray, List.map_cons, List.map_nil]); first | done | rfl | (simp only [List.length_drop, List.length_take]; rfl)) ?_; (with_reducible refine (spec_l17Joined.calls k2 _ l0 x4_2 true _ ?side1 A14.out).mono ?_); (case side1 => exact cb_ HR0.out HB.out); rintro e w16 ⟨rfl, hb⟩; refine ⟨_, rfl, ?_⟩; have n0_ := mkA (below_step (bs0_ HB.out) hb); clear HB; have HB := n0_; clear n0_; (try clear hb); (try clear hb2); (try clear hk); (try clear hi)))
       go_roundg k2
       case measure => have := HJ1.out; have := HK2.out; omega
       case rel => exact ⟨(wrap64 (x4_2 + 1)), (by first | rfl | (simp; done) | (simp [*]; done) | (simp [i64_w, i32_w]; done)), H', ⟨by have := HJ1.out; have := HK2.out; omega⟩, ⟨by repeat (first | (with_reducible first | exact HB.out | apply below_alloc | apply pw_below_drewN | apply below_drew1) | exact HB.out)⟩⟩
/-! ### spec_l01Split: function 41 -/
def spec_l01Split.l0 : Nat → ByteArray → Int → List ByteArray → Int → Int → Option (List ByteArray)
  | 0, _, _, _, _, _ => none
  | k + 1, x0, x1, x5, x6, x7 => if x7 < (x0.size : Int) then (if 0 ≤ x7 then (if (bt x0 x7) = x1 then (if 0 ≤ x6 then (if x6 ≤ x7 then (if x7 ≤ (x0.size : Int) then (if x5.length < 8796093022208 then (spec_l01Split.l0 k x0 x1 (x5 ++ [x0.extract (x6 : Int).toNat (x7 : Int).toNat]) (wrap64 (x7 + 1)) (wrap64 (x7 + 1))) else (none)) else (none)) else (none)) else (none)) else (spec_l01Split.l0 k x0 x1 x5 x6 (wrap64 (x7 + 1)))) else (none)) else (if 0 ≤ x6 then (if x6 ≤ (x0.size : Int) then (if x5.length < 8796093022208 then (some (x5 ++ [x0.extract (x6 : Int).toNat x0.size])) else (none)) else (none)) else (none))
def spec_l01Split.f (k : Nat) (a0 : ByteArray) (a1 : Int) : Option (List ByteArray) := spec_l01Split.l0 k a0 a1 (([] : List ByteArray)) 0 0
theorem spec_l01Split.mono_l : ∀ k, (∀ y0 y1 y2 y3 y4, LeO (spec_l01Split.l0 k y0 y1 y2 y3 y4) (spec_l01Split.l0 (k + 1) y0 y1 y2 y3 y4))
  | 0 => fun _ _ _ _ _ r h => by simp [spec_l01Split.l0] at h
  | k + 1 => by
    have ih0 := spec_l01Split.mono_l k
    · intro y0 y1 y2 y3 y4
      unfold spec_l01Split.l0
      repeat' first
      | (with_reducible exact ih0 _ _ _ _ _)
      | (with_reducible exact LeO.refl _)
      | (with_reducible exact LeO.none _)
      | (with_reducible refine LeO.ite ?_ ?_)
      | (with_reducible refine LeO.bind ?_ (fun _ => ?_))
      | exact ih0 _ _ _ _ _
      | exact LeO.none _
      | refine LeO.ite ?_ ?_
      | refine LeO.bind ?_ (fun _ => ?_)
theorem spec_l01Split.mono : ∀ a0 a1 k, LeO (spec_l01Split.f k a0 a1) (spec_l01Split.f (k + 1) a0 a1) := by
  intro a0 a1 k
  have ih0 := spec_l01Split.mono_l k
  unfold spec_l01Split.f
  repeat' first
      | (with_reducible exact ih0 _ _ _ _ _)
      | (with_reducible exact LeO.refl _)
      | (with_reducible exact LeO.none _)
      | (with_reducible refine LeO.ite ?_ ?_)
      | (with_reducible refine LeO.bind ?_ (fun _ => ?_))
      | exact ih0 _ _ _ _ _
      | exact LeO.none _
      | refine LeO.ite ?_ ?_
      | refine LeO.bind ?_ (fun _ => ?_)
set_option maxHeartbeats 8000000 in
set_option maxRecDepth 100000 in
theorem spec_l01Split.calls (k : Nat) (a0 : ByteArray) (a1 : Int) (r : List ByteArray) (w : World) (h : spec_l01Split.f k a0 a1 = some r) :
    Calls Tryd.prog 41 #[.string a0, .int .u8 a1] w fun e w' => ∃ v0_ : Value, e = .returned (v0_) ∧ Kd.R Kd.string 9 w' w.heap.size (fun _ => True) v0_ r ∧ Below w.heap.size w w' := by
  have HB := Aside0.mk (Below.refl w.heap.size w)
  have H : (spec_l01Split.l0 k a0 a1 (([] : List ByteArray)) 0 0) = some r := h
  clear h
  obtain ⟨y160, hy160⟩ : ∃ y_ : List ByteArray, y_ = (([] : List ByteArray)) := ⟨_, rfl⟩
  replace H : (spec_l01Split.l0 k a0 a1 y160 0 0) = some r := by first | (rw [hy160]; with_reducible exact H) | (have H2_ := (Option.bind_some _ _).symm.trans H; rw [hy160]; with_reducible exact H2_) | (have H2_ := (Option.bind_some _ _).symm.trans H; with_reducible exact H2_) | with_reducible exact H | (rw [hy160]; exact H) | exact H
  have Ny160 := Aside0.mk hy160
  clear hy160
  have H' := Aside0.mk H
  clear H
  go_enter Tryd.func41, Tryd.ntmps41
  go_wp2_with (first | ((with_reducible refine gate_dst (N := 8) rfl ?_); refine Kd.R_lit Kd.string _ 9 ?hg (N := 8) ?hd (xs := ([] : List ByteArray)) (inner := []) (ok := fun _ => True) (okp := fun _ => True) ?hr ?hp (fun _ hk => hk) trivial (Below.refl _ _) (Nat.le_refl _) (by simp) ?_; (case hd => rfl); (case hg => rfl); (case hr => first | (go_simp; done) | (go_simp; rfl)); (case hp => exact (Reps.none _ _)); intro v161 w3 ho4 hb hg_ hnew_; clear hg_ hnew_; (first | rw [← Ny160.out] at ho4 | (simp only [Int.reduceToNat] at ho4; rw [← Ny160.out] at ho4)); have n0_ := Aside0.mk (Kd.R_lower ho4 (below_size (by repeat (first | (with_reducible first | exact HB.out | apply below_alloc | apply pw_below_drewN | apply below_drew1) | exact HB.out)))); have n1_ := Aside0.mk (below_step (by repeat (first | (with_reducible first | exact HB.out | apply below_alloc | apply pw_below_drewN | apply below_drew1) | exact HB.out)) hb); clear HB; have HO162 := n0_; have HB := n1_; clear n0_ n1_; clear hb ho4))
  go_loopg [5, 6, 7] k (fun kq v5 v6 v7 w' => ∃ (x5_1 : List ByteArray) (x6_1 : Int) (x7_1 : Int), v6 = .int .i64 x6_1 ∧ v7 = .int .i64 x7_1 ∧ Aside0 (spec_l01Split.l0 kq a0 a1 x5_1 x6_1 x7_1 = some r) ∧ Aside0 (kq ≤ k) ∧ Aside0 (Kd.R Kd.string 9 w' w.heap.size (fun _ => True) v5 x5_1) ∧ Aside0 (Below w.heap.size w w'))
  case atStart => exact ⟨(y160), (0), (0), (by first | rfl | (simp; done) | (simp [*]; done) | (simp [i64_w, i32_w]; done)), (by first | rfl | (simp; done) | (simp [*]; done) | (simp [i64_w, i32_w]; done)), H', ⟨Nat.le_refl _⟩, ⟨by (with_reducible repeat (first | apply Kd.R_alloc | apply Kd.R_drewN | apply Kd.R_drew)); exact HO162.out⟩, ⟨by repeat (first | (with_reducible first | exact HB.out | apply below_alloc | apply pw_below_drewN | apply below_drew1) | exact HB.out)⟩⟩
  case round =>
    clear H'
    try clear p2
    try clear c4
    obtain ⟨x5_1, x6_1, x7_1, rfl, rfl, HA, HK1, HO_5, HB⟩ := hrel
    cases gk with
    | zero => exact absurd HA.out (by simp [spec_l01Split.l0])
    | succ k1 =>
      have H := HA.out
      clear HA
      simp only [spec_l01Split.l0] at H
      by_cases c5 : x7_1 < (a0.size : Int)
      · rw [if_pos c5] at H
        have c5b0 : decide (x7_1 < (a0.size : Int)) = true := decide_eq_true c5
        clear c5
        by_cases c6 : 0 ≤ x7_1
        · rw [if_pos c6] at H
          have c6b0 : decide (0 ≤ x7_1) = true := decide_eq_true c6
          clear c6
          by_cases c8 : (bt a0 x7_1) = a1
          · rw [if_pos c8] at H
            have c8b0 : ((bt a0 x7_1) == a1) = true := beq_iff_eq.mpr c8
            have c8b1 : ((bt a0 x7_1) != a1) = false := bne_eq_false_iff_eq.mpr c8
            clear c8
            by_cases c9 : 0 ≤ x6_1
            · rw [if_pos c9] at H
              have c9b0 := eq_true c9
              have c9b1 : decide (0 ≤ x6_1) = true := decide_eq_true c9
              clear c9
              by_cases c10 : x6_1 ≤ x7_1
              · rw [if_pos c10] at H
                have c10b0 := eq_true c10
                have c10b1 : decide (x6_1 ≤ x7_1) = true := decide_eq_true c10
                clear c10
                by_cases c11 : x7_1 ≤ (a0.size : Int)
                · rw [if_pos c11] at H
                  have c11b0 := eq_true c11
                  have c11b1 : decide (x7_1 ≤ (a0.size : Int)) = true := decide_eq_true c11
                  clear c11
                  by_cases c12 : x5_1.length < 8796093022208
                  · rw [if_pos c12] at H
                    have LMc12 := Aside0.mk c12
                    clear c12
                    obtain ⟨y163, hy163⟩ : ∃ y_ : List ByteArray, y_ = (x5_1 ++ [a0.extract (x6_1 : Int).toNat (x7_1 : Int).toNat]) := ⟨_, rfl⟩
                    replace H : (spec_l01Split.l0 k1 a0 a1 y163 (wrap64 (x7_1 + 1)) (wrap64 (x7_1 + 1))) = some r := by first | (rw [hy163]; with_reducible exact H) | (have H2_ := (Option.bind_some _ _).symm.trans H; rw [hy163]; with_reducible exact H2_) | (have H2_ := (Option.bind_some _ _).symm.trans H; with_reducible exact H2_) | with_reducible exact H | (rw [hy163]; exact H) | exact H
                    have Ny163 := Aside0.mk hy163
                    clear hy163
                    have H' := Aside0.mk H
                    clear H
                    have p7 : 0 ≤ (x7_1 : Int) := of_decide_eq_true (by first | (with_reducible assumption) | assumption)
                    have q7 : x7_1 < (a0.size : Int) := of_decide_eq_true (by first | (with_reducible assumption) | assumption)
                    have hx7 := bt_at a0 x7_1
                    replace p7 := eq_true p7
                    replace q7 := eq_true q7
                    go_wp2_with (first | ((with_reducible refine gate_builtin (b := .append) (xs := #[.tmp 20, .tmp 25]) rfl ?_); at_builtin; refine Kd.R_append Kd.string (w0 := w) w.heap.size rfl (.tmp 20) (.tmp 25) 41 9 (.string ⟨#[]⟩) 16 rfl Tryd.underlying41 info9 rfl (by decide) (by omega) u5 x5_1 (a0.extract (x6_1 : Int).toNat (x7_1 : Int).toNat) [.string (a0.extract (x6_1 : Int).toNat (x7_1 : Int).toNat)] (fun _ => True) (fun _ => False) rfl rfl ?aP (fun _ hk => hk.elim) ?aF ?aO ?aB ?aS ?aL ?_; (case aP => exact rfl); (case aB => exact (by repeat (first | (with_reducible first | exact HB.out | apply below_alloc | apply pw_below_drewN | apply below_drew1) | exact HB.out))); (case aF => exact (fun _ _ => trivial)); (case aO => exact (by (with_reducible repeat (first | apply Kd.R_alloc | apply Kd.R_drewN | apply Kd.R_drew)); exact HO_5.out)); (case aS => exact (below_size (by repeat (first | (with_reducible first | exact HB.out | apply below_alloc | apply pw_below_drewN | apply below_drew1) | exact HB.out)))); (case aL => have := LMc12.out; omega); intro v164 w13 ho hb hg hat; rw [← Ny163.out] at ho; have n0_ := Aside0.mk (hb); have n1_ := Aside0.mk (ho); clear HB; clear HO_5; have HB := n0_; have HO165 := n1_; clear n0_ n1_; clear ho hb hg hat))
                    go_roundg k1
                    case measure => have := HK1.out; omega
                    case rel => exact ⟨(y163), (wrap64 (x7_1 + 1)), (wrap64 (x7_1 + 1)), (by first | rfl | (simp; done) | (simp [*]; done) | (simp [i64_w, i32_w]; done)), (by first | rfl | (simp; done) | (simp [*]; done) | (simp [i64_w, i32_w]; done)), H', ⟨by have := HK1.out; omega⟩, ⟨by (with_reducible repeat (first | apply Kd.R_alloc | apply Kd.R_drewN | apply Kd.R_drew)); exact HO165.out⟩, ⟨by repeat (first | (with_reducible first | exact HB.out | apply below_alloc | apply pw_below_drewN | apply below_drew1) | exact HB.out)⟩⟩
                  · rw [if_neg c12] at H
                    exact absurd H (by simp)
                · rw [if_neg c11] at H
                  exact absurd H (by simp)
              · rw [if_neg c10] at H
                exact absurd H (by simp)
            · rw [if_neg c9] at H
              exact absurd H (by simp)
          · rw [if_neg c8] at H
            have c8b0 : ((bt a0 x7_1) == a1) = false := beq_eq_false_iff_ne.mpr c8
            have c8b1 : ((bt a0 x7_1) != a1) = true := bne_iff_ne.mpr c8
            have H' := Aside0.mk H
            clear H
            have p7 : 0 ≤ (x7_1 : Int) := of_decide_eq_true (by first | (with_reducible assumption) | assumption)
            have q7 : x7_1 < (a0.size : Int) := of_decide_eq_true (by first | (with_reducible assumption) | assumption)
            have hx7 := bt_at a0 x7_1
            replace p7 := eq_true p7
            replace q7 := eq_true q7
            go_wp2
            go_roundg k1
            case measure => have := HK1.out; omega
            case rel => exact ⟨(x5_1), (x6_1), (wrap64 (x7_1 + 1)), (by first | rfl | (simp; done) | (simp [*]; done) | (simp [i64_w, i32_w]; done)), (by first | rfl | (simp; done) | (simp [*]; done) | (simp [i64_w, i32_w]; done)), H', ⟨by have := HK1.out; omega⟩, ⟨by (with_reducible repeat (first | apply Kd.R_alloc | apply Kd.R_drewN | apply Kd.R_drew)); exact HO_5.out⟩, ⟨by repeat (first | (with_reducible first | exact HB.out | apply below_alloc | apply pw_below_drewN | apply below_drew1) | exact HB.out)⟩⟩
        · rw [if_neg c6] at H
          exact absurd H (by simp)
      · rw [if_neg c5] at H
        have c5b0 : decide (x7_1 < (a0.size : Int)) = false := decide_eq_false c5
        clear c5
        by_cases c14 : 0 ≤ x6_1
        · rw [if_pos c14] at H
          have c14b0 := eq_true c14
          have c14b1 : decide (0 ≤ x6_1) = true := decide_eq_true c14
          clear c14
          by_cases c15 : x6_1 ≤ (a0.size : Int)
          · rw [if_pos c15] at H
            have c15b0 := eq_true c15
            have c15b1 : decide (x6_1 ≤ (a0.size : Int)) = true := decide_eq_true c15
            clear c15
            by_cases c16 : x5_1.length < 8796093022208
            · rw [if_pos c16] at H
              have LMc16 := Aside0.mk c16
              clear c16
              obtain ⟨y166, hy166⟩ : ∃ y_ : List ByteArray, y_ = (x5_1 ++ [a0.extract (x6_1 : Int).toNat a0.size]) := ⟨_, rfl⟩
              replace H : (some y166) = some r := by first | (rw [hy166]; with_reducible exact H) | (have H2_ := (Option.bind_some _ _).symm.trans H; rw [hy166]; with_reducible exact H2_) | (have H2_ := (Option.bind_some _ _).symm.trans H; with_reducible exact H2_) | with_reducible exact H | (rw [hy166]; exact H) | exact H
              have Ny166 := Aside0.mk hy166
              clear hy166
              obtain rfl := Option.some.inj H
              go_wp2_with (first | ((with_reducible refine gate_builtin (b := .append) (xs := #[.tmp 29, .tmp 33]) rfl ?_); at_builtin; refine Kd.R_append Kd.string (w0 := w) w.heap.size rfl (.tmp 29) (.tmp 33) 41 9 (.string ⟨#[]⟩) 16 rfl Tryd.underlying41 info9 rfl (by decide) (by omega) u5 x5_1 (a0.extract (x6_1 : Int).toNat a0.size) [.string (a0.extract (x6_1 : Int).toNat a0.size)] (fun _ => True) (fun _ => False) rfl rfl ?aP (fun _ hk => hk.elim) ?aF ?aO ?aB ?aS ?aL ?_; (case aP => exact rfl); (case aB => exact (by repeat (first | (with_reducible first | exact HB.out | apply below_alloc | apply pw_below_drewN | apply below_drew1) | exact HB.out))); (case aF => exact (fun _ _ => trivial)); (case aO => exact (by (with_reducible repeat (first | apply Kd.R_alloc | apply Kd.R_drewN | apply Kd.R_drew)); exact HO_5.out)); (case aS => exact (below_size (by repeat (first | (with_reducible first | exact HB.out | apply below_alloc | apply pw_below_drewN | apply below_drew1) | exact HB.out)))); (case aL => have := LMc16.out; omega); intro v167 w17 ho hb hg hat; rw [← Ny166.out] at ho; have n0_ := Aside0.mk (hb); have n1_ := Aside0.mk (ho); clear HB; clear HO_5; have HB := n0_; have HO168 := n1_; clear n0_ n1_; clear ho hb hg hat))
              go_ret
              exact ⟨_, by first | rfl | (simp [errW_none, errW_some] <;> rfl) | (simp [*, errW_none, errW_some] <;> rfl), by (with_reducible repeat (first | apply Kd.R_alloc | apply Kd.R_drewN | apply Kd.R_drew)); exact HO168.out, by repeat (first | (with_reducible first | exact HB.out | apply below_alloc | apply pw_below_drewN | apply below_drew1) | exact HB.out)⟩
            · rw [if_neg c16] at H
              exact absurd H (by simp)
          · rw [if_neg c15] at H
            exact absurd H (by simp)
        · rw [if_neg c14] at H
          exact absurd H (by simp)

/-! ### spec_l01Digit: function 63 -/
def spec_l01Digit.f (a0 : Int) : Option (Bool) := if a0 ≥ 48 then (some (decide (a0 ≤ 57))) else (some false)
set_option maxHeartbeats 8000000 in
set_option maxRecDepth 100000 in
theorem spec_l01Digit.calls (a0 : Int) (r : Bool) (w : World) (h : spec_l01Digit.f a0 = some r) :
    Calls Tryd.prog 63 #[.int .u8 a0] w fun e w' => e = .returned (.bool r) ∧ Drawn0 w w' := by
  have H : (if a0 ≥ 48 then (some (decide (a0 ≤ 57))) else (some false)) = some r := h
  clear h
  by_cases c2 : a0 ≥ 48
  · rw [if_pos c2] at H
    have c2b0 : decide (48 ≤ a0) = true := decide_eq_true c2
    clear c2
    obtain rfl := Option.some.inj H
    go_enter Tryd.func63, Tryd.ntmps63
    go_wp2
    go_ret
    exact ⟨by first | rfl | (simp; done) | (simp [*]; done) | (simp [i64_w, i32_w]; done), by repeat (first | exact Drawn0.refl _ | apply Drawn0.step)⟩
  · rw [if_neg c2] at H
    have c2b0 : decide (48 ≤ a0) = false := decide_eq_false c2
    clear c2
    obtain rfl := Option.some.inj H
    go_enter Tryd.func63, Tryd.ntmps63
    go_wp2
    go_ret
    exact ⟨by first | rfl | (simp; done) | (simp [*]; done) | (simp [i64_w, i32_w]; done), by repeat (first | exact Drawn0.refl _ | apply Drawn0.step)⟩

end Go.Proofs.YtopopjkoanpjiaaDoor.GFnExactReadTiling

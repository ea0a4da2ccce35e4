-- Written by the session's own program (gen.py) out of the translation's print. Lean checks it.
import Derived.Test.YtnidibnhojedoaaGFnExactSymmetriesOfx0
import Derived.Test.YtnidibnhojedoaaGFnExactSymmetriesOfx1
import Derived.Test.YtnidibnhojedoaaGFnExactSymmetriesOfx2
import Derived.Test.YtnidibnhojedoaaGFnExactSymmetriesOfx3
namespace Go.Proofs.Ytnidibnhojedoaa.GFnExactSymmetriesOf
open Go.RowKit Go.Proofs.YtnidibnhojedoaaW.PrintWords Go.Proofs.YtnidibnhojedoaaW.PrintLast Go.Proofs.YtnidibnhojedoaaW.PrintMore
attribute [local go_sem] max2_int min2_int max_two min_two max_three min_three max_four min_four   -- for this text's walks alone
set_option linter.unusedVariables false
set_option linter.unusedSimpArgs false

/-! ### spec_l17Ok: function 60 -/
mutual
def spec_l17Ok.j0 : Nat → Bool → List (S29) → Option (Bool)
  | 0, _, _ => none
  | k + 1, x35, x960 => if x35 = true then (some false) else ((spec_l17Most.f k x960).bind fun t175 => (spec_l17Ok.l0 k t175 0 x960))
def spec_l17Ok.l0 : Nat → Int → Int → List (S29) → Option (Bool)
  | 0, _, _, _ => none
  | k + 1, x3, x4, x960 => if x4 < x3 then ((spec_l17Joined.f k x960 x4).bind fun t176 => (if t176 = true then (spec_l17Ok.l0 k x3 (wrap64 (x4 + 1)) x960) else (some false))) else (some (decide (x3 > 0)))
end
def spec_l17Ok.f (k : Nat) (l0 : List (S29)) : Option (Bool) := if 0 < (l0.length : Int) then ((spec_l00In.f ((rd_T29 l0 0).f0) 1 12).bind fun t169 => (if t169 = true then ((spec_l00In.f ((rd_T29 l0 0).f1) 1 12).bind fun t171 => (if t171 = true then (spec_l17Ok.j0 k ((((rd_T29 l0 0).f2).length : Int) != (wrap64 (((rd_T29 l0 0).f0) * ((rd_T29 l0 0).f1)))) l0) else (spec_l17Ok.j0 k true l0))) else (spec_l17Ok.j0 k true l0))) else (none)
theorem spec_l17Ok.mono_l : ∀ k, (∀ y0 y1, LeO (spec_l17Ok.j0 k y0 y1) (spec_l17Ok.j0 (k + 1) y0 y1)) ∧ (∀ y0 y1 y2, LeO (spec_l17Ok.l0 k y0 y1 y2) (spec_l17Ok.l0 (k + 1) y0 y1 y2))
  | 0 => ⟨fun _ _ r h => by simp [spec_l17Ok.j0] at h, fun _ _ _ r h => by simp [spec_l17Ok.l0] at h⟩
  | k + 1 => by
    obtain ⟨ih0, ih1⟩ := spec_l17Ok.mono_l k
    refine ⟨?_, ?_⟩
    · intro y0 y1
      unfold spec_l17Ok.j0
      repeat' first
      | (with_reducible exact ih0 _ _)
      | (with_reducible exact ih1 _ _ _)
      | (with_reducible exact spec_l17Joined.mono _ _ _)
      | (with_reducible exact spec_l17Most.mono _ _)
      | (with_reducible exact LeO.refl _)
      | (with_reducible exact LeO.none _)
      | (with_reducible refine LeO.ite ?_ ?_)
      | (with_reducible refine LeO.bind ?_ (fun _ => ?_))
      | exact ih0 _ _
      | exact ih1 _ _ _
      | exact spec_l17Joined.mono _ _ _
      | exact spec_l17Most.mono _ _
      | exact LeO.none _
      | refine LeO.ite ?_ ?_
      | refine LeO.bind ?_ (fun _ => ?_)
    · intro y0 y1 y2
      unfold spec_l17Ok.l0
      repeat' first
      | (with_reducible exact ih0 _ _)
      | (with_reducible exact ih1 _ _ _)
      | (with_reducible exact spec_l17Joined.mono _ _ _)
      | (with_reducible exact spec_l17Most.mono _ _)
      | (with_reducible exact LeO.refl _)
      | (with_reducible exact LeO.none _)
      | (with_reducible refine LeO.ite ?_ ?_)
      | (with_reducible refine LeO.bind ?_ (fun _ => ?_))
      | exact ih0 _ _
      | exact ih1 _ _ _
      | exact spec_l17Joined.mono _ _ _
      | exact spec_l17Most.mono _ _
      | exact LeO.none _
      | refine LeO.ite ?_ ?_
      | refine LeO.bind ?_ (fun _ => ?_)
theorem spec_l17Ok.mono : ∀ a0 k, LeO (spec_l17Ok.f k a0) (spec_l17Ok.f (k + 1) a0) := by
  intro a0 k
  obtain ⟨ih0, ih1⟩ := spec_l17Ok.mono_l k
  unfold spec_l17Ok.f
  repeat' first
      | (with_reducible exact ih0 _ _)
      | (with_reducible exact ih1 _ _ _)
      | (with_reducible exact spec_l17Joined.mono _ _ _)
      | (with_reducible exact spec_l17Most.mono _ _)
      | (with_reducible exact LeO.refl _)
      | (with_reducible exact LeO.none _)
      | (with_reducible refine LeO.ite ?_ ?_)
      | (with_reducible refine LeO.bind ?_ (fun _ => ?_))
      | exact ih0 _ _
      | exact ih1 _ _ _
      | exact spec_l17Joined.mono _ _ _
      | exact spec_l17Most.mono _ _
      | exact LeO.none _
      | refine LeO.ite ?_ ?_
      | refine LeO.bind ?_ (fun _ => ?_)
def spec_l17Ok.T1 : Bool × List (List Nat × List Nat) := (true, [([], []), ([0], [0]), ([1], [1]), ([2], [2]), ([3], [3]), ([4], [4]), ([5, 4], [5]), ([6], [6]), ([7, 6], [6, 7]), ([8, 6], [6, 8]), ([9, 6], [6, 9]), ([10, 6, 6], [6, 10]), ([11, 6], [6, 11]), ([6, 12], [6, 12]), ([13, 11], [13]), ([14], [14]), ([15, 14], [14, 15]), ([16, 14], [14, 16]), ([17, 14], [14, 17]), ([18, 14], [14, 18]), ([14], [14]), ([20, 14], [14, 20]), ([21, 14], [14, 21]), ([22, 14], [14, 22]), ([14], [14]), ([24, 14], [14, 24]), ([25, 14], [14, 25]), ([26, 14], [14, 26]), ([23, 27, 14], [14, 23, 27]), ([19, 28, 14], [14, 19, 28]), ([14, 29], [14, 29])])
def spec_l17Ok.B1 : List Nat := [0, 1, 3, 7, 15, 31, 63, 127, 255, 511, 1023, 2047, 4095, 8191, 16383, 32767, 65535, 131071, 262143, 524287, 32767, 1081343, 3178495, 7372799, 32767, 16809983, 50364415, 117473279, 267419647, 536870911, 1073741823]
theorem spec_l17Ok.tab1 : rtab .any (opsOf Try.f60 1) = spec_l17Ok.T1 := by kernel_rfl
theorem spec_l17Ok.bits1 : waitsOk spec_l17Ok.T1.2 spec_l17Ok.B1 = true := by kernel_rfl
open List renaming setIfInBounds_toArray → sA, set_cons_zero → sB, set_cons_succ → sC
open Go.Proofs.YtnidibnhojedoaaW.PrintWords.Aside0 renaming mk → mkA
open Go.Proofs.YtnidibnhojedoaaX (dt_ bc_ p0_ p1_ bl_ cb_ bs0_ bs1_ bs2_ bs3_ bs4_ bs5_ bs6_ bs7_ bs8_ bs9_ bs10_ bs11_ bs12_)
abbrev spec_l17Ok.d0 : Array Bool := #[false, false, false, false, false, false, false, false, false, false, false, false, false, false, false, false, false, false, false, false, false, false, false, false, false, false, false, false, false, false, false]
abbrev spec_l17Ok.d1 : Array Bool := #[true, false, false, false, false, false, false, false, false, false, false, false, false, false, false, false, false, false, false, false, false, false, false, false, false, false, false, false, false, false, false]
abbrev spec_l17Ok.d2 : Array Bool := #[true, true, false, false, false, false, false, false, false, false, false, false, false, false, false, false, false, false, false, false, false, false, false, false, false, false, false, false, false, false, false]
abbrev spec_l17Ok.d3 : Array Bool := #[true, true, true, false, false, false, false, false, false, false, false, false, false, false, false, false, false, false, false, false, false, false, false, false, false, false, false, false, false, false, false]
abbrev spec_l17Ok.d4 : Array Bool := #[true, true, true, true, false, false, false, false, false, false, false, false, false, false, false, false, false, false, false, false, false, false, false, false, false, false, false, false, false, false, false]
abbrev spec_l17Ok.d5 : Array Bool := #[true, true, true, true, true, false, false, false, false, false, false, false, false, false, false, false, false, false, false, false, false, false, false, false, false, false, false, false, false, false, false]
abbrev spec_l17Ok.d6 : Array Bool := #[true, true, true, true, true, true, false, false, false, false, false, false, false, false, false, false, false, false, false, false, false, false, false, false, false, false, false, false, false, false, false]
abbrev spec_l17Ok.d7 : Array Bool := #[true, true, true, true, true, true, true, false, false, false, false, false, false, false, false, false, false, false, false, false, false, false, false, false, false, false, false, false, false, false, false]
abbrev spec_l17Ok.d8 : Array Bool := #[true, true, true, true, true, true, true, true, false, false, false, false, false, false, false, false, false, false, false, false, false, false, false, false, false, false, false, false, false, false, false]
abbrev spec_l17Ok.d9 : Array Bool := #[true, true, true, true, true, true, true, true, true, false, false, false, false, false, false, false, false, false, false, false, false, false, false, false, false, false, false, false, false, false, false]
abbrev spec_l17Ok.d10 : Array Bool := #[true, true, true, true, true, true, true, true, true, true, false, false, false, false, false, false, false, false, false, false, false, false, false, false, false, false, false, false, false, false, false]
abbrev spec_l17Ok.d11 : Array Bool := #[true, true, true, true, true, true, true, true, true, true, true, false, false, false, false, false, false, false, false, false, false, false, false, false, false, false, false, false, false, false, false]
abbrev spec_l17Ok.d12 : Array Bool := #[true, true, true, true, true, true, true, true, true, true, true, true, false, false, false, false, false, false, false, false, false, false, false, false, false, false, false, false, false, false, false]
abbrev spec_l17Ok.d13 : Array Bool := #[true, true, true, true, true, true, true, true, true, true, true, true, true, false, false, false, false, false, false, false, false, false, false, false, false, false, false, false, false, false, false]
abbrev spec_l17Ok.d14 : Array Bool := #[true, true, true, true, true, true, true, true, true, true, true, true, true, true, false, false, false, false, false, false, false, false, false, false, false, false, false, false, false, false, false]
abbrev spec_l17Ok.d15 : Array Bool := #[true, true, true, true, true, true, true, true, true, true, true, true, true, true, true, false, false, false, false, false, false, false, false, false, false, false, false, false, false, false, false]
abbrev spec_l17Ok.d16 : Array Bool := #[true, true, true, true, true, true, true, true, true, true, true, true, true, true, true, true, false, false, false, false, false, false, false, false, false, false, false, false, false, false, false]
abbrev spec_l17Ok.d17 : Array Bool := #[true, true, true, true, true, true, true, true, true, true, true, true, true, true, true, true, true, false, false, false, false, false, false, false, false, false, false, false, false, false, false]
abbrev spec_l17Ok.d18 : Array Bool := #[true, true, true, true, true, true, true, true, true, true, true, true, true, true, true, true, true, true, false, false, false, false, false, false, false, false, false, false, false, false, false]
abbrev spec_l17Ok.d19 : Array Bool := #[true, true, true, true, true, true, true, true, true, true, true, true, true, true, true, true, true, true, false, false, true, false, false, false, false, false, false, false, false, false, false]
abbrev spec_l17Ok.d20 : Array Bool := #[true, true, true, true, true, true, true, true, true, true, true, true, true, true, true, true, true, true, false, false, true, true, false, false, false, false, false, false, false, false, false]
abbrev spec_l17Ok.d21 : Array Bool := #[true, true, true, true, true, true, true, true, true, true, true, true, true, true, true, true, true, true, false, false, true, true, true, false, false, false, false, false, false, false, false]
abbrev spec_l17Ok.d22 : Array Bool := #[true, true, true, true, true, true, true, true, true, true, true, true, true, true, true, true, true, true, false, false, true, true, true, false, true, false, false, false, false, false, false]
abbrev spec_l17Ok.d23 : Array Bool := #[true, true, true, true, true, true, true, true, true, true, true, true, true, true, true, true, true, true, false, false, true, true, true, false, true, true, false, false, false, false, false]
abbrev spec_l17Ok.d24 : Array Bool := #[true, true, true, true, true, true, true, true, true, true, true, true, true, true, true, true, true, true, false, false, true, true, true, false, true, true, true, false, false, false, false]
abbrev spec_l17Ok.d25 : Array Bool := #[true, true, true, true, true, true, true, true, true, true, true, true, true, true, true, true, true, true, true, false, true, true, true, false, true, true, true, false, false, false, false]
abbrev spec_l17Ok.d26 : Array Bool := #[true, true, true, true, true, true, true, true, true, true, true, true, true, true, true, true, true, true, true, true, true, true, true, false, true, true, true, false, false, false, false]
abbrev spec_l17Ok.d27 : Array Bool := #[true, true, true, true, true, true, true, true, true, true, true, true, true, true, true, true, true, true, true, true, true, true, true, true, true, true, true, false, false, false, false]
abbrev spec_l17Ok.d28 : Array Bool := #[true, true, true, true, true, true, true, true, true, true, true, true, true, true, true, true, true, true, true, true, true, true, true, true, true, true, true, true, false, false, false]
abbrev spec_l17Ok.d29 : Array Bool := #[true, true, true, true, true, true, true, true, true, true, true, true, true, true, true, true, true, true, true, true, true, true, true, true, true, true, true, true, true, false, false]
abbrev spec_l17Ok.d30 : Array Bool := #[true, true, true, true, true, true, true, true, true, true, true, true, true, true, true, true, true, true, true, true, true, true, true, true, true, true, true, true, true, true, false]
abbrev spec_l17Ok.d31 : Array Bool := #[true, true, true, true, true, true, true, true, true, true, true, true, true, true, true, true, true, true, true, true, true, true, true, true, true, true, true, true, true, true, true]
abbrev spec_l17Ok.d32 : Array Bool := #[true, true, true, true, true, true, true, true, true, true, true, true, true, true, true, true, true, true, true, false, false, false, false, false, false, false, false, false, false, false, false]
abbrev spec_l17Ok.d33 : Array Bool := #[true, true, true, true, true, true, true, true, true, true, true, true, true, true, true, true, true, true, true, true, false, false, false, false, false, false, false, false, false, false, false]
abbrev spec_l17Ok.d34 : Array Bool := #[true, true, true, true, true, true, true, true, true, true, true, true, true, true, true, true, true, true, true, true, true, false, false, false, false, false, false, false, false, false, false]
abbrev spec_l17Ok.d35 : Array Bool := #[true, true, true, true, true, true, true, true, true, true, true, true, true, true, true, true, true, true, true, true, true, true, false, false, false, false, false, false, false, false, false]
abbrev spec_l17Ok.d36 : Array Bool := #[true, true, true, true, true, true, true, true, true, true, true, true, true, true, true, true, true, true, true, true, true, true, true, false, false, false, false, false, false, false, false]
abbrev spec_l17Ok.d37 : Array Bool := #[true, true, true, true, true, true, true, true, true, true, true, true, true, true, true, true, true, true, true, true, true, true, true, true, false, false, false, false, false, false, false]
abbrev spec_l17Ok.d38 : Array Bool := #[true, true, true, true, true, true, true, true, true, true, true, true, true, true, true, true, true, true, true, true, true, true, true, true, true, false, false, false, false, false, false]
abbrev spec_l17Ok.d39 : Array Bool := #[true, true, true, true, true, true, true, true, true, true, true, true, true, true, true, true, true, true, true, true, true, true, true, true, true, true, false, false, false, false, false]
set_option maxHeartbeats 8000000 in
set_option maxRecDepth 100000 in
theorem spec_l17Ok.calls (k : Nat) (A0 : Option Addr) (l0 : List (S29)) (r : Bool) (w : World) (hr0 : Kd.C k29 w A0 l0.length l0) (h : spec_l17Ok.f k l0 = some r) :
 Calls Try.prog 60 #[.pointer A0] w fun e w' => e = .returned (.bool r) ∧ Below w.heap.size w w' := by
 have HR0 := mkA hr0
 clear hr0
 have HB := mkA (Below.refl w.heap.size w)
 have H : (if 0 < (l0.length : Int) then ((spec_l00In.f ((rd_T29 l0 0).f0) 1 12).bind fun t169 => (if t169 = true then ((spec_l00In.f ((rd_T29 l0 0).f1) 1 12).bind fun t171 => (if t171 = true then (spec_l17Ok.j0 k ((((rd_T29 l0 0).f2).length : Int) != (wrap64 (((rd_T29 l0 0).f0) * ((rd_T29 l0 0).f1)))) l0) else (spec_l17Ok.j0 k true l0))) else (spec_l17Ok.j0 k true l0))) else (none)) = some r := h
 clear h
 have HC2 := mkA H
 clear H
 go_enter Try.func60, Try.ntmps60
 go_upto_region 1 with (fail)
 go_cut [35] (fun v35 wc => ∃ (kq : Nat) (x35_1 : Bool), v35 = .bool x35_1 ∧ Aside0 (spec_l17Ok.j0 kq x35_1 l0 = some r) ∧ Aside0 (kq ≤ k) ∧ Aside0 (Below w.heap.size w wc))
 case first =>
  have H := HC2.out
  clear HC2
  by_cases c3 : 0 < (l0.length : Int)
  rotate_left
  · rw [if_neg c3] at H
    exact absurd H (by simp)
  rw [if_pos c3] at H
  have c3b0 : decide (0 < (l0.length : Int)) = true := decide_eq_true c3
  have c3b1 : decide (0 < l0.length) = true := decide_eq_true (by omega)
  clear c3
  (first | rw [c3b0] | (simp only [i64_w, i32_w]; rw [c3b0]) | skip)
  replace H := Option.bind_eq_some_iff.mp H
  obtain ⟨t169, A40, H⟩ := H
  replace H : (if t169 = true then ((spec_l00In.f ((rd_T29 l0 0).f1) 1 12).bind fun t171 => (if t171 = true then (spec_l17Ok.j0 k ((((rd_T29 l0 0).f2).length : Int) != (wrap64 (((rd_T29 l0 0).f0) * ((rd_T29 l0 0).f1)))) l0) else (spec_l17Ok.j0 k true l0))) else (spec_l17Ok.j0 k true l0)) = some r := H
  have A4 := mkA A40
  clear A40
  by_cases c5 : t169 = true
  rotate_left
  · replace c5 := Bool.eq_false_iff.mpr c5
    subst c5
    have H1 : (spec_l17Ok.j0 k true l0) = some r := by rw [if_neg (show ¬ (false = true) by decide)] at H; exact H
    clear H
    have H := H1
    clear H1
    have H' := mkA H
    clear H
    try go_wp2
    have n0_ := mkA (below_drew1 HB.out)
    clear HB
    have HB := n0_
    clear n0_
    have p168 : 0 ≤ (0 : Int) := (by omega)
    have q168 : 0 < (l0.length : Int) := dt_
    obtain ⟨ad168, A168_2, c168_2, e168, hx168_0, hx168_1, hx168_2, hl168_2, hi168_2⟩ := at0_T29 HR0.out q168
    have hw168_2 := hx168_2
    have hw168_1 := hx168_1
    have hw168_0 := hx168_0
    cases e168
    have qi168 : (0 < l0.length) = True := eq_true (by omega)
    replace hx168_0 := bc_ HB.out hx168_0
    replace hx168_1 := bc_ HB.out hx168_1
    replace hx168_2 := bc_ HB.out hx168_2
    have HR168_2 := mkA hi168_2
    have HC168_2 := mkA hl168_2
    clear hi168_2 hl168_2
    replace p168 := eq_true p168
    replace q168 := eq_true q168
    refine start_ (n := 31) (S := fun w' => w'.cell? ad168 = some (.int .i64 ((rd_T29 l0 0).f0)) ∧ w'.cell? ⟨ad168.block, ad168.off + 1, none⟩ = some (.int .i64 ((rd_T29 l0 0).f1)) ∧ w'.cell? ⟨ad168.block, ad168.off + 2, none⟩ = some (.slice A168_2 ((rd_T29 l0 0).f2).length c168_2)) (ds := []) spec_l17Ok.d0 (by kernel_rfl) rfl rfl ⟨(bc_ HB.out hw168_0 :), (bc_ HB.out hw168_1 :), (bc_ HB.out hw168_2 :)⟩ (fun hHeld => ?_); refine with_tabW spec_l17Ok.tab1 spec_l17Ok.bits1 (fun HT_ HW_ => ?_)
    generalize w.drew = w10 at HB HR168_2 hx168_0 hx168_1 hx168_2 hHeld ⊢
    refine p1_ HT_.out 0 5 spec_l17Ok.d1 ?_
    refine p1_ HT_.out 1 6 spec_l17Ok.d2 ?_
    refine p1_ HT_.out 2 7 spec_l17Ok.d3 ?_
    refine take_ (i := 3) (N := some 8) (v := ?_) (a' := ?_) spec_l17Ok.d4 rfl rfl (take_ofW HT_.out HW_.out (by kernel_rfl)) (fun _ _ _ h => h) (Or.inl ⟨by rfl, ?_⟩) hHeld ?_ ?_
    rotate_left
    · rintro w' ⟨s0, s1, s2⟩
      go_simp
      with_reducible rfl
    rotate_left
    · simp only [Act.put, sA, sB, sC, i64_w, i32_w]
      rfl
    refine one_ (i := 4) (N := some 9) spec_l17Ok.d5 rfl rfl (one_of HT_.out (by kernel_rfl)) (by decide) (fun K hK => ?_)
    refine goes_ Try.func57 (by kernel_rfl) rfl #[.int .i64 ((rd_T29 l0 0).f0), .int .i64 1, .int .i64 12] (by rfl) rfl rfl (by (try simp only [List.map_toArray, List.map_cons, List.map_nil]); first | done | rfl | (simp only [List.length_drop, List.length_take]; rfl)) ?_
    with_reducible refine (spec_l00In.calls ((rd_T29 l0 0).f0) 1 12 false _ A4.out).mono ?_
    rintro e w' ⟨rfl, ⟨nd, rfl⟩⟩
    refine ⟨_, rfl, ?_⟩
    refine hK.out _ _ ⟨(bc_ HB.out hw168_0 :), (bc_ HB.out hw168_1 :), (bc_ HB.out hw168_2 :)⟩ (fun hHeld => ?_)
    clear hK K
    refine norm_ (a' := ?_) ?_ ?_
    rotate_left
    · show Act.put _ (some 9) _ = _
      simp only [Act.put, sA, sB, sC, i64_w, i32_w]
      rfl
    refine p1_ HT_.out 5 10 spec_l17Ok.d6 ?_
    refine p1_ HT_.out 6 11 spec_l17Ok.d7 ?_
    refine p0_ HT_.out 7 12 spec_l17Ok.d8 ?_
    refine p0_ HT_.out 8 13 spec_l17Ok.d9 ?_
    refine p0_ HT_.out 9 14 spec_l17Ok.d10 ?_
    refine p0_ HT_.out 10 15 spec_l17Ok.d11 ?_
    refine p0_ HT_.out 11 16 spec_l17Ok.d12 ?_
    refine p0_ HT_.out 12 17 spec_l17Ok.d13 ?_
    refine p1_ HT_.out 13 18 spec_l17Ok.d14 ?_
    refine p1_ HT_.out 14 19 spec_l17Ok.d15 ?_
    refine p0_ HT_.out 15 20 spec_l17Ok.d16 ?_
    refine p0_ HT_.out 16 21 spec_l17Ok.d17 ?_
    refine p0_ HT_.out 17 22 spec_l17Ok.d18 ?_
    refine p0_ HT_.out 18 23 spec_l17Ok.d32 ?_
    refine p0_ HT_.out 19 24 spec_l17Ok.d33 ?_
    refine p0_ HT_.out 20 25 spec_l17Ok.d34 ?_
    refine p0_ HT_.out 21 26 spec_l17Ok.d35 ?_
    refine p0_ HT_.out 22 27 spec_l17Ok.d36 ?_
    refine p0_ HT_.out 23 28 spec_l17Ok.d37 ?_
    refine p0_ HT_.out 24 29 spec_l17Ok.d38 ?_
    refine p0_ HT_.out 25 30 spec_l17Ok.d39 ?_
    refine p0_ HT_.out 26 31 spec_l17Ok.d27 ?_
    refine p0_ HT_.out 27 32 spec_l17Ok.d28 ?_
    refine p0_ HT_.out 28 33 spec_l17Ok.d29 ?_
    refine p0_ HT_.out 29 34 spec_l17Ok.d30 ?_
    refine p1_ HT_.out 30 35 spec_l17Ok.d31 ?_
    refine done_ (done_of HT_.out (by kernel_rfl)) ?_
    try go_wp2
    go_meet
    case rel => exact ⟨_, (true), (by first | rfl | (simp; done) | (simp [*]; done) | (simp [i64_w, i32_w]; done)), H', ⟨by first | omega | exact Nat.le_refl _⟩, ⟨by repeat (first | (with_reducible first | exact HB.out | apply below_alloc | apply pw_below_drewN | apply below_drew1) | exact HB.out)⟩⟩
  subst c5
  have H1 : ((spec_l00In.f ((rd_T29 l0 0).f1) 1 12).bind fun t171 => (if t171 = true then (spec_l17Ok.j0 k ((((rd_T29 l0 0).f2).length : Int) != (wrap64 (((rd_T29 l0 0).f0) * ((rd_T29 l0 0).f1)))) l0) else (spec_l17Ok.j0 k true l0))) = some r := by rw [if_pos rfl] at H; exact H
  clear H
  have H := H1
  clear H1
  replace H := Option.bind_eq_some_iff.mp H
  obtain ⟨t171, A60, H⟩ := H
  replace H : (if t171 = true then (spec_l17Ok.j0 k ((((rd_T29 l0 0).f2).length : Int) != (wrap64 (((rd_T29 l0 0).f0) * ((rd_T29 l0 0).f1)))) l0) else (spec_l17Ok.j0 k true l0)) = some r := H
  have A6 := mkA A60
  clear A60
  by_cases c7 : t171 = true
  rotate_left
  · replace c7 := Bool.eq_false_iff.mpr c7
    subst c7
    have H1 : (spec_l17Ok.j0 k true l0) = some r := by rw [if_neg (show ¬ (false = true) by decide)] at H; exact H
    clear H
    have H := H1
    clear H1
    have H' := mkA H
    clear H
    try go_wp2
    have n0_ := mkA (below_drew1 HB.out)
    clear HB
    have HB := n0_
    clear n0_
    have p168 : 0 ≤ (0 : Int) := (by omega)
    have q168 : 0 < (l0.length : Int) := dt_
    obtain ⟨ad168, A168_2, c168_2, e168, hx168_0, hx168_1, hx168_2, hl168_2, hi168_2⟩ := at0_T29 HR0.out q168
    have hw168_2 := hx168_2
    have hw168_1 := hx168_1
    have hw168_0 := hx168_0
    cases e168
    have qi168 : (0 < l0.length) = True := eq_true (by omega)
    replace hx168_0 := bc_ HB.out hx168_0
    replace hx168_1 := bc_ HB.out hx168_1
    replace hx168_2 := bc_ HB.out hx168_2
    have HR168_2 := mkA hi168_2
    have HC168_2 := mkA hl168_2
    clear hi168_2 hl168_2
    replace p168 := eq_true p168
    replace q168 := eq_true q168
    have p170 : 0 ≤ (0 : Int) := (by omega)
    have q170 : 0 < (l0.length : Int) := dt_
    obtain ⟨ad170, A170_2, c170_2, e170, hx170_0, hx170_1, hx170_2, hl170_2, hi170_2⟩ := at0_T29 HR0.out q170
    have hw170_2 := hx170_2
    have hw170_1 := hx170_1
    have hw170_0 := hx170_0
    obtain rfl : ad168 = ad170 := (by injection e170)
    have qi170 : (0 < l0.length) = True := eq_true (by omega)
    replace hx170_0 := bc_ HB.out hx170_0
    replace hx170_1 := bc_ HB.out hx170_1
    replace hx170_2 := bc_ HB.out hx170_2
    have HR170_2 := mkA hi170_2
    have HC170_2 := mkA hl170_2
    clear hi170_2 hl170_2
    replace p170 := eq_true p170
    replace q170 := eq_true q170
    have ea_ := Option.some.inj (hx168_2.symm.trans hx170_2)
    injection ea_ with ea_ en_ ec_
    subst ea_
    subst ec_
    clear en_
    refine start_ (n := 31) (S := fun w' => w'.cell? ad168 = some (.int .i64 ((rd_T29 l0 0).f0)) ∧ w'.cell? ⟨ad168.block, ad168.off + 1, none⟩ = some (.int .i64 ((rd_T29 l0 0).f1)) ∧ w'.cell? ⟨ad168.block, ad168.off + 2, none⟩ = some (.slice A168_2 ((rd_T29 l0 0).f2).length c168_2) ∧ w'.cell? ad168 = some (.int .i64 ((rd_T29 l0 0).f0)) ∧ w'.cell? ⟨ad168.block, ad168.off + 1, none⟩ = some (.int .i64 ((rd_T29 l0 0).f1)) ∧ w'.cell? ⟨ad168.block, ad168.off + 2, none⟩ = some (.slice A168_2 ((rd_T29 l0 0).f2).length c168_2)) (ds := []) spec_l17Ok.d0 (by kernel_rfl) rfl rfl ⟨(bc_ HB.out hw168_0 :), (bc_ HB.out hw168_1 :), (bc_ HB.out hw168_2 :), (bc_ HB.out hw170_0 :), (bc_ HB.out hw170_1 :), (bc_ HB.out hw170_2 :)⟩ (fun hHeld => ?_); refine with_tabW spec_l17Ok.tab1 spec_l17Ok.bits1 (fun HT_ HW_ => ?_)
    generalize w.drew = w9 at HB HR168_2 HR170_2 hx168_0 hx168_1 hx168_2 hx170_0 hx170_1 hx170_2 hHeld ⊢
    refine p1_ HT_.out 0 5 spec_l17Ok.d1 ?_
    refine p1_ HT_.out 1 6 spec_l17Ok.d2 ?_
    refine p1_ HT_.out 2 7 spec_l17Ok.d3 ?_
    refine take_ (i := 3) (N := some 8) (v := ?_) (a' := ?_) spec_l17Ok.d4 rfl rfl (take_ofW HT_.out HW_.out (by kernel_rfl)) (fun _ _ _ h => h) (Or.inl ⟨by rfl, ?_⟩) hHeld ?_ ?_
    rotate_left
    · rintro w' ⟨s0, s1, s2, s3, s4, s5⟩
      go_simp
      with_reducible rfl
    rotate_left
    · simp only [Act.put, sA, sB, sC, i64_w, i32_w]
      rfl
    refine one_ (i := 4) (N := some 9) spec_l17Ok.d5 rfl rfl (one_of HT_.out (by kernel_rfl)) (by decide) (fun K hK => ?_)
    refine goes_ Try.func57 (by kernel_rfl) rfl #[.int .i64 ((rd_T29 l0 0).f0), .int .i64 1, .int .i64 12] (by rfl) rfl rfl (by (try simp only [List.map_toArray, List.map_cons, List.map_nil]); first | done | rfl | (simp only [List.length_drop, List.length_take]; rfl)) ?_
    with_reducible refine (spec_l00In.calls ((rd_T29 l0 0).f0) 1 12 true _ A4.out).mono ?_
    rintro e w' ⟨rfl, ⟨nd, rfl⟩⟩
    refine ⟨_, rfl, ?_⟩
    refine hK.out _ _ ⟨(bc_ HB.out hw168_0 :), (bc_ HB.out hw168_1 :), (bc_ HB.out hw168_2 :), (bc_ HB.out hw170_0 :), (bc_ HB.out hw170_1 :), (bc_ HB.out hw170_2 :)⟩ (fun hHeld => ?_)
    clear hK K
    refine norm_ (a' := ?_) ?_ ?_
    rotate_left
    · show Act.put _ (some 9) _ = _
      simp only [Act.put, sA, sB, sC, i64_w, i32_w]
      rfl
    refine p1_ HT_.out 5 10 spec_l17Ok.d6 ?_
    refine p1_ HT_.out 6 11 spec_l17Ok.d7 ?_
    refine p1_ HT_.out 7 12 spec_l17Ok.d8 ?_
    refine p1_ HT_.out 8 13 spec_l17Ok.d9 ?_
    refine p1_ HT_.out 9 14 spec_l17Ok.d10 ?_
    refine take_ (i := 10) (N := some 15) (v := ?_) (a' := ?_) spec_l17Ok.d11 rfl rfl (take_ofW HT_.out HW_.out (by kernel_rfl)) (fun _ _ _ h => h) (Or.inl ⟨by rfl, ?_⟩) hHeld ?_ ?_
    rotate_left
    · rintro w' ⟨s0, s1, s2, s3, s4, s5⟩
      go_simp
      with_reducible rfl
    rotate_left
    · simp only [Act.put, sA, sB, sC, i64_w, i32_w]
      rfl
    refine one_ (i := 11) (N := some 16) spec_l17Ok.d12 rfl rfl (one_of HT_.out (by kernel_rfl)) (by decide) (fun K hK => ?_)
    refine goes_ Try.func57 (by kernel_rfl) rfl #[.int .i64 ((rd_T29 l0 0).f1), .int .i64 1, .int .i64 12] (by rfl) rfl rfl (by (try simp only [List.map_toArray, List.map_cons, List.map_nil]); first | done | rfl | (simp only [List.length_drop, List.length_take]; rfl)) ?_
    with_reducible refine (spec_l00In.calls ((rd_T29 l0 0).f1) 1 12 false _ A6.out).mono ?_
    rintro e w' ⟨rfl, ⟨nd, rfl⟩⟩
    refine ⟨_, rfl, ?_⟩
    refine hK.out _ _ ⟨(bc_ HB.out hw168_0 :), (bc_ HB.out hw168_1 :), (bc_ HB.out hw168_2 :), (bc_ HB.out hw170_0 :), (bc_ HB.out hw170_1 :), (bc_ HB.out hw170_2 :)⟩ (fun hHeld => ?_)
    clear hK K
    refine norm_ (a' := ?_) ?_ ?_
    rotate_left
    · show Act.put _ (some 16) _ = _
      simp only [Act.put, sA, sB, sC, i64_w, i32_w]
      rfl
    refine p1_ HT_.out 12 17 spec_l17Ok.d13 ?_
    refine p1_ HT_.out 13 18 spec_l17Ok.d14 ?_
    refine p1_ HT_.out 14 19 spec_l17Ok.d15 ?_
    refine p0_ HT_.out 15 20 spec_l17Ok.d16 ?_
    refine p0_ HT_.out 16 21 spec_l17Ok.d17 ?_
    refine p0_ HT_.out 17 22 spec_l17Ok.d18 ?_
    refine p0_ HT_.out 18 23 spec_l17Ok.d32 ?_
    refine p0_ HT_.out 19 24 spec_l17Ok.d33 ?_
    refine p0_ HT_.out 20 25 spec_l17Ok.d34 ?_
    refine p0_ HT_.out 21 26 spec_l17Ok.d35 ?_
    refine p0_ HT_.out 22 27 spec_l17Ok.d36 ?_
    refine p0_ HT_.out 23 28 spec_l17Ok.d37 ?_
    refine p0_ HT_.out 24 29 spec_l17Ok.d38 ?_
    refine p0_ HT_.out 25 30 spec_l17Ok.d39 ?_
    refine p0_ HT_.out 26 31 spec_l17Ok.d27 ?_
    refine p0_ HT_.out 27 32 spec_l17Ok.d28 ?_
    refine p0_ HT_.out 28 33 spec_l17Ok.d29 ?_
    refine p0_ HT_.out 29 34 spec_l17Ok.d30 ?_
    refine p1_ HT_.out 30 35 spec_l17Ok.d31 ?_
    refine done_ (done_of HT_.out (by kernel_rfl)) ?_
    try go_wp2
    go_meet
    case rel => exact ⟨_, (true), (by first | rfl | (simp; done) | (simp [*]; done) | (simp [i64_w, i32_w]; done)), H', ⟨by first | omega | exact Nat.le_refl _⟩, ⟨by repeat (first | (with_reducible first | exact HB.out | apply below_alloc | apply pw_below_drewN | apply below_drew1) | exact HB.out)⟩⟩
  subst c7
  have H1 : (spec_l17Ok.j0 k ((((rd_T29 l0 0).f2).length : Int) != (wrap64 (((rd_T29 l0 0).f0) * ((rd_T29 l0 0).f1)))) l0) = some r := by rw [if_pos rfl] at H; exact H
  clear H
  have H := H1
  clear H1
  have H' := mkA H
  clear H
  try go_wp2
  have n0_ := mkA (below_drew1 HB.out)
  clear HB
  have HB := n0_
  clear n0_
  have p168 : 0 ≤ (0 : Int) := (by omega)
  have q168 : 0 < (l0.length : Int) := dt_
  obtain ⟨ad168, A168_2, c168_2, e168, hx168_0, hx168_1, hx168_2, hl168_2, hi168_2⟩ := at0_T29 HR0.out q168
  have hw168_2 := hx168_2
  have hw168_1 := hx168_1
  have hw168_0 := hx168_0
  cases e168
  have qi168 : (0 < l0.length) = True := eq_true (by omega)
  replace hx168_0 := bc_ HB.out hx168_0
  replace hx168_1 := bc_ HB.out hx168_1
  replace hx168_2 := bc_ HB.out hx168_2
  have HR168_2 := mkA hi168_2
  have HC168_2 := mkA hl168_2
  clear hi168_2 hl168_2
  replace p168 := eq_true p168
  replace q168 := eq_true q168
  have p170 : 0 ≤ (0 : Int) := (by omega)
  have q170 : 0 < (l0.length : Int) := dt_
  obtain ⟨ad170, A170_2, c170_2, e170, hx170_0, hx170_1, hx170_2, hl170_2, hi170_2⟩ := at0_T29 HR0.out q170
  have hw170_2 := hx170_2
  have hw170_1 := hx170_1
  have hw170_0 := hx170_0
  obtain rfl : ad168 = ad170 := (by injection e170)
  have qi170 : (0 < l0.length) = True := eq_true (by omega)
  replace hx170_0 := bc_ HB.out hx170_0
  replace hx170_1 := bc_ HB.out hx170_1
  replace hx170_2 := bc_ HB.out hx170_2
  have HR170_2 := mkA hi170_2
  have HC170_2 := mkA hl170_2
  clear hi170_2 hl170_2
  replace p170 := eq_true p170
  replace q170 := eq_true q170
  have ea_ := Option.some.inj (hx168_2.symm.trans hx170_2)
  injection ea_ with ea_ en_ ec_
  subst ea_
  subst ec_
  clear en_
  have p172 : 0 ≤ (0 : Int) := (by omega)
  have q172 : 0 < (l0.length : Int) := dt_
  obtain ⟨ad172, A172_2, c172_2, e172, hx172_0, hx172_1, hx172_2, hl172_2, hi172_2⟩ := at0_T29 HR0.out q172
  have hw172_2 := hx172_2
  have hw172_1 := hx172_1
  have hw172_0 := hx172_0
  obtain rfl : ad168 = ad172 := (by injection e172)
  have qi172 : (0 < l0.length) = True := eq_true (by omega)
  replace hx172_0 := bc_ HB.out hx172_0
  replace hx172_1 := bc_ HB.out hx172_1
  replace hx172_2 := bc_ HB.out hx172_2
  have HR172_2 := mkA hi172_2
  have HC172_2 := mkA hl172_2
  clear hi172_2 hl172_2
  replace p172 := eq_true p172
  replace q172 := eq_true q172
  have ea_ := Option.some.inj (hx168_2.symm.trans hx172_2)
  injection ea_ with ea_ en_ ec_
  subst ea_
  subst ec_
  clear en_
  have p173 : 0 ≤ (0 : Int) := (by omega)
  have q173 : 0 < (l0.length : Int) := dt_
  obtain ⟨ad173, A173_2, c173_2, e173, hx173_0, hx173_1, hx173_2, hl173_2, hi173_2⟩ := at0_T29 HR0.out q173
  have hw173_2 := hx173_2
  have hw173_1 := hx173_1
  have hw173_0 := hx173_0
  obtain rfl : ad168 = ad173 := (by injection e173)
  have qi173 : (0 < l0.length) = True := eq_true (by omega)
  replace hx173_0 := bc_ HB.out hx173_0
  replace hx173_1 := bc_ HB.out hx173_1
  replace hx173_2 := bc_ HB.out hx173_2
  have HR173_2 := mkA hi173_2
  have HC173_2 := mkA hl173_2
  clear hi173_2 hl173_2
  replace p173 := eq_true p173
  replace q173 := eq_true q173
  have ea_ := Option.some.inj (hx168_2.symm.trans hx173_2)
  injection ea_ with ea_ en_ ec_
  subst ea_
  subst ec_
  clear en_
  have p174 : 0 ≤ (0 : Int) := (by omega)
  have q174 : 0 < (l0.length : Int) := dt_
  obtain ⟨ad174, A174_2, c174_2, e174, hx174_0, hx174_1, hx174_2, hl174_2, hi174_2⟩ := at0_T29 HR0.out q174
  have hw174_2 := hx174_2
  have hw174_1 := hx174_1
  have hw174_0 := hx174_0
  obtain rfl : ad168 = ad174 := (by injection e174)
  have qi174 : (0 < l0.length) = True := eq_true (by omega)
  replace hx174_0 := bc_ HB.out hx174_0
  replace hx174_1 := bc_ HB.out hx174_1
  replace hx174_2 := bc_ HB.out hx174_2
  have HR174_2 := mkA hi174_2
  have HC174_2 := mkA hl174_2
  clear hi174_2 hl174_2
  replace p174 := eq_true p174
  replace q174 := eq_true q174
  have ea_ := Option.some.inj (hx168_2.symm.trans hx174_2)
  injection ea_ with ea_ en_ ec_
  subst ea_
  subst ec_
  clear en_
  refine start_ (n := 31) (S := fun w' => w'.cell? ad168 = some (.int .i64 ((rd_T29 l0 0).f0)) ∧ w'.cell? ⟨ad168.block, ad168.off + 1, none⟩ = some (.int .i64 ((rd_T29 l0 0).f1)) ∧ w'.cell? ⟨ad168.block, ad168.off + 2, none⟩ = some (.slice A168_2 ((rd_T29 l0 0).f2).length c168_2) ∧ w'.cell? ad168 = some (.int .i64 ((rd_T29 l0 0).f0)) ∧ w'.cell? ⟨ad168.block, ad168.off + 1, none⟩ = some (.int .i64 ((rd_T29 l0 0).f1)) ∧ w'.cell? ⟨ad168.block, ad168.off + 2, none⟩ = some (.slice A168_2 ((rd_T29 l0 0).f2).length c168_2) ∧ w'.cell? ad168 = some (.int .i64 ((rd_T29 l0 0).f0)) ∧ w'.cell? ⟨ad168.block, ad168.off + 1, none⟩ = some (.int .i64 ((rd_T29 l0 0).f1)) ∧ w'.cell? ⟨ad168.block, ad168.off + 2, none⟩ = some (.slice A168_2 ((rd_T29 l0 0).f2).length c168_2) ∧ w'.cell? ad168 = some (.int .i64 ((rd_T29 l0 0).f0)) ∧ w'.cell? ⟨ad168.block, ad168.off + 1, none⟩ = some (.int .i64 ((rd_T29 l0 0).f1)) ∧ w'.cell? ⟨ad168.block, ad168.off + 2, none⟩ = some (.slice A168_2 ((rd_T29 l0 0).f2).length c168_2) ∧ w'.cell? ad168 = some (.int .i64 ((rd_T29 l0 0).f0)) ∧ w'.cell? ⟨ad168.block, ad168.off + 1, none⟩ = some (.int .i64 ((rd_T29 l0 0).f1)) ∧ w'.cell? ⟨ad168.block, ad168.off + 2, none⟩ = some (.slice A168_2 ((rd_T29 l0 0).f2).length c168_2)) (ds := []) spec_l17Ok.d0 (by kernel_rfl) rfl rfl ⟨(bc_ HB.out hw168_0 :), (bc_ HB.out hw168_1 :), (bc_ HB.out hw168_2 :), (bc_ HB.out hw170_0 :), (bc_ HB.out hw170_1 :), (bc_ HB.out hw170_2 :), (bc_ HB.out hw172_0 :), (bc_ HB.out hw172_1 :), (bc_ HB.out hw172_2 :), (bc_ HB.out hw173_0 :), (bc_ HB.out hw173_1 :), (bc_ HB.out hw173_2 :), (bc_ HB.out hw174_0 :), (bc_ HB.out hw174_1 :), (bc_ HB.out hw174_2 :)⟩ (fun hHeld => ?_); refine with_tabW spec_l17Ok.tab1 spec_l17Ok.bits1 (fun HT_ HW_ => ?_)
  generalize w.drew = w8 at HB HR168_2 HR170_2 HR172_2 HR173_2 HR174_2 hx168_0 hx168_1 hx168_2 hx170_0 hx170_1 hx170_2 hx172_0 hx172_1 hx172_2 hx173_0 hx173_1 hx173_2 hx174_0 hx174_1 hx174_2 hHeld ⊢
  refine p1_ HT_.out 0 5 spec_l17Ok.d1 ?_
  refine p1_ HT_.out 1 6 spec_l17Ok.d2 ?_
  refine p1_ HT_.out 2 7 spec_l17Ok.d3 ?_
  refine take_ (i := 3) (N := some 8) (v := ?_) (a' := ?_) spec_l17Ok.d4 rfl rfl (take_ofW HT_.out HW_.out (by kernel_rfl)) (fun _ _ _ h => h) (Or.inl ⟨by rfl, ?_⟩) hHeld ?_ ?_
  rotate_left
  · rintro w' ⟨s0, s1, s2, s3, s4, s5, s6, s7, s8, s9, s10, s11, s12, s13, s14⟩
    go_simp
    with_reducible rfl
  rotate_left
  · simp only [Act.put, sA, sB, sC, i64_w, i32_w]
    rfl
  refine one_ (i := 4) (N := some 9) spec_l17Ok.d5 rfl rfl (one_of HT_.out (by kernel_rfl)) (by decide) (fun K hK => ?_)
  refine goes_ Try.func57 (by kernel_rfl) rfl #[.int .i64 ((rd_T29 l0 0).f0), .int .i64 1, .int .i64 12] (by rfl) rfl rfl (by (try simp only [List.map_toArray, List.map_cons, List.map_nil]); first | done | rfl | (simp only [List.length_drop, List.length_take]; rfl)) ?_
  with_reducible refine (spec_l00In.calls ((rd_T29 l0 0).f0) 1 12 true _ A4.out).mono ?_
  rintro e w' ⟨rfl, ⟨nd, rfl⟩⟩
  refine ⟨_, rfl, ?_⟩
  refine hK.out _ _ ⟨(bc_ HB.out hw168_0 :), (bc_ HB.out hw168_1 :), (bc_ HB.out hw168_2 :), (bc_ HB.out hw170_0 :), (bc_ HB.out hw170_1 :), (bc_ HB.out hw170_2 :), (bc_ HB.out hw172_0 :), (bc_ HB.out hw172_1 :), (bc_ HB.out hw172_2 :), (bc_ HB.out hw173_0 :), (bc_ HB.out hw173_1 :), (bc_ HB.out hw173_2 :), (bc_ HB.out hw174_0 :), (bc_ HB.out hw174_1 :), (bc_ HB.out hw174_2 :)⟩ (fun hHeld => ?_)
  clear hK K
  refine norm_ (a' := ?_) ?_ ?_
  rotate_left
  · show Act.put _ (some 9) _ = _
    simp only [Act.put, sA, sB, sC, i64_w, i32_w]
    rfl
  refine p1_ HT_.out 5 10 spec_l17Ok.d6 ?_
  refine p1_ HT_.out 6 11 spec_l17Ok.d7 ?_
  refine p1_ HT_.out 7 12 spec_l17Ok.d8 ?_
  refine p1_ HT_.out 8 13 spec_l17Ok.d9 ?_
  refine p1_ HT_.out 9 14 spec_l17Ok.d10 ?_
  refine take_ (i := 10) (N := some 15) (v := ?_) (a' := ?_) spec_l17Ok.d11 rfl rfl (take_ofW HT_.out HW_.out (by kernel_rfl)) (fun _ _ _ h => h) (Or.inl ⟨by rfl, ?_⟩) hHeld ?_ ?_
  rotate_left
  · rintro w' ⟨s0, s1, s2, s3, s4, s5, s6, s7, s8, s9, s10, s11, s12, s13, s14⟩
    go_simp
    with_reducible rfl
  rotate_left
  · simp only [Act.put, sA, sB, sC, i64_w, i32_w]
    rfl
  refine one_ (i := 11) (N := some 16) spec_l17Ok.d12 rfl rfl (one_of HT_.out (by kernel_rfl)) (by decide) (fun K hK => ?_)
  refine goes_ Try.func57 (by kernel_rfl) rfl #[.int .i64 ((rd_T29 l0 0).f1), .int .i64 1, .int .i64 12] (by rfl) rfl rfl (by (try simp only [List.map_toArray, List.map_cons, List.map_nil]); first | done | rfl | (simp only [List.length_drop, List.length_take]; rfl)) ?_
  with_reducible refine (spec_l00In.calls ((rd_T29 l0 0).f1) 1 12 true _ A6.out).mono ?_
  rintro e w' ⟨rfl, ⟨nd, rfl⟩⟩
  refine ⟨_, rfl, ?_⟩
  refine hK.out _ _ ⟨(bc_ HB.out hw168_0 :), (bc_ HB.out hw168_1 :), (bc_ HB.out hw168_2 :), (bc_ HB.out hw170_0 :), (bc_ HB.out hw170_1 :), (bc_ HB.out hw170_2 :), (bc_ HB.out hw172_0 :), (bc_ HB.out hw172_1 :), (bc_ HB.out hw172_2 :), (bc_ HB.out hw173_0 :), (bc_ HB.out hw173_1 :), (bc_ HB.out hw173_2 :), (bc_ HB.out hw174_0 :), (bc_ HB.out hw174_1 :), (bc_ HB.out hw174_2 :)⟩ (fun hHeld => ?_)
  clear hK K
  refine norm_ (a' := ?_) ?_ ?_
  rotate_left
  · show Act.put _ (some 16) _ = _
    simp only [Act.put, sA, sB, sC, i64_w, i32_w]
    rfl
  refine p1_ HT_.out 12 17 spec_l17Ok.d13 ?_
  refine p1_ HT_.out 13 18 spec_l17Ok.d14 ?_
  refine p1_ HT_.out 14 19 spec_l17Ok.d15 ?_
  refine p1_ HT_.out 15 20 spec_l17Ok.d16 ?_
  refine p1_ HT_.out 16 21 spec_l17Ok.d17 ?_
  refine p1_ HT_.out 17 22 spec_l17Ok.d18 ?_
  refine p1_ HT_.out 20 25 spec_l17Ok.d19 ?_
  refine p1_ HT_.out 21 26 spec_l17Ok.d20 ?_
  refine p1_ HT_.out 22 27 spec_l17Ok.d21 ?_
  refine p1_ HT_.out 24 29 spec_l17Ok.d22 ?_
  refine p1_ HT_.out 25 30 spec_l17Ok.d23 ?_
  refine p1_ HT_.out 26 31 spec_l17Ok.d24 ?_
  refine take_ (i := 18) (N := some 23) (v := ?_) (a' := ?_) spec_l17Ok.d25 rfl rfl (take_ofW HT_.out HW_.out (by kernel_rfl)) (fun _ _ _ h => h) (Or.inl ⟨by rfl, ?_⟩) hHeld ?_ ?_
  rotate_left
  · rintro w' ⟨s0, s1, s2, s3, s4, s5, s6, s7, s8, s9, s10, s11, s12, s13, s14⟩
    go_simp
    with_reducible rfl
  rotate_left
  · simp only [Act.put, sA, sB, sC, i64_w, i32_w]
    rfl
  refine p1_ HT_.out 19 24 spec_l17Ok.d26 ?_
  refine take_ (i := 23) (N := some 28) (v := ?_) (a' := ?_) spec_l17Ok.d27 rfl rfl (take_ofW HT_.out HW_.out (by kernel_rfl)) (fun _ _ _ h => h) (Or.inl ⟨by rfl, ?_⟩) hHeld ?_ ?_
  rotate_left
  · rintro w' ⟨s0, s1, s2, s3, s4, s5, s6, s7, s8, s9, s10, s11, s12, s13, s14⟩
    go_simp
    with_reducible rfl
  rotate_left
  · simp only [Act.put, sA, sB, sC, i64_w, i32_w]
    rfl
  refine take_ (i := 27) (N := some 32) (v := ?_) (a' := ?_) spec_l17Ok.d28 rfl rfl (take_ofW HT_.out HW_.out (by kernel_rfl)) (fun _ _ _ h => h) (Or.inl ⟨by rfl, ?_⟩) hHeld ?_ ?_
  rotate_left
  · rintro w' ⟨s0, s1, s2, s3, s4, s5, s6, s7, s8, s9, s10, s11, s12, s13, s14⟩
    go_simp
    with_reducible rfl
  rotate_left
  · simp only [Act.put, sA, sB, sC, i64_w, i32_w]
    rfl
  refine p1_ HT_.out 28 33 spec_l17Ok.d29 ?_
  refine p1_ HT_.out 29 34 spec_l17Ok.d30 ?_
  refine p1_ HT_.out 30 35 spec_l17Ok.d31 ?_
  refine done_ (done_of HT_.out (by kernel_rfl)) ?_
  try go_wp2
  go_meet
  case rel => exact ⟨_, (((((rd_T29 l0 0).f2).length : Int) != (wrap64 (((rd_T29 l0 0).f0) * ((rd_T29 l0 0).f1))))), (by first | rfl | (simp; done) | (simp [*]; done) | (simp [i64_w, i32_w]; done)), H', ⟨by first | omega | exact Nat.le_refl _⟩, ⟨by repeat (first | (with_reducible first | exact HB.out | apply below_alloc | apply pw_below_drewN | apply below_drew1) | exact HB.out)⟩⟩
 case rest =>
  clear HC2
  try clear c1
  try clear p1
  try clear q1
  try clear hx1
  try clear qi1
  try clear p2
  try clear c3
  try clear c5
  try clear p6
  try clear c7
  try clear hx168_0
  try clear hx168_1
  try clear hx168_2
  try clear hx170_0
  try clear hx170_1
  try clear hx170_2
  try clear p168
  try clear p170
  try clear q168
  try clear q170
  obtain ⟨kq, x35_1, rfl, HA, HJ1, HB⟩ := hcut
  cases kq with
  | zero => exact absurd HA.out (by simp [spec_l17Ok.j0])
  | succ kj1 =>
   have H := HA.out
   clear HA
   simp only [spec_l17Ok.j0] at H
   by_cases c11 : x35_1 = true
   · subst c11
     have H1 : (some false) = some r := by rw [if_pos rfl] at H; exact H
     clear H
     have H := H1
     clear H1
     obtain rfl := Option.some.inj H
     go_wp2
     go_ret
     exact ⟨by first | rfl | (simp [errW_none, errW_some] <;> rfl) | (simp [*, errW_none, errW_some] <;> rfl), by repeat (first | (with_reducible first | exact HB.out | apply below_alloc | apply pw_below_drewN | apply below_drew1) | exact HB.out)⟩
   · replace c11 := Bool.eq_false_iff.mpr c11
     subst c11
     have H1 : ((spec_l17Most.f kj1 l0).bind fun t175 => (spec_l17Ok.l0 kj1 t175 0 l0)) = some r := by rw [if_neg (show ¬ (false = true) by decide)] at H; exact H
     clear H
     have H := H1
     clear H1
     replace H := Option.bind_eq_some_iff.mp H
     obtain ⟨t175, A120, H⟩ := H
     replace H : (spec_l17Ok.l0 kj1 t175 0 l0) = some r := H
     have A12 := mkA A120
     clear A120
     have H' := mkA H
     clear H
     go_wp2_with (first | ((with_reducible refine gate_callee (f := 88) rfl ?_); refine goesL_ (some 37) rfl rfl Try.func88 (by kernel_rfl) rfl #[.pointer A0] rfl (by (try simp only [List.map_toArray, List.map_cons, List.map_nil]); first | done | rfl | (simp only [List.length_drop, List.length_take]; rfl)) ?_; (with_reducible refine (spec_l17Most.calls kj1 _ l0 t175 _ ?side1 A12.out).mono ?_); (case side1 => exact cb_ HR0.out HB.out); rintro e w' ⟨rfl, ⟨nd, rfl⟩⟩; refine ⟨_, rfl, ?_⟩))
     go_loopg [4] kj1 (fun kq v4 w' => ∃ (x4_2 : Int), v4 = .int .i64 x4_2 ∧ Aside0 (spec_l17Ok.l0 kq t175 x4_2 l0 = some r) ∧ Aside0 (kq ≤ kj1) ∧ Aside0 (Below w.heap.size w w'))
     case atStart => exact ⟨(0), (by first | rfl | (simp; done) | (simp [*]; done) | (simp [i64_w, i32_w]; done)), H', ⟨Nat.le_refl _⟩, ⟨by repeat (first | (with_reducible first | exact HB.out | apply below_alloc | apply pw_below_drewN | apply below_drew1) | exact HB.out)⟩⟩
     case round =>
      clear H'
      try clear c1
      try clear p1
      try clear q1
      try clear hx1
      try clear qi1
      try clear p2
      try clear c3
      try clear c5
      try clear p6
      try clear c7
      try clear c8
      try clear c11
      try clear hx168_0
      try clear hx168_1
      try clear hx168_2
      try clear hx170_0
      try clear hx170_1
      try clear hx170_2
      try clear p1
      try clear p168
      try clear p170
      try clear p2
      try clear p6
      try clear q1
      try clear q168
      try clear q170
      obtain ⟨x4_2, rfl, HA, HK2, HB⟩ := hrel
      cases gk with
      | zero => exact absurd HA.out (by simp [spec_l17Ok.l0])
      | succ k2 =>
       have H := HA.out
       clear HA
       simp only [spec_l17Ok.l0] at H
       by_cases c13 : x4_2 < t175
       rotate_left
       · rw [if_neg c13] at H
         have c13b0 : decide (x4_2 < t175) = false := decide_eq_false c13
         clear c13
         obtain rfl := Option.some.inj H
         go_wp2
         go_ret
         exact ⟨by first | rfl | (simp [errW_none, errW_some] <;> rfl) | (simp [*, errW_none, errW_some] <;> rfl), by repeat (first | (with_reducible first | exact HB.out | apply below_alloc | apply pw_below_drewN | apply below_drew1) | exact HB.out)⟩

       rw [if_pos c13] at H
       have c13b0 : decide (x4_2 < t175) = true := decide_eq_true c13
       clear c13
       replace H := Option.bind_eq_some_iff.mp H
       obtain ⟨t176, A140, H⟩ := H
       replace H : (if t176 = true then (spec_l17Ok.l0 k2 t175 (wrap64 (x4_2 + 1)) l0) else (some false)) = some r := H
       have A14 := mkA A140
       clear A140
       by_cases c15 : t176 = true
       rotate_left
       · replace c15 := Bool.eq_false_iff.mpr c15
         subst c15
         have H1 : (some false) = some r := by rw [if_neg (show ¬ (false = true) by decide)] at H; exact H
         clear H
         have H := H1
         clear H1
         obtain rfl := Option.some.inj H
         go_wp2_with (first | ((with_reducible refine gate_callee (f := 89) rfl ?_); refine goesL_ (some 45) rfl rfl Try.func89 (by kernel_rfl) rfl #[.pointer A0, .int .i64 x4_2] rfl (by (try simp only [List.map_toArray, List.map_cons, List.map_nil]); first | done | rfl | (simp only [List.length_drop, List.length_take]; rfl)) ?_; (with_reducible refine (spec_l17Joined.calls k2 _ l0 x4_2 false _ ?side1 A14.out).mono ?_); (case side1 => exact cb_ HR0.out HB.out); rintro e w17 ⟨rfl, hb⟩; refine ⟨_, rfl, ?_⟩; have n0_ := mkA (below_step (bs0_ HB.out) hb); clear HB; have HB := n0_; clear n0_; (try clear hb); (try clear hb2); (try clear hk); (try clear hi)))
         go_ret
         exact ⟨by first | rfl | (simp [errW_none, errW_some] <;> rfl) | (simp [*, errW_none, errW_some] <;> rfl), by repeat (first | (with_reducible first | exact HB.out | apply below_alloc | apply pw_below_drewN | apply below_drew1) | exact HB.out)⟩
       subst c15
       have H1 : (spec_l17Ok.l0 k2 t175 (wrap64 (x4_2 + 1)) l0) = some r := by rw [if_pos rfl] at H; exact H
       clear H
       have H := H1
       clear H1
       have H' := mkA H
       clear H
       go_wp2_with (first | ((with_reducible refine gate_callee (f := 89) rfl ?_); refine goesL_ (some 45) rfl rfl Try.func89 (by kernel_rfl) rfl #[.pointer A0, .int .i64 x4_2] rfl (by (try simp only [List.map_toArray, List.map_cons, List.map_nil]); first | done | rfl | (simp only [List.length_drop, List.length_take]; rfl)) ?_; (with_reducible refine (spec_l17Joined.calls k2 _ l0 x4_2 true _ ?side1 A14.out).mono ?_); (case side1 => exact cb_ HR0.out HB.out); rintro e w16 ⟨rfl, hb⟩; refine ⟨_, rfl, ?_⟩; have n0_ := mkA (below_step (bs0_ HB.out) hb); clear HB; have HB := n0_; clear n0_; (try clear hb); (try clear hb2); (try clear hk); (try clear hi)))
       go_roundg k2
       case measure => have := HJ1.out; have := HK2.out; omega
       case rel => exact ⟨(wrap64 (x4_2 + 1)), (by first | rfl | (simp; done) | (simp [*]; done) | (simp [i64_w, i32_w]; done)), H', ⟨by have := HJ1.out; have := HK2.out; omega⟩, ⟨by repeat (first | (with_reducible first | exact HB.out | apply below_alloc | apply pw_below_drewN | apply below_drew1) | exact HB.out)⟩⟩
/-! ### spec_ValidTiling: function 77 -/
def spec_ValidTiling.f (k : Nat) (a0_0 : Int) (a0_1 : Int) (l0_2 : List Int) : Option (Bool) := (spec_l17Ok.f k [(⟨a0_0, a0_1, l0_2⟩ : S29)]).bind fun t178 => (some t178)
theorem spec_ValidTiling.mono : ∀ a0 a1 a2 k, LeO (spec_ValidTiling.f k a0 a1 a2) (spec_ValidTiling.f (k + 1) a0 a1 a2) := by
  intro a0 a1 a2 k
  unfold spec_ValidTiling.f
  repeat' first
      | (with_reducible exact spec_l17Ok.mono _ _)
      | (with_reducible exact LeO.refl _)
      | (with_reducible exact LeO.none _)
      | (with_reducible refine LeO.ite ?_ ?_)
      | (with_reducible refine LeO.bind ?_ (fun _ => ?_))
      | exact spec_l17Ok.mono _ _
      | exact LeO.none _
      | refine LeO.ite ?_ ?_
      | refine LeO.bind ?_ (fun _ => ?_)
set_option maxHeartbeats 8000000 in
set_option maxRecDepth 100000 in
theorem spec_ValidTiling.calls (k : Nat) (a0_0 : Int) (a0_1 : Int) (A0_2 : Option Addr) (c0_2 : Nat) (l0_2 : List Int) (r : Bool) (w : World) (hr0_2 : Kd.C (Kd.int .i64) w A0_2 l0_2.length l0_2) (hc0_2 : l0_2.length ≤ c0_2) (h : spec_ValidTiling.f k a0_0 a0_1 l0_2 = some r) :
    Calls Try.prog 77 #[.agg #[.int .i64 a0_0, .int .i64 a0_1, .slice A0_2 l0_2.length c0_2]] w fun e w' => e = .returned (.bool r) ∧ Below w.heap.size w w' := by
  have hu29 := Try.underlying29
  have HR0_2 := Aside0.mk hr0_2
  have HC0_2 := Aside0.mk hc0_2
  clear hr0_2 hc0_2
  have HB := Aside0.mk (Below.refl w.heap.size w)
  have H : ((spec_l17Ok.f k [(⟨a0_0, a0_1, l0_2⟩ : S29)]).bind fun t178 => (some t178)) = some r := h
  clear h
  replace H := Option.bind_eq_some_iff.mp H
  obtain ⟨t178, A20, H⟩ := H
  replace H : (some t178) = some r := H
  have A2 := Aside0.mk A20
  clear A20
  obtain rfl := Option.some.inj H
  go_enter Try.func77, Try.ntmps77
  go_wp2_with (first | ((with_reducible refine gate_dst (N := 1) rfl ?_); refine box_event ?hg (N := 1) ?hd (cs := #[.int .i64 a0_0, .int .i64 a0_1, .slice A0_2 l0_2.length c0_2]) (t := 29) ?hr ?_; (case hd => rfl); (case hg => rfl); (case hr => first | (go_simp; done) | (go_simp; rfl)); intro gb177 hg w3 hbox hb; have n0_ := Aside0.mk (below_step (by repeat (first | (with_reducible first | exact HB.out | apply below_alloc | apply pw_below_drewN | apply below_drew1) | exact HB.out)) hb); have n1_ := Aside0.mk (hbox); have n2_ := Aside0.mk ((by rw [hg]; exact (below_size (by repeat (first | (with_reducible first | exact HB.out | apply below_alloc | apply pw_below_drewN | apply below_drew1) | exact HB.out))) : w.heap.size ≤ gb177)); have n3_ := Aside0.mk ((by rw [hg]; exact (below_size (by repeat (first | (with_reducible first | exact HB.out | apply below_alloc | apply pw_below_drewN | apply below_drew1) | exact HB.out))) : w.heap.size ≤ gb177)); clear HB; have HB := n0_; have BK177 := n1_; have GW177 := n2_; have GE177 := n3_; clear n0_ n1_ n2_ n3_; clear hb hbox hg) | ((with_reducible refine gate_callee (f := 60) rfl ?_); refine goesL_ (some 3) rfl rfl Try.func60 (by kernel_rfl) rfl #[.pointer (some ⟨gb177, 0, none⟩)] rfl (by (try simp only [List.map_toArray, List.map_cons, List.map_nil]); first | done | rfl | (simp only [List.length_drop, List.length_take]; rfl)) ?_; (with_reducible refine (spec_l17Ok.calls k _ [(⟨a0_0, a0_1, l0_2⟩ : S29)] t178 _ ?side1 A2.out).mono ?_); (case side1 => exact Go.Proofs.YtnidibnhojedoaaX.rp_box (t := 29) (fr := (0, 0)) (by (with_reducible repeat (first | refine blk_drewN ?_ _ | refine blk_drew ?_ | refine blk_alloc ?_ _)); exact BK177.out) (k29_mk _ (⟨a0_0, a0_1, l0_2⟩ : S29) (by exact HC0_2.out) (by repeat (first | exact (Kd.C_below HR0_2.out HB.out) | (with_reducible refine Kd.C_alloc ?_ _) | (with_reducible refine Kd.C_drewN ?_ _) | (with_reducible refine Kd.C_drew ?_))))); rintro e w4 ⟨rfl, hb⟩; refine ⟨_, rfl, ?_⟩; have n0_ := Aside0.mk (blk_below (g := gb177) (o := .cells #[.int .i64 a0_0, .int .i64 a0_1, .slice A0_2 l0_2.length c0_2] 29 (0, 0)) (by (with_reducible repeat (first | refine blk_drewN ?_ _ | refine blk_drew ?_ | refine blk_alloc ?_ _)); exact BK177.out) hb); have n1_ := Aside0.mk (below_step (by repeat (first | (with_reducible first | exact HB.out | apply below_alloc | apply pw_below_drewN | apply below_drew1 | refine below_set ?_ GE177.out) | exact HB.out)) hb); clear BK177; clear HB; have BK177 := n0_; have HB := n1_; clear n0_ n1_; (try clear hb); (try clear hb2); (try clear hk); (try clear hi)))
  go_ret
  exact ⟨by first | rfl | (simp [errW_none, errW_some] <;> rfl) | (simp [*, errW_none, errW_some] <;> rfl), by repeat (first | (with_reducible first | exact HB.out | apply below_alloc | apply pw_below_drewN | apply below_drew1 | refine below_set ?_ GE177.out) | exact HB.out)⟩

/-! ### spec_l18Mod: function 67 -/
def spec_l18Mod.f (a0 : Int) (a1 : Int) : Option (Int) := if a1 = 0 then (none) else (some (Int.tmod (wrap64 ((Int.tmod a0 a1) + a1)) a1))
set_option maxHeartbeats 8000000 in
set_option maxRecDepth 100000 in
theorem spec_l18Mod.calls (a0 : Int) (a1 : Int) (r : Int) (w : World) (h : spec_l18Mod.f a0 a1 = some r) :
    Calls Try.prog 67 #[.int .i64 a0, .int .i64 a1] w fun e w' => e = .returned (.int .i64 r) ∧ Drawn0 w w' := by
  have H : (if a1 = 0 then (none) else (some (Int.tmod (wrap64 ((Int.tmod a0 a1) + a1)) a1))) = some r := h
  clear h
  by_cases c3 : a1 = 0
  · rw [if_pos c3] at H
    exact absurd H (by simp)
  · rw [if_neg c3] at H
    have c3b0 : (a1 == 0) = false := beq_eq_false_iff_ne.mpr c3
    have c3b1 : (a1 != 0) = true := bne_iff_ne.mpr c3
    obtain rfl := Option.some.inj H
    go_enter Try.func67, Try.ntmps67
    go_wp2
    go_ret
    exact ⟨by first | rfl | (simp; done) | (simp [*]; done) | (simp [i64_w, i32_w]; done), by repeat (first | exact Drawn0.refl _ | apply Drawn0.step)⟩

end Go.Proofs.Ytnidibnhojedoaa.GFnExactSymmetriesOf

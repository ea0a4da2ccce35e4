-- Written by the session's own program (gen.py) out of the translation's print. Lean checks it.
import Derived.Test.YtjmjbmahljlnlaaDoorGFnExactCoatTextx0
import Derived.Test.YtjmjbmahljlnlaaDoorGFnExactCoatTextx1
namespace Go.Proofs.YtjmjbmahljlnlaaDoor.GFnExactCoatText
open Go.RowKit Go.Proofs.YtjmjbmahljlnlaaDoorW.PrintWords Go.Proofs.YtjmjbmahljlnlaaDoorW.PrintLast Go.Proofs.YtjmjbmahljlnlaaDoorW.PrintMore
attribute [local go_sem] max2_int min2_int max_two min_two max_three min_three max_four min_four   -- for this text's walks alone
set_option linter.unusedVariables false
set_option linter.unusedSimpArgs false

/-! ### spec_l22One: function 16 -/
def spec_l22One.f (k : Nat) (l0 : List (S26)) : Option (Bool) := if 0 < (l0.length : Int) then ((spec_l01Name.f k ((rd_T26 l0 0).f0)).bind fun t106 => (if t106 = true then ((spec_l00In.f ((rd_T26 l0 0).f1) 1 32).bind fun t108 => (if t108 = true then ((spec_l00In.f ((rd_T26 l0 0).f2) 0 400).bind fun t110 => (if t110 = true then ((spec_l00In.f ((rd_T26 l0 0).f3) ((rd_T26 l0 0).f2) 800).bind fun t113 => (some t113)) else (some false))) else (some false))) else (some false))) else (none)
theorem spec_l22One.mono : ∀ a0 k, LeO (spec_l22One.f k a0) (spec_l22One.f (k + 1) a0) := by
  intro a0 k
  unfold spec_l22One.f
  repeat' first
      | (with_reducible exact spec_l01Name.mono _ _)
      | (with_reducible exact LeO.refl _)
      | (with_reducible exact LeO.none _)
      | (with_reducible refine LeO.ite ?_ ?_)
      | (with_reducible refine LeO.bind ?_ (fun _ => ?_))
      | exact spec_l01Name.mono _ _
      | exact LeO.none _
      | refine LeO.ite ?_ ?_
      | refine LeO.bind ?_ (fun _ => ?_)
def spec_l22One.T1 : Bool × List (List Nat × List Nat) := (true, [([], []), ([0], [0]), ([1], [1]), ([2], [2]), ([3], [3]), ([4, 4], [4]), ([5], [5]), ([6, 5], [5, 6]), ([7, 5], [5, 7]), ([8, 5], [5, 8]), ([9, 5, 5], [5, 9]), ([5, 10], [5, 10]), ([11, 10], [11]), ([12], [12]), ([13, 12], [12, 13]), ([14, 12], [12, 14]), ([15, 12], [12, 15]), ([16, 12, 12], [12, 16]), ([12, 17], [12, 17]), ([18, 17], [18]), ([19], [19]), ([20, 19], [19, 20]), ([21, 19], [19, 21]), ([22, 19], [19, 22]), ([19], [19]), ([24, 19], [19, 24]), ([25, 19], [19, 25]), ([26, 19], [19, 26]), ([23, 27, 19, 19], [19, 23, 27]), ([19, 28], [19, 28]), ([29, 28, 0, 1, 2, 3, 4, 5, 6, 7, 8, 9, 10, 11, 12, 13, 14, 15, 16, 17, 18, 19, 20, 21, 22, 23, 24, 25, 26, 27, 28, 29], [29])])
def spec_l22One.B1 : List Nat := [0, 1, 3, 7, 15, 31, 63, 127, 255, 511, 1023, 2047, 4095, 8191, 16383, 32767, 65535, 131071, 262143, 524287, 1048575, 2097151, 4194303, 8388607, 1048575, 17825791, 51380223, 118489087, 268435455, 536870911, 1073741823]
theorem spec_l22One.tab1 : rtab .any (opsOf Tryd.f16 1) = spec_l22One.T1 := by kernel_rfl
theorem spec_l22One.bits1 : waitsOk spec_l22One.T1.2 spec_l22One.B1 = true := by kernel_rfl
open List renaming setIfInBounds_toArray → sA, set_cons_zero → sB, set_cons_succ → sC
open Go.Proofs.YtjmjbmahljlnlaaDoorW.PrintWords.Aside0 renaming mk → mkA
open Go.Proofs.YtjmjbmahljlnlaaDoorX (dt_ bc_ p0_ p1_ bl_ cb_ bs0_ bs1_ bs2_ bs3_ bs4_ bs5_ bs6_ bs7_ bs8_ bs9_ bs10_ bs11_ bs12_)
abbrev spec_l22One.d0 : Array Bool := #[false, false, false, false, false, false, false, false, false, false, false, false, false, false, false, false, false, false, false, false, false, false, false, false, false, false, false, false, false, false, false]
abbrev spec_l22One.d1 : Array Bool := #[true, false, false, false, false, false, false, false, false, false, false, false, false, false, false, false, false, false, false, false, false, false, false, false, false, false, false, false, false, false, false]
abbrev spec_l22One.d2 : Array Bool := #[true, true, false, false, false, false, false, false, false, false, false, false, false, false, false, false, false, false, false, false, false, false, false, false, false, false, false, false, false, false, false]
abbrev spec_l22One.d3 : Array Bool := #[true, true, true, false, false, false, false, false, false, false, false, false, false, false, false, false, false, false, false, false, false, false, false, false, false, false, false, false, false, false, false]
abbrev spec_l22One.d4 : Array Bool := #[true, true, true, true, false, false, false, false, false, false, false, false, false, false, false, false, false, false, false, false, false, false, false, false, false, false, false, false, false, false, false]
abbrev spec_l22One.d5 : Array Bool := #[true, true, true, true, true, false, false, false, false, false, false, false, false, false, false, false, false, false, false, false, false, false, false, false, false, false, false, false, false, false, false]
abbrev spec_l22One.d6 : Array Bool := #[true, true, true, true, true, true, false, false, false, false, false, false, false, false, false, false, false, false, false, false, false, false, false, false, false, false, false, false, false, false, false]
abbrev spec_l22One.d7 : Array Bool := #[true, true, true, true, true, true, true, false, false, false, false, false, false, false, false, false, false, false, false, false, false, false, false, false, false, false, false, false, false, false, false]
abbrev spec_l22One.d8 : Array Bool := #[true, true, true, true, true, true, true, true, false, false, false, false, false, false, false, false, false, false, false, false, false, false, false, false, false, false, false, false, false, false, false]
abbrev spec_l22One.d9 : Array Bool := #[true, true, true, true, true, true, true, true, true, false, false, false, false, false, false, false, false, false, false, false, false, false, false, false, false, false, false, false, false, false, false]
abbrev spec_l22One.d10 : Array Bool := #[true, true, true, true, true, true, true, true, true, true, false, false, false, false, false, false, false, false, false, false, false, false, false, false, false, false, false, false, false, false, false]
abbrev spec_l22One.d11 : Array Bool := #[true, true, true, true, true, true, true, true, true, true, true, false, false, false, false, false, false, false, false, false, false, false, false, false, false, false, false, false, false, false, false]
abbrev spec_l22One.d12 : Array Bool := #[true, true, true, true, true, true, true, true, true, true, true, true, false, false, false, false, false, false, false, false, false, false, false, false, false, false, false, false, false, false, false]
abbrev spec_l22One.d13 : Array Bool := #[true, true, true, true, true, true, true, true, true, true, true, true, true, false, false, false, false, false, false, false, false, false, false, false, false, false, false, false, false, false, false]
abbrev spec_l22One.d14 : Array Bool := #[true, true, true, true, true, true, true, true, true, true, true, true, true, true, false, false, false, false, false, false, false, false, false, false, false, false, false, false, false, false, false]
abbrev spec_l22One.d15 : Array Bool := #[true, true, true, true, true, true, true, true, true, true, true, true, true, true, true, false, false, false, false, false, false, false, false, false, false, false, false, false, false, false, false]
abbrev spec_l22One.d16 : Array Bool := #[true, true, true, true, true, true, true, true, true, true, true, true, true, true, true, true, false, false, false, false, false, false, false, false, false, false, false, false, false, false, false]
abbrev spec_l22One.d17 : Array Bool := #[true, true, true, true, true, true, true, true, true, true, true, true, true, true, true, true, true, false, false, false, false, false, false, false, false, false, false, false, false, false, false]
abbrev spec_l22One.d18 : Array Bool := #[true, true, true, true, true, true, true, true, true, true, true, true, true, true, true, true, true, true, false, false, false, false, false, false, false, false, false, false, false, false, false]
abbrev spec_l22One.d19 : Array Bool := #[true, true, true, true, true, true, true, true, true, true, true, true, true, true, true, true, true, true, true, false, false, false, false, false, false, false, false, false, false, false, false]
abbrev spec_l22One.d20 : Array Bool := #[true, true, true, true, true, true, true, true, true, true, true, true, true, true, true, true, true, true, true, true, false, false, false, false, false, false, false, false, false, false, false]
abbrev spec_l22One.d21 : Array Bool := #[true, true, true, true, true, true, true, true, true, true, true, true, true, true, true, true, true, true, true, true, true, false, false, false, false, false, false, false, false, false, false]
abbrev spec_l22One.d22 : Array Bool := #[true, true, true, true, true, true, true, true, true, true, true, true, true, true, true, true, true, true, true, true, true, true, false, false, false, false, false, false, false, false, false]
abbrev spec_l22One.d23 : Array Bool := #[true, true, true, true, true, true, true, true, true, true, true, true, true, true, true, true, true, true, true, true, true, true, true, false, false, false, false, false, false, false, false]
abbrev spec_l22One.d24 : Array Bool := #[true, true, true, true, true, true, true, true, true, true, true, true, true, true, true, true, true, true, true, true, true, true, true, false, true, false, false, false, false, false, false]
abbrev spec_l22One.d25 : Array Bool := #[true, true, true, true, true, true, true, true, true, true, true, true, true, true, true, true, true, true, true, true, true, true, true, false, true, true, false, false, false, false, false]
abbrev spec_l22One.d26 : Array Bool := #[true, true, true, true, true, true, true, true, true, true, true, true, true, true, true, true, true, true, true, true, true, true, true, false, true, true, true, false, false, false, false]
abbrev spec_l22One.d27 : Array Bool := #[true, true, true, true, true, true, true, true, true, true, true, true, true, true, true, true, true, true, true, true, true, true, true, true, true, true, true, false, false, false, false]
abbrev spec_l22One.d28 : Array Bool := #[true, true, true, true, true, true, true, true, true, true, true, true, true, true, true, true, true, true, true, true, true, true, true, true, true, true, true, true, false, false, false]
abbrev spec_l22One.d29 : Array Bool := #[true, true, true, true, true, true, true, true, true, true, true, true, true, true, true, true, true, true, true, true, true, true, true, true, true, true, true, true, true, false, false]
abbrev spec_l22One.d30 : Array Bool := #[true, true, true, true, true, true, true, true, true, true, true, true, true, true, true, true, true, true, true, true, true, true, true, true, true, true, true, true, true, true, false]
abbrev spec_l22One.d31 : Array Bool := #[true, true, true, true, true, true, true, true, true, true, true, true, true, true, true, true, true, true, true, true, true, true, true, true, true, true, true, true, true, true, true]
abbrev spec_l22One.d32 : Array Bool := #[true, true, true, true, true, true, true, true, true, true, true, true, true, true, true, true, true, true, true, true, true, true, true, true, false, false, false, false, false, false, false]
abbrev spec_l22One.d33 : Array Bool := #[true, true, true, true, true, true, true, true, true, true, true, true, true, true, true, true, true, true, true, true, true, true, true, true, true, false, false, false, false, false, false]
abbrev spec_l22One.d34 : Array Bool := #[true, true, true, true, true, true, true, true, true, true, true, true, true, true, true, true, true, true, true, true, true, true, true, true, true, true, false, false, false, false, false]
set_option maxHeartbeats 8000000 in
set_option maxRecDepth 100000 in
theorem spec_l22One.calls (k : Nat) (A0 : Option Addr) (l0 : List (S26)) (r : Bool) (w : World) (hr0 : Kd.C k26 w A0 l0.length l0) (h : spec_l22One.f k l0 = some r) :
 Calls Tryd.prog 16 #[.pointer A0] w fun e w' => e = .returned (.bool r) ∧ Below w.heap.size w w' := by
 have HR0 := mkA hr0
 clear hr0
 have HB := mkA (Below.refl w.heap.size w)
 have H : (if 0 < (l0.length : Int) then ((spec_l01Name.f k ((rd_T26 l0 0).f0)).bind fun t106 => (if t106 = true then ((spec_l00In.f ((rd_T26 l0 0).f1) 1 32).bind fun t108 => (if t108 = true then ((spec_l00In.f ((rd_T26 l0 0).f2) 0 400).bind fun t110 => (if t110 = true then ((spec_l00In.f ((rd_T26 l0 0).f3) ((rd_T26 l0 0).f2) 800).bind fun t113 => (some t113)) else (some false))) else (some false))) else (some false))) else (none)) = some r := h
 clear h
 by_cases c2 : 0 < (l0.length : Int)
 rotate_left
 · rw [if_neg c2] at H
   exact absurd H (by simp)

 rw [if_pos c2] at H
 have c2b0 : decide (0 < (l0.length : Int)) = true := decide_eq_true c2
 have c2b1 : decide (0 < l0.length) = true := decide_eq_true (by omega)
 clear c2
 replace H := Option.bind_eq_some_iff.mp H
 obtain ⟨t106, A30, H⟩ := H
 replace H : (if t106 = true then ((spec_l00In.f ((rd_T26 l0 0).f1) 1 32).bind fun t108 => (if t108 = true then ((spec_l00In.f ((rd_T26 l0 0).f2) 0 400).bind fun t110 => (if t110 = true then ((spec_l00In.f ((rd_T26 l0 0).f3) ((rd_T26 l0 0).f2) 800).bind fun t113 => (some t113)) else (some false))) else (some false))) else (some false)) = some r := H
 have A3 := mkA A30
 clear A30
 by_cases c4 : t106 = true
 rotate_left
 · replace c4 := Bool.eq_false_iff.mpr c4
   subst c4
   have H1 : (some false) = some r := by rw [if_neg (show ¬ (false = true) by decide)] at H; exact H
   clear H
   have H := H1
   clear H1
   obtain rfl := Option.some.inj H
   go_enter Tryd.func16, Tryd.ntmps16
   try go_wp2
   have n0_ := mkA (below_drew1 HB.out)
   clear HB
   have HB := n0_
   clear n0_
   have p105 : 0 ≤ (0 : Int) := (by omega)
   have q105 : 0 < (l0.length : Int) := dt_
   obtain ⟨ad105, e105, hx105_0, hx105_1, hx105_2, hx105_3⟩ := at0_T26 HR0.out q105
   have hw105_3 := hx105_3
   have hw105_2 := hx105_2
   have hw105_1 := hx105_1
   have hw105_0 := hx105_0
   cases e105
   have qi105 : (0 < l0.length) = True := eq_true (by omega)
   replace hx105_0 := bc_ HB.out hx105_0
   replace hx105_1 := bc_ HB.out hx105_1
   replace hx105_2 := bc_ HB.out hx105_2
   replace hx105_3 := bc_ HB.out hx105_3
   replace p105 := eq_true p105
   replace q105 := eq_true q105
   refine start_ (n := 31) (S := fun w' => w'.cell? ad105 = some (.string ((rd_T26 l0 0).f0)) ∧ w'.cell? ⟨ad105.block, ad105.off + 1, none⟩ = some (.int .i64 ((rd_T26 l0 0).f1)) ∧ w'.cell? ⟨ad105.block, ad105.off + 2, none⟩ = some (.int .i64 ((rd_T26 l0 0).f2)) ∧ w'.cell? ⟨ad105.block, ad105.off + 3, none⟩ = some (.int .i64 ((rd_T26 l0 0).f3))) (ds := []) spec_l22One.d0 (by kernel_rfl) rfl rfl ⟨(bc_ HB.out hw105_0 :), (bc_ HB.out hw105_1 :), (bc_ HB.out hw105_2 :), (bc_ HB.out hw105_3 :)⟩ (fun hHeld => ?_); refine with_tabW spec_l22One.tab1 spec_l22One.bits1 (fun HT_ HW_ => ?_)
   generalize w.drew = w13 at HB hx105_0 hx105_1 hx105_2 hx105_3 hHeld ⊢
   refine p1_ HT_.out 0 3 spec_l22One.d1 ?_
   refine p1_ HT_.out 1 4 spec_l22One.d2 ?_
   refine p1_ HT_.out 2 5 spec_l22One.d3 ?_
   refine take_ (i := 3) (N := some 6) (v := ?_) (a' := ?_) spec_l22One.d4 rfl rfl (take_ofW HT_.out HW_.out (by kernel_rfl)) (fun _ _ _ h => h) (Or.inl ⟨by rfl, ?_⟩) hHeld ?_ ?_
   rotate_left
   · rintro w' ⟨s0, s1, s2, s3⟩
     go_simp
     with_reducible rfl
   rotate_left
   · simp only [Act.put, sA, sB, sC, i64_w, i32_w]
     rfl
   refine one_ (i := 4) (N := some 7) spec_l22One.d5 rfl rfl (one_of HT_.out (by kernel_rfl)) (by decide) (fun K hK => ?_)
   refine goes_ Tryd.func25 (by kernel_rfl) rfl #[.string ((rd_T26 l0 0).f0)] (by rfl) rfl rfl (by (try simp only [List.map_toArray, List.map_cons, List.map_nil]); first | done | rfl | (simp only [List.length_drop, List.length_take]; rfl)) ?_
   with_reducible refine (spec_l01Name.calls k ((rd_T26 l0 0).f0) false _ A3.out).mono ?_
   rintro e w' ⟨rfl, ⟨nd, rfl⟩⟩
   refine ⟨_, rfl, ?_⟩
   refine hK.out _ _ ⟨(bc_ HB.out hw105_0 :), (bc_ HB.out hw105_1 :), (bc_ HB.out hw105_2 :), (bc_ HB.out hw105_3 :)⟩ (fun hHeld => ?_)
   clear hK K
   refine norm_ (a' := ?_) ?_ ?_
   rotate_left
   · show Act.put _ (some 7) _ = _
     simp only [Act.put, sA, sB, sC, i64_w, i32_w]
     rfl
   refine p1_ HT_.out 5 8 spec_l22One.d6 ?_
   refine p0_ HT_.out 6 9 spec_l22One.d7 ?_
   refine p0_ HT_.out 7 10 spec_l22One.d8 ?_
   refine p0_ HT_.out 8 11 spec_l22One.d9 ?_
   refine p0_ HT_.out 9 12 spec_l22One.d10 ?_
   refine p0_ HT_.out 10 13 spec_l22One.d11 ?_
   refine p1_ HT_.out 11 14 spec_l22One.d12 ?_
   refine p1_ HT_.out 12 15 spec_l22One.d13 ?_
   refine p0_ HT_.out 13 16 spec_l22One.d14 ?_
   refine p0_ HT_.out 14 17 spec_l22One.d15 ?_
   refine p0_ HT_.out 15 18 spec_l22One.d16 ?_
   refine p0_ HT_.out 16 19 spec_l22One.d17 ?_
   refine p0_ HT_.out 17 20 spec_l22One.d18 ?_
   refine p1_ HT_.out 18 21 spec_l22One.d19 ?_
   refine p1_ HT_.out 19 22 spec_l22One.d20 ?_
   refine p0_ HT_.out 20 23 spec_l22One.d21 ?_
   refine p0_ HT_.out 21 24 spec_l22One.d22 ?_
   refine p0_ HT_.out 22 25 spec_l22One.d23 ?_
   refine p0_ HT_.out 23 26 spec_l22One.d32 ?_
   refine p0_ HT_.out 24 27 spec_l22One.d33 ?_
   refine p0_ HT_.out 25 28 spec_l22One.d34 ?_
   refine p0_ HT_.out 26 29 spec_l22One.d27 ?_
   refine p0_ HT_.out 27 30 spec_l22One.d28 ?_
   refine p0_ HT_.out 28 31 spec_l22One.d29 ?_
   refine p1_ HT_.out 29 32 spec_l22One.d30 ?_
   refine p1_ HT_.out 30 2 spec_l22One.d31 ?_
   refine done_ (done_of HT_.out (by kernel_rfl)) ?_
   try go_wp2
   go_ret
   exact ⟨by first | rfl | (simp [errW_none, errW_some] <;> rfl) | (simp [*, errW_none, errW_some] <;> rfl), by repeat (first | (with_reducible first | exact HB.out | apply below_alloc | apply pw_below_drewN | apply below_drew1) | exact HB.out)⟩
 subst c4
 have H1 : ((spec_l00In.f ((rd_T26 l0 0).f1) 1 32).bind fun t108 => (if t108 = true then ((spec_l00In.f ((rd_T26 l0 0).f2) 0 400).bind fun t110 => (if t110 = true then ((spec_l00In.f ((rd_T26 l0 0).f3) ((rd_T26 l0 0).f2) 800).bind fun t113 => (some t113)) else (some false))) else (some false))) = some r := by rw [if_pos rfl] at H; exact H
 clear H
 have H := H1
 clear H1
 replace H := Option.bind_eq_some_iff.mp H
 obtain ⟨t108, A50, H⟩ := H
 replace H : (if t108 = true then ((spec_l00In.f ((rd_T26 l0 0).f2) 0 400).bind fun t110 => (if t110 = true then ((spec_l00In.f ((rd_T26 l0 0).f3) ((rd_T26 l0 0).f2) 800).bind fun t113 => (some t113)) else (some false))) else (some false)) = some r := H
 have A5 := mkA A50
 clear A50
 by_cases c6 : t108 = true
 rotate_left
 · replace c6 := Bool.eq_false_iff.mpr c6
   subst c6
   have H1 : (some false) = some r := by rw [if_neg (show ¬ (false = true) by decide)] at H; exact H
   clear H
   have H := H1
   clear H1
   obtain rfl := Option.some.inj H
   go_enter Tryd.func16, Tryd.ntmps16
   try go_wp2
   have n0_ := mkA (below_drew1 HB.out)
   clear HB
   have HB := n0_
   clear n0_
   have p105 : 0 ≤ (0 : Int) := (by omega)
   have q105 : 0 < (l0.length : Int) := dt_
   obtain ⟨ad105, e105, hx105_0, hx105_1, hx105_2, hx105_3⟩ := at0_T26 HR0.out q105
   have hw105_3 := hx105_3
   have hw105_2 := hx105_2
   have hw105_1 := hx105_1
   have hw105_0 := hx105_0
   cases e105
   have qi105 : (0 < l0.length) = True := eq_true (by omega)
   replace hx105_0 := bc_ HB.out hx105_0
   replace hx105_1 := bc_ HB.out hx105_1
   replace hx105_2 := bc_ HB.out hx105_2
   replace hx105_3 := bc_ HB.out hx105_3
   replace p105 := eq_true p105
   replace q105 := eq_true q105
   have p107 : 0 ≤ (0 : Int) := (by omega)
   have q107 : 0 < (l0.length : Int) := dt_
   obtain ⟨ad107, e107, hx107_0, hx107_1, hx107_2, hx107_3⟩ := at0_T26 HR0.out q107
   have hw107_3 := hx107_3
   have hw107_2 := hx107_2
   have hw107_1 := hx107_1
   have hw107_0 := hx107_0
   obtain rfl : ad105 = ad107 := (by injection e107)
   have qi107 : (0 < l0.length) = True := eq_true (by omega)
   replace hx107_0 := bc_ HB.out hx107_0
   replace hx107_1 := bc_ HB.out hx107_1
   replace hx107_2 := bc_ HB.out hx107_2
   replace hx107_3 := bc_ HB.out hx107_3
   replace p107 := eq_true p107
   replace q107 := eq_true q107
   refine start_ (n := 31) (S := fun w' => w'.cell? ad105 = some (.string ((rd_T26 l0 0).f0)) ∧ w'.cell? ⟨ad105.block, ad105.off + 1, none⟩ = some (.int .i64 ((rd_T26 l0 0).f1)) ∧ w'.cell? ⟨ad105.block, ad105.off + 2, none⟩ = some (.int .i64 ((rd_T26 l0 0).f2)) ∧ w'.cell? ⟨ad105.block, ad105.off + 3, none⟩ = some (.int .i64 ((rd_T26 l0 0).f3)) ∧ w'.cell? ad105 = some (.string ((rd_T26 l0 0).f0)) ∧ w'.cell? ⟨ad105.block, ad105.off + 1, none⟩ = some (.int .i64 ((rd_T26 l0 0).f1)) ∧ w'.cell? ⟨ad105.block, ad105.off + 2, none⟩ = some (.int .i64 ((rd_T26 l0 0).f2)) ∧ w'.cell? ⟨ad105.block, ad105.off + 3, none⟩ = some (.int .i64 ((rd_T26 l0 0).f3))) (ds := []) spec_l22One.d0 (by kernel_rfl) rfl rfl ⟨(bc_ HB.out hw105_0 :), (bc_ HB.out hw105_1 :), (bc_ HB.out hw105_2 :), (bc_ HB.out hw105_3 :), (bc_ HB.out hw107_0 :), (bc_ HB.out hw107_1 :), (bc_ HB.out hw107_2 :), (bc_ HB.out hw107_3 :)⟩ (fun hHeld => ?_); refine with_tabW spec_l22One.tab1 spec_l22One.bits1 (fun HT_ HW_ => ?_)
   generalize w.drew = w12 at HB hx105_0 hx105_1 hx105_2 hx105_3 hx107_0 hx107_1 hx107_2 hx107_3 hHeld ⊢
   refine p1_ HT_.out 0 3 spec_l22One.d1 ?_
   refine p1_ HT_.out 1 4 spec_l22One.d2 ?_
   refine p1_ HT_.out 2 5 spec_l22One.d3 ?_
   refine take_ (i := 3) (N := some 6) (v := ?_) (a' := ?_) spec_l22One.d4 rfl rfl (take_ofW HT_.out HW_.out (by kernel_rfl)) (fun _ _ _ h => h) (Or.inl ⟨by rfl, ?_⟩) hHeld ?_ ?_
   rotate_left
   · rintro w' ⟨s0, s1, s2, s3, s4, s5, s6, s7⟩
     go_simp
     with_reducible rfl
   rotate_left
   · simp only [Act.put, sA, sB, sC, i64_w, i32_w]
     rfl
   refine one_ (i := 4) (N := some 7) spec_l22One.d5 rfl rfl (one_of HT_.out (by kernel_rfl)) (by decide) (fun K hK => ?_)
   refine goes_ Tryd.func25 (by kernel_rfl) rfl #[.string ((rd_T26 l0 0).f0)] (by rfl) rfl rfl (by (try simp only [List.map_toArray, List.map_cons, List.map_nil]); first | done | rfl | (simp only [List.length_drop, List.length_take]; rfl)) ?_
   with_reducible refine (spec_l01Name.calls k ((rd_T26 l0 0).f0) true _ A3.out).mono ?_
   rintro e w' ⟨rfl, ⟨nd, rfl⟩⟩
   refine ⟨_, rfl, ?_⟩
   refine hK.out _ _ ⟨(bc_ HB.out hw105_0 :), (bc_ HB.out hw105_1 :), (bc_ HB.out hw105_2 :), (bc_ HB.out hw105_3 :), (bc_ HB.out hw107_0 :), (bc_ HB.out hw107_1 :), (bc_ HB.out hw107_2 :), (bc_ HB.out hw107_3 :)⟩ (fun hHeld => ?_)
   clear hK K
   refine norm_ (a' := ?_) ?_ ?_
   rotate_left
   · show Act.put _ (some 7) _ = _
     simp only [Act.put, sA, sB, sC, i64_w, i32_w]
     rfl
   refine p1_ HT_.out 5 8 spec_l22One.d6 ?_
   refine p1_ HT_.out 6 9 spec_l22One.d7 ?_
   refine p1_ HT_.out 7 10 spec_l22One.d8 ?_
   refine p1_ HT_.out 8 11 spec_l22One.d9 ?_
   refine take_ (i := 9) (N := some 12) (v := ?_) (a' := ?_) spec_l22One.d10 rfl rfl (take_ofW HT_.out HW_.out (by kernel_rfl)) (fun _ _ _ h => h) (Or.inl ⟨by rfl, ?_⟩) hHeld ?_ ?_
   rotate_left
   · rintro w' ⟨s0, s1, s2, s3, s4, s5, s6, s7⟩
     go_simp
     with_reducible rfl
   rotate_left
   · simp only [Act.put, sA, sB, sC, i64_w, i32_w]
     rfl
   refine one_ (i := 10) (N := some 13) spec_l22One.d11 rfl rfl (one_of HT_.out (by kernel_rfl)) (by decide) (fun K hK => ?_)
   refine goes_ Tryd.func26 (by kernel_rfl) rfl #[.int .i64 ((rd_T26 l0 0).f1), .int .i64 1, .int .i64 32] (by rfl) rfl rfl (by (try simp only [List.map_toArray, List.map_cons, List.map_nil]); first | done | rfl | (simp only [List.length_drop, List.length_take]; rfl)) ?_
   with_reducible refine (spec_l00In.calls ((rd_T26 l0 0).f1) 1 32 false _ A5.out).mono ?_
   rintro e w' ⟨rfl, ⟨nd, rfl⟩⟩
   refine ⟨_, rfl, ?_⟩
   refine hK.out _ _ ⟨(bc_ HB.out hw105_0 :), (bc_ HB.out hw105_1 :), (bc_ HB.out hw105_2 :), (bc_ HB.out hw105_3 :), (bc_ HB.out hw107_0 :), (bc_ HB.out hw107_1 :), (bc_ HB.out hw107_2 :), (bc_ HB.out hw107_3 :)⟩ (fun hHeld => ?_)
   clear hK K
   refine norm_ (a' := ?_) ?_ ?_
   rotate_left
   · show Act.put _ (some 13) _ = _
     simp only [Act.put, sA, sB, sC, i64_w, i32_w]
     rfl
   refine p1_ HT_.out 11 14 spec_l22One.d12 ?_
   refine p1_ HT_.out 12 15 spec_l22One.d13 ?_
   refine p0_ HT_.out 13 16 spec_l22One.d14 ?_
   refine p0_ HT_.out 14 17 spec_l22One.d15 ?_
   refine p0_ HT_.out 15 18 spec_l22One.d16 ?_
   refine p0_ HT_.out 16 19 spec_l22One.d17 ?_
   refine p0_ HT_.out 17 20 spec_l22One.d18 ?_
   refine p1_ HT_.out 18 21 spec_l22One.d19 ?_
   refine p1_ HT_.out 19 22 spec_l22One.d20 ?_
   refine p0_ HT_.out 20 23 spec_l22One.d21 ?_
   refine p0_ HT_.out 21 24 spec_l22One.d22 ?_
   refine p0_ HT_.out 22 25 spec_l22One.d23 ?_
   refine p0_ HT_.out 23 26 spec_l22One.d32 ?_
   refine p0_ HT_.out 24 27 spec_l22One.d33 ?_
   refine p0_ HT_.out 25 28 spec_l22One.d34 ?_
   refine p0_ HT_.out 26 29 spec_l22One.d27 ?_
   refine p0_ HT_.out 27 30 spec_l22One.d28 ?_
   refine p0_ HT_.out 28 31 spec_l22One.d29 ?_
   refine p1_ HT_.out 29 32 spec_l22One.d30 ?_
   refine p1_ HT_.out 30 2 spec_l22One.d31 ?_
   refine done_ (done_of HT_.out (by kernel_rfl)) ?_
   try go_wp2
   go_ret
   exact ⟨by first | rfl | (simp [errW_none, errW_some] <;> rfl) | (simp [*, errW_none, errW_some] <;> rfl), by repeat (first | (with_reducible first | exact HB.out | apply below_alloc | apply pw_below_drewN | apply below_drew1) | exact HB.out)⟩
 subst c6
 have H1 : ((spec_l00In.f ((rd_T26 l0 0).f2) 0 400).bind fun t110 => (if t110 = true then ((spec_l00In.f ((rd_T26 l0 0).f3) ((rd_T26 l0 0).f2) 800).bind fun t113 => (some t113)) else (some false))) = some r := by rw [if_pos rfl] at H; exact H
 clear H
 have H := H1
 clear H1
 replace H := Option.bind_eq_some_iff.mp H
 obtain ⟨t110, A70, H⟩ := H
 replace H : (if t110 = true then ((spec_l00In.f ((rd_T26 l0 0).f3) ((rd_T26 l0 0).f2) 800).bind fun t113 => (some t113)) else (some false)) = some r := H
 have A7 := mkA A70
 clear A70
 by_cases c8 : t110 = true
 rotate_left
 · replace c8 := Bool.eq_false_iff.mpr c8
   subst c8
   have H1 : (some false) = some r := by rw [if_neg (show ¬ (false = true) by decide)] at H; exact H
   clear H
   have H := H1
   clear H1
   obtain rfl := Option.some.inj H
   go_enter Tryd.func16, Tryd.ntmps16
   try go_wp2
   have n0_ := mkA (below_drew1 HB.out)
   clear HB
   have HB := n0_
   clear n0_
   have p105 : 0 ≤ (0 : Int) := (by omega)
   have q105 : 0 < (l0.length : Int) := dt_
   obtain ⟨ad105, e105, hx105_0, hx105_1, hx105_2, hx105_3⟩ := at0_T26 HR0.out q105
   have hw105_3 := hx105_3
   have hw105_2 := hx105_2
   have hw105_1 := hx105_1
   have hw105_0 := hx105_0
   cases e105
   have qi105 : (0 < l0.length) = True := eq_true (by omega)
   replace hx105_0 := bc_ HB.out hx105_0
   replace hx105_1 := bc_ HB.out hx105_1
   replace hx105_2 := bc_ HB.out hx105_2
   replace hx105_3 := bc_ HB.out hx105_3
   replace p105 := eq_true p105
   replace q105 := eq_true q105
   have p107 : 0 ≤ (0 : Int) := (by omega)
   have q107 : 0 < (l0.length : Int) := dt_
   obtain ⟨ad107, e107, hx107_0, hx107_1, hx107_2, hx107_3⟩ := at0_T26 HR0.out q107
   have hw107_3 := hx107_3
   have hw107_2 := hx107_2
   have hw107_1 := hx107_1
   have hw107_0 := hx107_0
   obtain rfl : ad105 = ad107 := (by injection e107)
   have qi107 : (0 < l0.length) = True := eq_true (by omega)
   replace hx107_0 := bc_ HB.out hx107_0
   replace hx107_1 := bc_ HB.out hx107_1
   replace hx107_2 := bc_ HB.out hx107_2
   replace hx107_3 := bc_ HB.out hx107_3
   replace p107 := eq_true p107
   replace q107 := eq_true q107
   have p109 : 0 ≤ (0 : Int) := (by omega)
   have q109 : 0 < (l0.length : Int) := dt_
   obtain ⟨ad109, e109, hx109_0, hx109_1, hx109_2, hx109_3⟩ := at0_T26 HR0.out q109
   have hw109_3 := hx109_3
   have hw109_2 := hx109_2
   have hw109_1 := hx109_1
   have hw109_0 := hx109_0
   obtain rfl : ad105 = ad109 := (by injection e109)
   have qi109 : (0 < l0.length) = True := eq_true (by omega)
   replace hx109_0 := bc_ HB.out hx109_0
   replace hx109_1 := bc_ HB.out hx109_1
   replace hx109_2 := bc_ HB.out hx109_2
   replace hx109_3 := bc_ HB.out hx109_3
   replace p109 := eq_true p109
   replace q109 := eq_true q109
   refine start_ (n := 31) (S := fun w' => w'.cell? ad105 = some (.string ((rd_T26 l0 0).f0)) ∧ w'.cell? ⟨ad105.block, ad105.off + 1, none⟩ = some (.int .i64 ((rd_T26 l0 0).f1)) ∧ w'.cell? ⟨ad105.block, ad105.off + 2, none⟩ = some (.int .i64 ((rd_T26 l0 0).f2)) ∧ w'.cell? ⟨ad105.block, ad105.off + 3, none⟩ = some (.int .i64 ((rd_T26 l0 0).f3)) ∧ w'.cell? ad105 = some (.string ((rd_T26 l0 0).f0)) ∧ w'.cell? ⟨ad105.block, ad105.off + 1, none⟩ = some (.int .i64 ((rd_T26 l0 0).f1)) ∧ w'.cell? ⟨ad105.block, ad105.off + 2, none⟩ = some (.int .i64 ((rd_T26 l0 0).f2)) ∧ w'.cell? ⟨ad105.block, ad105.off + 3, none⟩ = some (.int .i64 ((rd_T26 l0 0).f3)) ∧ w'.cell? ad105 = some (.string ((rd_T26 l0 0).f0)) ∧ w'.cell? ⟨ad105.block, ad105.off + 1, none⟩ = some (.int .i64 ((rd_T26 l0 0).f1)) ∧ w'.cell? ⟨ad105.block, ad105.off + 2, none⟩ = some (.int .i64 ((rd_T26 l0 0).f2)) ∧ w'.cell? ⟨ad105.block, ad105.off + 3, none⟩ = some (.int .i64 ((rd_T26 l0 0).f3))) (ds := []) spec_l22One.d0 (by kernel_rfl) rfl rfl ⟨(bc_ HB.out hw105_0 :), (bc_ HB.out hw105_1 :), (bc_ HB.out hw105_2 :), (bc_ HB.out hw105_3 :), (bc_ HB.out hw107_0 :), (bc_ HB.out hw107_1 :), (bc_ HB.out hw107_2 :), (bc_ HB.out hw107_3 :), (bc_ HB.out hw109_0 :), (bc_ HB.out hw109_1 :), (bc_ HB.out hw109_2 :), (bc_ HB.out hw109_3 :)⟩ (fun hHeld => ?_); refine with_tabW spec_l22One.tab1 spec_l22One.bits1 (fun HT_ HW_ => ?_)
   generalize w.drew = w11 at HB hx105_0 hx105_1 hx105_2 hx105_3 hx107_0 hx107_1 hx107_2 hx107_3 hx109_0 hx109_1 hx109_2 hx109_3 hHeld ⊢
   refine p1_ HT_.out 0 3 spec_l22One.d1 ?_
   refine p1_ HT_.out 1 4 spec_l22One.d2 ?_
   refine p1_ HT_.out 2 5 spec_l22One.d3 ?_
   refine take_ (i := 3) (N := some 6) (v := ?_) (a' := ?_) spec_l22One.d4 rfl rfl (take_ofW HT_.out HW_.out (by kernel_rfl)) (fun _ _ _ h => h) (Or.inl ⟨by rfl, ?_⟩) hHeld ?_ ?_
   rotate_left
   · rintro w' ⟨s0, s1, s2, s3, s4, s5, s6, s7, s8, s9, s10, s11⟩
     go_simp
     with_reducible rfl
   rotate_left
   · simp only [Act.put, sA, sB, sC, i64_w, i32_w]
     rfl
   refine one_ (i := 4) (N := some 7) spec_l22One.d5 rfl rfl (one_of HT_.out (by kernel_rfl)) (by decide) (fun K hK => ?_)
   refine goes_ Tryd.func25 (by kernel_rfl) rfl #[.string ((rd_T26 l0 0).f0)] (by rfl) rfl rfl (by (try simp only [List.map_toArray, List.map_cons, List.map_nil]); first | done | rfl | (simp only [List.length_drop, List.length_take]; rfl)) ?_
   with_reducible refine (spec_l01Name.calls k ((rd_T26 l0 0).f0) true _ A3.out).mono ?_
   rintro e w' ⟨rfl, ⟨nd, rfl⟩⟩
   refine ⟨_, rfl, ?_⟩
   refine hK.out _ _ ⟨(bc_ HB.out hw105_0 :), (bc_ HB.out hw105_1 :), (bc_ HB.out hw105_2 :), (bc_ HB.out hw105_3 :), (bc_ HB.out hw107_0 :), (bc_ HB.out hw107_1 :), (bc_ HB.out hw107_2 :), (bc_ HB.out hw107_3 :), (bc_ HB.out hw109_0 :), (bc_ HB.out hw109_1 :), (bc_ HB.out hw109_2 :), (bc_ HB.out hw109_3 :)⟩ (fun hHeld => ?_)
   clear hK K
   refine norm_ (a' := ?_) ?_ ?_
   rotate_left
   · show Act.put _ (some 7) _ = _
     simp only [Act.put, sA, sB, sC, i64_w, i32_w]
     rfl
   refine p1_ HT_.out 5 8 spec_l22One.d6 ?_
   refine p1_ HT_.out 6 9 spec_l22One.d7 ?_
   refine p1_ HT_.out 7 10 spec_l22One.d8 ?_
   refine p1_ HT_.out 8 11 spec_l22One.d9 ?_
   refine take_ (i := 9) (N := some 12) (v := ?_) (a' := ?_) spec_l22One.d10 rfl rfl (take_ofW HT_.out HW_.out (by kernel_rfl)) (fun _ _ _ h => h) (Or.inl ⟨by rfl, ?_⟩) hHeld ?_ ?_
   rotate_left
   · rintro w' ⟨s0, s1, s2, s3, s4, s5, s6, s7, s8, s9, s10, s11⟩
     go_simp
     with_reducible rfl
   rotate_left
   · simp only [Act.put, sA, sB, sC, i64_w, i32_w]
     rfl
   refine one_ (i := 10) (N := some 13) spec_l22One.d11 rfl rfl (one_of HT_.out (by kernel_rfl)) (by decide) (fun K hK => ?_)
   refine goes_ Tryd.func26 (by kernel_rfl) rfl #[.int .i64 ((rd_T26 l0 0).f1), .int .i64 1, .int .i64 32] (by rfl) rfl rfl (by (try simp only [List.map_toArray, List.map_cons, List.map_nil]); first | done | rfl | (simp only [List.length_drop, List.length_take]; rfl)) ?_
   with_reducible refine (spec_l00In.calls ((rd_T26 l0 0).f1) 1 32 true _ A5.out).mono ?_
   rintro e w' ⟨rfl, ⟨nd, rfl⟩⟩
   refine ⟨_, rfl, ?_⟩
   refine hK.out _ _ ⟨(bc_ HB.out hw105_0 :), (bc_ HB.out hw105_1 :), (bc_ HB.out hw105_2 :), (bc_ HB.out hw105_3 :), (bc_ HB.out hw107_0 :), (bc_ HB.out hw107_1 :), (bc_ HB.out hw107_2 :), (bc_ HB.out hw107_3 :), (bc_ HB.out hw109_0 :), (bc_ HB.out hw109_1 :), (bc_ HB.out hw109_2 :), (bc_ HB.out hw109_3 :)⟩ (fun hHeld => ?_)
   clear hK K
   refine norm_ (a' := ?_) ?_ ?_
   rotate_left
   · show Act.put _ (some 13) _ = _
     simp only [Act.put, sA, sB, sC, i64_w, i32_w]
     rfl
   refine p1_ HT_.out 11 14 spec_l22One.d12 ?_
   refine p1_ HT_.out 12 15 spec_l22One.d13 ?_
   refine p1_ HT_.out 13 16 spec_l22One.d14 ?_
   refine p1_ HT_.out 14 17 spec_l22One.d15 ?_
   refine p1_ HT_.out 15 18 spec_l22One.d16 ?_
   refine take_ (i := 16) (N := some 19) (v := ?_) (a' := ?_) spec_l22One.d17 rfl rfl (take_ofW HT_.out HW_.out (by kernel_rfl)) (fun _ _ _ h => h) (Or.inl ⟨by rfl, ?_⟩) hHeld ?_ ?_
   rotate_left
   · rintro w' ⟨s0, s1, s2, s3, s4, s5, s6, s7, s8, s9, s10, s11⟩
     go_simp
     with_reducible rfl
   rotate_left
   · simp only [Act.put, sA, sB, sC, i64_w, i32_w]
     rfl
   refine one_ (i := 17) (N := some 20) spec_l22One.d18 rfl rfl (one_of HT_.out (by kernel_rfl)) (by decide) (fun K hK => ?_)
   refine goes_ Tryd.func26 (by kernel_rfl) rfl #[.int .i64 ((rd_T26 l0 0).f2), .int .i64 0, .int .i64 400] (by rfl) rfl rfl (by (try simp only [List.map_toArray, List.map_cons, List.map_nil]); first | done | rfl | (simp only [List.length_drop, List.length_take]; rfl)) ?_
   with_reducible refine (spec_l00In.calls ((rd_T26 l0 0).f2) 0 400 false _ A7.out).mono ?_
   rintro e w' ⟨rfl, ⟨nd, rfl⟩⟩
   refine ⟨_, rfl, ?_⟩
   refine hK.out _ _ ⟨(bc_ HB.out hw105_0 :), (bc_ HB.out hw105_1 :), (bc_ HB.out hw105_2 :), (bc_ HB.out hw105_3 :), (bc_ HB.out hw107_0 :), (bc_ HB.out hw107_1 :), (bc_ HB.out hw107_2 :), (bc_ HB.out hw107_3 :), (bc_ HB.out hw109_0 :), (bc_ HB.out hw109_1 :), (bc_ HB.out hw109_2 :), (bc_ HB.out hw109_3 :)⟩ (fun hHeld => ?_)
   clear hK K
   refine norm_ (a' := ?_) ?_ ?_
   rotate_left
   · show Act.put _ (some 20) _ = _
     simp only [Act.put, sA, sB, sC, i64_w, i32_w]
     rfl
   refine p1_ HT_.out 18 21 spec_l22One.d19 ?_
   refine p1_ HT_.out 19 22 spec_l22One.d20 ?_
   refine p0_ HT_.out 20 23 spec_l22One.d21 ?_
   refine p0_ HT_.out 21 24 spec_l22One.d22 ?_
   refine p0_ HT_.out 22 25 spec_l22One.d23 ?_
   refine p0_ HT_.out 23 26 spec_l22One.d32 ?_
   refine p0_ HT_.out 24 27 spec_l22One.d33 ?_
   refine p0_ HT_.out 25 28 spec_l22One.d34 ?_
   refine p0_ HT_.out 26 29 spec_l22One.d27 ?_
   refine p0_ HT_.out 27 30 spec_l22One.d28 ?_
   refine p0_ HT_.out 28 31 spec_l22One.d29 ?_
   refine p1_ HT_.out 29 32 spec_l22One.d30 ?_
   refine p1_ HT_.out 30 2 spec_l22One.d31 ?_
   refine done_ (done_of HT_.out (by kernel_rfl)) ?_
   try go_wp2
   go_ret
   exact ⟨by first | rfl | (simp [errW_none, errW_some] <;> rfl) | (simp [*, errW_none, errW_some] <;> rfl), by repeat (first | (with_reducible first | exact HB.out | apply below_alloc | apply pw_below_drewN | apply below_drew1) | exact HB.out)⟩
 subst c8
 have H1 : ((spec_l00In.f ((rd_T26 l0 0).f3) ((rd_T26 l0 0).f2) 800).bind fun t113 => (some t113)) = some r := by rw [if_pos rfl] at H; exact H
 clear H
 have H := H1
 clear H1
 replace H := Option.bind_eq_some_iff.mp H
 obtain ⟨t113, A90, H⟩ := H
 replace H : (some t113) = some r := H
 have A9 := mkA A90
 clear A90
 obtain rfl := Option.some.inj H
 go_enter Tryd.func16, Tryd.ntmps16
 try go_wp2
 have n0_ := mkA (below_drew1 HB.out)
 clear HB
 have HB := n0_
 clear n0_
 have p105 : 0 ≤ (0 : Int) := (by omega)
 have q105 : 0 < (l0.length : Int) := dt_
 obtain ⟨ad105, e105, hx105_0, hx105_1, hx105_2, hx105_3⟩ := at0_T26 HR0.out q105
 have hw105_3 := hx105_3
 have hw105_2 := hx105_2
 have hw105_1 := hx105_1
 have hw105_0 := hx105_0
 cases e105
 have qi105 : (0 < l0.length) = True := eq_true (by omega)
 replace hx105_0 := bc_ HB.out hx105_0
 replace hx105_1 := bc_ HB.out hx105_1
 replace hx105_2 := bc_ HB.out hx105_2
 replace hx105_3 := bc_ HB.out hx105_3
 replace p105 := eq_true p105
 replace q105 := eq_true q105
 have p107 : 0 ≤ (0 : Int) := (by omega)
 have q107 : 0 < (l0.length : Int) := dt_
 obtain ⟨ad107, e107, hx107_0, hx107_1, hx107_2, hx107_3⟩ := at0_T26 HR0.out q107
 have hw107_3 := hx107_3
 have hw107_2 := hx107_2
 have hw107_1 := hx107_1
 have hw107_0 := hx107_0
 obtain rfl : ad105 = ad107 := (by injection e107)
 have qi107 : (0 < l0.length) = True := eq_true (by omega)
 replace hx107_0 := bc_ HB.out hx107_0
 replace hx107_1 := bc_ HB.out hx107_1
 replace hx107_2 := bc_ HB.out hx107_2
 replace hx107_3 := bc_ HB.out hx107_3
 replace p107 := eq_true p107
 replace q107 := eq_true q107
 have p109 : 0 ≤ (0 : Int) := (by omega)
 have q109 : 0 < (l0.length : Int) := dt_
 obtain ⟨ad109, e109, hx109_0, hx109_1, hx109_2, hx109_3⟩ := at0_T26 HR0.out q109
 have hw109_3 := hx109_3
 have hw109_2 := hx109_2
 have hw109_1 := hx109_1
 have hw109_0 := hx109_0
 obtain rfl : ad105 = ad109 := (by injection e109)
 have qi109 : (0 < l0.length) = True := eq_true (by omega)
 replace hx109_0 := bc_ HB.out hx109_0
 replace hx109_1 := bc_ HB.out hx109_1
 replace hx109_2 := bc_ HB.out hx109_2
 replace hx109_3 := bc_ HB.out hx109_3
 replace p109 := eq_true p109
 replace q109 := eq_true q109
 have p111 : 0 ≤ (0 : Int) := (by omega)
 have q111 : 0 < (l0.length : Int) := dt_
 obtain ⟨ad111, e111, hx111_0, hx111_1, hx111_2, hx111_3⟩ := at0_T26 HR0.out q111
 have hw111_3 := hx111_3
 have hw111_2 := hx111_2
 have hw111_1 := hx111_1
 have hw111_0 := hx111_0
 obtain rfl : ad105 = ad111 := (by injection e111)
 have qi111 : (0 < l0.length) = True := eq_true (by omega)
 replace hx111_0 := bc_ HB.out hx111_0
 replace hx111_1 := bc_ HB.out hx111_1
 replace hx111_2 := bc_ HB.out hx111_2
 replace hx111_3 := bc_ HB.out hx111_3
 replace p111 := eq_true p111
 replace q111 := eq_true q111
 have p112 : 0 ≤ (0 : Int) := (by omega)
 have q112 : 0 < (l0.length : Int) := dt_
 obtain ⟨ad112, e112, hx112_0, hx112_1, hx112_2, hx112_3⟩ := at0_T26 HR0.out q112
 have hw112_3 := hx112_3
 have hw112_2 := hx112_2
 have hw112_1 := hx112_1
 have hw112_0 := hx112_0
 obtain rfl : ad105 = ad112 := (by injection e112)
 have qi112 : (0 < l0.length) = True := eq_true (by omega)
 replace hx112_0 := bc_ HB.out hx112_0
 replace hx112_1 := bc_ HB.out hx112_1
 replace hx112_2 := bc_ HB.out hx112_2
 replace hx112_3 := bc_ HB.out hx112_3
 replace p112 := eq_true p112
 replace q112 := eq_true q112
 refine start_ (n := 31) (S := fun w' => w'.cell? ad105 = some (.string ((rd_T26 l0 0).f0)) ∧ w'.cell? ⟨ad105.block, ad105.off + 1, none⟩ = some (.int .i64 ((rd_T26 l0 0).f1)) ∧ w'.cell? ⟨ad105.block, ad105.off + 2, none⟩ = some (.int .i64 ((rd_T26 l0 0).f2)) ∧ w'.cell? ⟨ad105.block, ad105.off + 3, none⟩ = some (.int .i64 ((rd_T26 l0 0).f3)) ∧ w'.cell? ad105 = some (.string ((rd_T26 l0 0).f0)) ∧ w'.cell? ⟨ad105.block, ad105.off + 1, none⟩ = some (.int .i64 ((rd_T26 l0 0).f1)) ∧ w'.cell? ⟨ad105.block, ad105.off + 2, none⟩ = some (.int .i64 ((rd_T26 l0 0).f2)) ∧ w'.cell? ⟨ad105.block, ad105.off + 3, none⟩ = some (.int .i64 ((rd_T26 l0 0).f3)) ∧ w'.cell? ad105 = some (.string ((rd_T26 l0 0).f0)) ∧ w'.cell? ⟨ad105.block, ad105.off + 1, none⟩ = some (.int .i64 ((rd_T26 l0 0).f1)) ∧ w'.cell? ⟨ad105.block, ad105.off + 2, none⟩ = some (.int .i64 ((rd_T26 l0 0).f2)) ∧ w'.cell? ⟨ad105.block, ad105.off + 3, none⟩ = some (.int .i64 ((rd_T26 l0 0).f3)) ∧ w'.cell? ad105 = some (.string ((rd_T26 l0 0).f0)) ∧ w'.cell? ⟨ad105.block, ad105.off + 1, none⟩ = some (.int .i64 ((rd_T26 l0 0).f1)) ∧ w'.cell? ⟨ad105.block, ad105.off + 2, none⟩ = some (.int .i64 ((rd_T26 l0 0).f2)) ∧ w'.cell? ⟨ad105.block, ad105.off + 3, none⟩ = some (.int .i64 ((rd_T26 l0 0).f3)) ∧ w'.cell? ad105 = some (.string ((rd_T26 l0 0).f0)) ∧ w'.cell? ⟨ad105.block, ad105.off + 1, none⟩ = some (.int .i64 ((rd_T26 l0 0).f1)) ∧ w'.cell? ⟨ad105.block, ad105.off + 2, none⟩ = some (.int .i64 ((rd_T26 l0 0).f2)) ∧ w'.cell? ⟨ad105.block, ad105.off + 3, none⟩ = some (.int .i64 ((rd_T26 l0 0).f3))) (ds := []) spec_l22One.d0 (by kernel_rfl) rfl rfl ⟨(bc_ HB.out hw105_0 :), (bc_ HB.out hw105_1 :), (bc_ HB.out hw105_2 :), (bc_ HB.out hw105_3 :), (bc_ HB.out hw107_0 :), (bc_ HB.out hw107_1 :), (bc_ HB.out hw107_2 :), (bc_ HB.out hw107_3 :), (bc_ HB.out hw109_0 :), (bc_ HB.out hw109_1 :), (bc_ HB.out hw109_2 :), (bc_ HB.out hw109_3 :), (bc_ HB.out hw111_0 :), (bc_ HB.out hw111_1 :), (bc_ HB.out hw111_2 :), (bc_ HB.out hw111_3 :), (bc_ HB.out hw112_0 :), (bc_ HB.out hw112_1 :), (bc_ HB.out hw112_2 :), (bc_ HB.out hw112_3 :)⟩ (fun hHeld => ?_); refine with_tabW spec_l22One.tab1 spec_l22One.bits1 (fun HT_ HW_ => ?_)
 generalize w.drew = w10 at HB hx105_0 hx105_1 hx105_2 hx105_3 hx107_0 hx107_1 hx107_2 hx107_3 hx109_0 hx109_1 hx109_2 hx109_3 hx111_0 hx111_1 hx111_2 hx111_3 hx112_0 hx112_1 hx112_2 hx112_3 hHeld ⊢
 refine p1_ HT_.out 0 3 spec_l22One.d1 ?_
 refine p1_ HT_.out 1 4 spec_l22One.d2 ?_
 refine p1_ HT_.out 2 5 spec_l22One.d3 ?_
 refine take_ (i := 3) (N := some 6) (v := ?_) (a' := ?_) spec_l22One.d4 rfl rfl (take_ofW HT_.out HW_.out (by kernel_rfl)) (fun _ _ _ h => h) (Or.inl ⟨by rfl, ?_⟩) hHeld ?_ ?_
 rotate_left
 · rintro w' ⟨s0, s1, s2, s3, s4, s5, s6, s7, s8, s9, s10, s11, s12, s13, s14, s15, s16, s17, s18, s19⟩
   go_simp
   with_reducible rfl
 rotate_left
 · simp only [Act.put, sA, sB, sC, i64_w, i32_w]
   rfl
 refine one_ (i := 4) (N := some 7) spec_l22One.d5 rfl rfl (one_of HT_.out (by kernel_rfl)) (by decide) (fun K hK => ?_)
 refine goes_ Tryd.func25 (by kernel_rfl) rfl #[.string ((rd_T26 l0 0).f0)] (by rfl) rfl rfl (by (try simp only [List.map_toArray, List.map_cons, List.map_nil]); first | done | rfl | (simp only [List.length_drop, List.length_take]; rfl)) ?_
 with_reducible refine (spec_l01Name.calls k ((rd_T26 l0 0).f0) true _ A3.out).mono ?_
 rintro e w' ⟨rfl, ⟨nd, rfl⟩⟩
 refine ⟨_, rfl, ?_⟩
 refine hK.out _ _ ⟨(bc_ HB.out hw105_0 :), (bc_ HB.out hw105_1 :), (bc_ HB.out hw105_2 :), (bc_ HB.out hw105_3 :), (bc_ HB.out hw107_0 :), (bc_ HB.out hw107_1 :), (bc_ HB.out hw107_2 :), (bc_ HB.out hw107_3 :), (bc_ HB.out hw109_0 :), (bc_ HB.out hw109_1 :), (bc_ HB.out hw109_2 :), (bc_ HB.out hw109_3 :), (bc_ HB.out hw111_0 :), (bc_ HB.out hw111_1 :), (bc_ HB.out hw111_2 :), (bc_ HB.out hw111_3 :), (bc_ HB.out hw112_0 :), (bc_ HB.out hw112_1 :), (bc_ HB.out hw112_2 :), (bc_ HB.out hw112_3 :)⟩ (fun hHeld => ?_)
 clear hK K
 refine norm_ (a' := ?_) ?_ ?_
 rotate_left
 · show Act.put _ (some 7) _ = _
   simp only [Act.put, sA, sB, sC, i64_w, i32_w]
   rfl
 refine p1_ HT_.out 5 8 spec_l22One.d6 ?_
 refine p1_ HT_.out 6 9 spec_l22One.d7 ?_
 refine p1_ HT_.out 7 10 spec_l22One.d8 ?_
 refine p1_ HT_.out 8 11 spec_l22One.d9 ?_
 refine take_ (i := 9) (N := some 12) (v := ?_) (a' := ?_) spec_l22One.d10 rfl rfl (take_ofW HT_.out HW_.out (by kernel_rfl)) (fun _ _ _ h => h) (Or.inl ⟨by rfl, ?_⟩) hHeld ?_ ?_
 rotate_left
 · rintro w' ⟨s0, s1, s2, s3, s4, s5, s6, s7, s8, s9, s10, s11, s12, s13, s14, s15, s16, s17, s18, s19⟩
   go_simp
   with_reducible rfl
 rotate_left
 · simp only [Act.put, sA, sB, sC, i64_w, i32_w]
   rfl
 refine one_ (i := 10) (N := some 13) spec_l22One.d11 rfl rfl (one_of HT_.out (by kernel_rfl)) (by decide) (fun K hK => ?_)
 refine goes_ Tryd.func26 (by kernel_rfl) rfl #[.int .i64 ((rd_T26 l0 0).f1), .int .i64 1, .int .i64 32] (by rfl) rfl rfl (by (try simp only [List.map_toArray, List.map_cons, List.map_nil]); first | done | rfl | (simp only [List.length_drop, List.length_take]; rfl)) ?_
 with_reducible refine (spec_l00In.calls ((rd_T26 l0 0).f1) 1 32 true _ A5.out).mono ?_
 rintro e w' ⟨rfl, ⟨nd, rfl⟩⟩
 refine ⟨_, rfl, ?_⟩
 refine hK.out _ _ ⟨(bc_ HB.out hw105_0 :), (bc_ HB.out hw105_1 :), (bc_ HB.out hw105_2 :), (bc_ HB.out hw105_3 :), (bc_ HB.out hw107_0 :), (bc_ HB.out hw107_1 :), (bc_ HB.out hw107_2 :), (bc_ HB.out hw107_3 :), (bc_ HB.out hw109_0 :), (bc_ HB.out hw109_1 :), (bc_ HB.out hw109_2 :), (bc_ HB.out hw109_3 :), (bc_ HB.out hw111_0 :), (bc_ HB.out hw111_1 :), (bc_ HB.out hw111_2 :), (bc_ HB.out hw111_3 :), (bc_ HB.out hw112_0 :), (bc_ HB.out hw112_1 :), (bc_ HB.out hw112_2 :), (bc_ HB.out hw112_3 :)⟩ (fun hHeld => ?_)
 clear hK K
 refine norm_ (a' := ?_) ?_ ?_
 rotate_left
 · show Act.put _ (some 13) _ = _
   simp only [Act.put, sA, sB, sC, i64_w, i32_w]
   rfl
 refine p1_ HT_.out 11 14 spec_l22One.d12 ?_
 refine p1_ HT_.out 12 15 spec_l22One.d13 ?_
 refine p1_ HT_.out 13 16 spec_l22One.d14 ?_
 refine p1_ HT_.out 14 17 spec_l22One.d15 ?_
 refine p1_ HT_.out 15 18 spec_l22One.d16 ?_
 refine take_ (i := 16) (N := some 19) (v := ?_) (a' := ?_) spec_l22One.d17 rfl rfl (take_ofW HT_.out HW_.out (by kernel_rfl)) (fun _ _ _ h => h) (Or.inl ⟨by rfl, ?_⟩) hHeld ?_ ?_
 rotate_left
 · rintro w' ⟨s0, s1, s2, s3, s4, s5, s6, s7, s8, s9, s10, s11, s12, s13, s14, s15, s16, s17, s18, s19⟩
   go_simp
   with_reducible rfl
 rotate_left
 · simp only [Act.put, sA, sB, sC, i64_w, i32_w]
   rfl
 refine one_ (i := 17) (N := some 20) spec_l22One.d18 rfl rfl (one_of HT_.out (by kernel_rfl)) (by decide) (fun K hK => ?_)
 refine goes_ Tryd.func26 (by kernel_rfl) rfl #[.int .i64 ((rd_T26 l0 0).f2), .int .i64 0, .int .i64 400] (by rfl) rfl rfl (by (try simp only [List.map_toArray, List.map_cons, List.map_nil]); first | done | rfl | (simp only [List.length_drop, List.length_take]; rfl)) ?_
 with_reducible refine (spec_l00In.calls ((rd_T26 l0 0).f2) 0 400 true _ A7.out).mono ?_
 rintro e w' ⟨rfl, ⟨nd, rfl⟩⟩
 refine ⟨_, rfl, ?_⟩
 refine hK.out _ _ ⟨(bc_ HB.out hw105_0 :), (bc_ HB.out hw105_1 :), (bc_ HB.out hw105_2 :), (bc_ HB.out hw105_3 :), (bc_ HB.out hw107_0 :), (bc_ HB.out hw107_1 :), (bc_ HB.out hw107_2 :), (bc_ HB.out hw107_3 :), (bc_ HB.out hw109_0 :), (bc_ HB.out hw109_1 :), (bc_ HB.out hw109_2 :), (bc_ HB.out hw109_3 :), (bc_ HB.out hw111_0 :), (bc_ HB.out hw111_1 :), (bc_ HB.out hw111_2 :), (bc_ HB.out hw111_3 :), (bc_ HB.out hw112_0 :), (bc_ HB.out hw112_1 :), (bc_ HB.out hw112_2 :), (bc_ HB.out hw112_3 :)⟩ (fun hHeld => ?_)
 clear hK K
 refine norm_ (a' := ?_) ?_ ?_
 rotate_left
 · show Act.put _ (some 20) _ = _
   simp only [Act.put, sA, sB, sC, i64_w, i32_w]
   rfl
 refine p1_ HT_.out 18 21 spec_l22One.d19 ?_
 refine p1_ HT_.out 19 22 spec_l22One.d20 ?_
 refine p1_ HT_.out 20 23 spec_l22One.d21 ?_
 refine p1_ HT_.out 21 24 spec_l22One.d22 ?_
 refine p1_ HT_.out 22 25 spec_l22One.d23 ?_
 refine p1_ HT_.out 24 27 spec_l22One.d24 ?_
 refine p1_ HT_.out 25 28 spec_l22One.d25 ?_
 refine p1_ HT_.out 26 29 spec_l22One.d26 ?_
 refine take_ (i := 23) (N := some 26) (v := ?_) (a' := ?_) spec_l22One.d27 rfl rfl (take_ofW HT_.out HW_.out (by kernel_rfl)) (fun _ _ _ h => h) (Or.inl ⟨by rfl, ?_⟩) hHeld ?_ ?_
 rotate_left
 · rintro w' ⟨s0, s1, s2, s3, s4, s5, s6, s7, s8, s9, s10, s11, s12, s13, s14, s15, s16, s17, s18, s19⟩
   go_simp
   with_reducible rfl
 rotate_left
 · simp only [Act.put, sA, sB, sC, i64_w, i32_w]
   rfl
 refine take_ (i := 27) (N := some 30) (v := ?_) (a' := ?_) spec_l22One.d28 rfl rfl (take_ofW HT_.out HW_.out (by kernel_rfl)) (fun _ _ _ h => h) (Or.inl ⟨by rfl, ?_⟩) hHeld ?_ ?_
 rotate_left
 · rintro w' ⟨s0, s1, s2, s3, s4, s5, s6, s7, s8, s9, s10, s11, s12, s13, s14, s15, s16, s17, s18, s19⟩
   go_simp
   with_reducible rfl
 rotate_left
 · simp only [Act.put, sA, sB, sC, i64_w, i32_w]
   rfl
 refine one_ (i := 28) (N := some 31) spec_l22One.d29 rfl rfl (one_of HT_.out (by kernel_rfl)) (by decide) (fun K hK => ?_)
 refine goes_ Tryd.func26 (by kernel_rfl) rfl #[.int .i64 ((rd_T26 l0 0).f3), .int .i64 ((rd_T26 l0 0).f2), .int .i64 800] (by rfl) rfl rfl (by (try simp only [List.map_toArray, List.map_cons, List.map_nil]); first | done | rfl | (simp only [List.length_drop, List.length_take]; rfl)) ?_
 with_reducible refine (spec_l00In.calls ((rd_T26 l0 0).f3) ((rd_T26 l0 0).f2) 800 t113 _ A9.out).mono ?_
 rintro e w' ⟨rfl, ⟨nd, rfl⟩⟩
 refine ⟨_, rfl, ?_⟩
 refine hK.out _ _ ⟨(bc_ HB.out hw105_0 :), (bc_ HB.out hw105_1 :), (bc_ HB.out hw105_2 :), (bc_ HB.out hw105_3 :), (bc_ HB.out hw107_0 :), (bc_ HB.out hw107_1 :), (bc_ HB.out hw107_2 :), (bc_ HB.out hw107_3 :), (bc_ HB.out hw109_0 :), (bc_ HB.out hw109_1 :), (bc_ HB.out hw109_2 :), (bc_ HB.out hw109_3 :), (bc_ HB.out hw111_0 :), (bc_ HB.out hw111_1 :), (bc_ HB.out hw111_2 :), (bc_ HB.out hw111_3 :), (bc_ HB.out hw112_0 :), (bc_ HB.out hw112_1 :), (bc_ HB.out hw112_2 :), (bc_ HB.out hw112_3 :)⟩ (fun hHeld => ?_)
 clear hK K
 refine norm_ (a' := ?_) ?_ ?_
 rotate_left
 · show Act.put _ (some 31) _ = _
   simp only [Act.put, sA, sB, sC, i64_w, i32_w]
   rfl
 refine p1_ HT_.out 29 32 spec_l22One.d30 ?_
 refine p1_ HT_.out 30 2 spec_l22One.d31 ?_
 refine done_ (done_of HT_.out (by kernel_rfl)) ?_
 try go_wp2
 go_ret
 exact ⟨by first | rfl | (simp [errW_none, errW_some] <;> rfl) | (simp [*, errW_none, errW_some] <;> rfl), by repeat (first | (with_reducible first | exact HB.out | apply below_alloc | apply pw_below_drewN | apply below_drew1) | exact HB.out)⟩
end Go.Proofs.YtjmjbmahljlnlaaDoor.GFnExactCoatText

-- Written by the session's own program (gen.py) out of the translation's print. Lean checks it.
import Derived.Test.YtjmjbmahljlnlaaDoorGFnExactReadCoatx0
import Derived.Test.YtjmjbmahljlnlaaDoorGFnExactReadCoatx1
namespace Go.Proofs.YtjmjbmahljlnlaaDoor.GFnExactReadCoat
open Go.RowKit Go.Proofs.YtjmjbmahljlnlaaDoorW.PrintWords Go.Proofs.YtjmjbmahljlnlaaDoorW.PrintLast Go.Proofs.YtjmjbmahljlnlaaDoorW.PrintMore
attribute [local go_sem] max2_int min2_int max_two min_two max_three min_three max_four min_four   -- for this text's walks alone
set_option linter.unusedVariables false
set_option linter.unusedSimpArgs false

/-! ### spec_l22One: function 16 -/
def spec_l22One.f (k : Nat) (l0 : List (S26)) : Option (Bool) := if 0 < (l0.length : Int) then ((spec_l01Name.f k ((rd_T26 l0 0).f0)).bind fun t105 => (if t105 = true then ((spec_l00In.f ((rd_T26 l0 0).f1) 1 32).bind fun t107 => (if t107 = true then ((spec_l00In.f ((rd_T26 l0 0).f2) 0 400).bind fun t109 => (if t109 = true then ((spec_l00In.f ((rd_T26 l0 0).f3) ((rd_T26 l0 0).f2) 800).bind fun t112 => (some t112)) else (some false))) else (some false))) else (some false))) else (none)
theorem spec_l22One.mono : ∀ a0 k, LeO (spec_l22One.f k a0) (spec_l22One.f (k + 1) a0) := by
  intro a0 k
  unfold spec_l22One.f
  repeat' first
      | (with_reducible exact spec_l01Name.mono _ _)
      | (with_reducible exact LeO.refl _)
      | (with_reducible exact LeO.none _)
      | (with_reducible refine LeO.ite ?_ ?_)
      | (with_reducible refine LeO.bind ?_ (fun _ => ?_))
      | exact spec_l01Name.mono _ _
      | exact LeO.none _
      | refine LeO.ite ?_ ?_
      | refine LeO.bind ?_ (fun _ => ?_)
def spec_l22One.T1 : Bool × List (List Nat × List Nat) := (true, [([], []), ([0], [0]), ([1], [1]), ([2], [2]), ([3], [3]), ([4, 4], [4]), ([5], [5]), ([6, 5], [5, 6]), ([7, 5], [5, 7]), ([8, 5], [5, 8]), ([9, 5, 5], [5, 9]), ([5, 10], [5, 10]), ([11, 10], [11]), ([12], [12]), ([13, 12], [12, 13]), ([14, 12], [12, 14]), ([15, 12], [12, 15]), ([16, 12, 12], [12, 16]), ([12, 17], [12, 17]), ([18, 17], [18]), ([19], [19]), ([20, 19], [19, 20]), ([21, 19], [19, 21]), ([22, 19], [19, 22]), ([19], [19]), ([24, 19], [19, 24]), ([25, 19], [19, 25]), ([26, 19], [19, 26]), ([23, 27, 19, 19], [19, 23, 27]), ([19, 28], [19, 28]), ([29, 28, 0, 1, 2, 3, 4, 5, 6, 7, 8, 9, 10, 11, 12, 13, 14, 15, 16, 17, 18, 19, 20, 21, 22, 23, 24, 25, 26, 27, 28, 29], [29])])
def spec_l22One.B1 : List Nat := [0, 1, 3, 7, 15, 31, 63, 127, 255, 511, 1023, 2047, 4095, 8191, 16383, 32767, 65535, 131071, 262143, 524287, 1048575, 2097151, 4194303, 8388607, 1048575, 17825791, 51380223, 118489087, 268435455, 536870911, 1073741823]
theorem spec_l22One.tab1 : rtab .any (opsOf Tryd.f16 1) = spec_l22One.T1 := by kernel_rfl
theorem spec_l22One.bits1 : waitsOk spec_l22One.T1.2 spec_l22One.B1 = true := by kernel_rfl
open List renaming setIfInBounds_toArray → sA, set_cons_zero → sB, set_cons_succ → sC
open Go.Proofs.YtjmjbmahljlnlaaDoorW.PrintWords.Aside0 renaming mk → mkA
open Go.Proofs.YtjmjbmahljlnlaaDoorX (dt_ bc_ p0_ p1_ bl_ cb_ bs0_ bs1_ bs2_ bs3_ bs4_ bs5_ bs6_ bs7_ bs8_ bs9_ bs10_ bs11_ bs12_)
abbrev spec_l22One.d0 : Array Bool := #[false, false, false, false, false, false, false, false, false, false, false, false, false, false, false, false, false, false, false, false, false, false, false, false, false, false, false, false, false, false, false]
abbrev spec_l22One.d1 : Array Bool := #[true, false, false, false, false, false, false, false, false, false, false, false, false, false, false, false, false, false, false, false, false, false, false, false, false, false, false, false, false, false, false]
abbrev spec_l22One.d2 : Array Bool := #[true, true, false, false, false, false, false, false, false, false, false, false, false, false, false, false, false, false, false, false, false, false, false, false, false, false, false, false, false, false, false]
abbrev spec_l22One.d3 : Array Bool := #[true, true, true, false, false, false, false, false, false, false, false, false, false, false, false, false, false, false, false, false, false, false, false, false, false, false, false, false, false, false, false]
abbrev spec_l22One.d4 : Array Bool := #[true, true, true, true, false, false, false, false, false, false, false, false, false, false, false, false, false, false, false, false, false, false, false, false, false, false, false, false, false, false, false]
abbrev spec_l22One.d5 : Array Bool := #[true, true, true, true, true, false, false, false, false, false, false, false, false, false, false, false, false, false, false, false, false, false, false, false, false, false, false, false, false, false, false]
abbrev spec_l22One.d6 : Array Bool := #[true, true, true, true, true, true, false, false, false, false, false, false, false, false, false, false, false, false, false, false, false, false, false, false, false, false, false, false, false, false, false]
abbrev spec_l22One.d7 : Array Bool := #[true, true, true, true, true, true, true, false, false, false, false, false, false, false, false, false, false, false, false, false, false, false, false, false, false, false, false, false, false, false, false]
abbrev spec_l22One.d8 : Array Bool := #[true, true, true, true, true, true, true, true, false, false, false, false, false, false, false, false, false, false, false, false, false, false, false, false, false, false, false, false, false, false, false]
abbrev spec_l22One.d9 : Array Bool := #[true, true, true, true, true, true, true, true, true, false, false, false, false, false, false, false, false, false, false, false, false, false, false, false, false, false, false, false, false, false, false]
abbrev spec_l22One.d10 : Array Bool := #[true, true, true, true, true, true, true, true, true, true, false, false, false, false, false, false, false, false, false, false, false, false, false, false, false, false, false, false, false, false, false]
abbrev spec_l22One.d11 : Array Bool := #[true, true, true, true, true, true, true, true, true, true, true, false, false, false, false, false, false, false, false, false, false, false, false, false, false, false, false, false, false, false, false]
abbrev spec_l22One.d12 : Array Bool := #[true, true, true, true, true, true, true, true, true, true, true, true, false, false, false, false, false, false, false, false, false, false, false, false, false, false, false, false, false, false, false]
abbrev spec_l22One.d13 : Array Bool := #[true, true, true, true, true, true, true, true, true, true, true, true, true, false, false, false, false, false, false, false, false, false, false, false, false, false, false, false, false, false, false]
abbrev spec_l22One.d14 : Array Bool := #[true, true, true, true, true, true, true, true, true, true, true, true, true, true, false, false, false, false, false, false, false, false, false, false, false, false, false, false, false, false, false]
abbrev spec_l22One.d15 : Array Bool := #[true, true, true, true, true, true, true, true, true, true, true, true, true, true, true, false, false, false, false, false, false, false, false, false, false, false, false, false, false, false, false]
abbrev spec_l22One.d16 : Array Bool := #[true, true, true, true, true, true, true, true, true, true, true, true, true, true, true, true, false, false, false, false, false, false, false, false, false, false, false, false, false, false, false]
abbrev spec_l22One.d17 : Array Bool := #[true, true, true, true, true, true, true, true, true, true, true, true, true, true, true, true, true, false, false, false, false, false, false, false, false, false, false, false, false, false, false]
abbrev spec_l22One.d18 : Array Bool := #[true, true, true, true, true, true, true, true, true, true, true, true, true, true, true, true, true, true, false, false, false, false, false, false, false, false, false, false, false, false, false]
abbrev spec_l22One.d19 : Array Bool := #[true, true, true, true, true, true, true, true, true, true, true, true, true, true, true, true, true, true, true, false, false, false, false, false, false, false, false, false, false, false, false]
abbrev spec_l22One.d20 : Array Bool := #[true, true, true, true, true, true, true, true, true, true, true, true, true, true, true, true, true, true, true, true, false, false, false, false, false, false, false, false, false, false, false]
abbrev spec_l22One.d21 : Array Bool := #[true, true, true, true, true, true, true, true, true, true, true, true, true, true, true, true, true, true, true, true, true, false, false, false, false, false, false, false, false, false, false]
abbrev spec_l22One.d22 : Array Bool := #[true, true, true, true, true, true, true, true, true, true, true, true, true, true, true, true, true, true, true, true, true, true, false, false, false, false, false, false, false, false, false]
abbrev spec_l22One.d23 : Array Bool := #[true, true, true, true, true, true, true, true, true, true, true, true, true, true, true, true, true, true, true, true, true, true, true, false, false, false, false, false, false, false, false]
abbrev spec_l22One.d24 : Array Bool := #[true, true, true, true, true, true, true, true, true, true, true, true, true, true, true, true, true, true, true, true, true, true, true, false, true, false, false, false, false, false, false]
abbrev spec_l22One.d25 : Array Bool := #[true, true, true, true, true, true, true, true, true, true, true, true, true, true, true, true, true, true, true, true, true, true, true, false, true, true, false, false, false, false, false]
abbrev spec_l22One.d26 : Array Bool := #[true, true, true, true, true, true, true, true, true, true, true, true, true, true, true, true, true, true, true, true, true, true, true, false, true, true, true, false, false, false, false]
abbrev spec_l22One.d27 : Array Bool := #[true, true, true, true, true, true, true, true, true, true, true, true, true, true, true, true, true, true, true, true, true, true, true, true, true, true, true, false, false, false, false]
abbrev spec_l22One.d28 : Array Bool := #[true, true, true, true, true, true, true, true, true, true, true, true, true, true, true, true, true, true, true, true, true, true, true, true, true, true, true, true, false, false, false]
abbrev spec_l22One.d29 : Array Bool := #[true, true, true, true, true, true, true, true, true, true, true, true, true, true, true, true, true, true, true, true, true, true, true, true, true, true, true, true, true, false, false]
abbrev spec_l22One.d30 : Array Bool := #[true, true, true, true, true, true, true, true, true, true, true, true, true, true, true, true, true, true, true, true, true, true, true, true, true, true, true, true, true, true, false]
abbrev spec_l22One.d31 : Array Bool := #[true, true, true, true, true, true, true, true, true, true, true, true, true, true, true, true, true, true, true, true, true, true, true, true, true, true, true, true, true, true, true]
abbrev spec_l22One.d32 : Array Bool := #[true, true, true, true, true, true, true, true, true, true, true, true, true, true, true, true, true, true, true, true, true, true, true, true, false, false, false, false, false, false, false]
abbrev spec_l22One.d33 : Array Bool := #[true, true, true, true, true, true, true, true, true, true, true, true, true, true, true, true, true, true, true, true, true, true, true, true, true, false, false, false, false, false, false]
abbrev spec_l22One.d34 : Array Bool := #[true, true, true, true, true, true, true, true, true, true, true, true, true, true, true, true, true, true, true, true, true, true, true, true, true, true, false, false, false, false, false]
set_option maxHeartbeats 8000000 in
set_option maxRecDepth 100000 in
theorem spec_l22One.calls (k : Nat) (A0 : Option Addr) (l0 : List (S26)) (r : Bool) (w : World) (hr0 : Kd.C k26 w A0 l0.length l0) (h : spec_l22One.f k l0 = some r) :
 Calls Tryd.prog 16 #[.pointer A0] w fun e w' => e = .returned (.bool r) ∧ Below w.heap.size w w' := by
 have HR0 := mkA hr0
 clear hr0
 have HB := mkA (Below.refl w.heap.size w)
 have H : (if 0 < (l0.length : Int) then ((spec_l01Name.f k ((rd_T26 l0 0).f0)).bind fun t105 => (if t105 = true then ((spec_l00In.f ((rd_T26 l0 0).f1) 1 32).bind fun t107 => (if t107 = true then ((spec_l00In.f ((rd_T26 l0 0).f2) 0 400).bind fun t109 => (if t109 = true then ((spec_l00In.f ((rd_T26 l0 0).f3) ((rd_T26 l0 0).f2) 800).bind fun t112 => (some t112)) else (some false))) else (some false))) else (some false))) else (none)) = some r := h
 clear h
 by_cases c2 : 0 < (l0.length : Int)
 rotate_left
 · rw [if_neg c2] at H
   exact absurd H (by simp)

 rw [if_pos c2] at H
 have c2b0 : decide (0 < (l0.length : Int)) = true := decide_eq_true c2
 have c2b1 : decide (0 < l0.length) = true := decide_eq_true (by omega)
 clear c2
 replace H := Option.bind_eq_some_iff.mp H
 obtain ⟨t105, A30, H⟩ := H
 replace H : (if t105 = true then ((spec_l00In.f ((rd_T26 l0 0).f1) 1 32).bind fun t107 => (if t107 = true then ((spec_l00In.f ((rd_T26 l0 0).f2) 0 400).bind fun t109 => (if t109 = true then ((spec_l00In.f ((rd_T26 l0 0).f3) ((rd_T26 l0 0).f2) 800).bind fun t112 => (some t112)) else (some false))) else (some false))) else (some false)) = some r := H
 have A3 := mkA A30
 clear A30
 by_cases c4 : t105 = true
 rotate_left
 · replace c4 := Bool.eq_false_iff.mpr c4
   subst c4
   have H1 : (some false) = some r := by rw [if_neg (show ¬ (false = true) by decide)] at H; exact H
   clear H
   have H := H1
   clear H1
   obtain rfl := Option.some.inj H
   go_enter Tryd.func16, Tryd.ntmps16
   try go_wp2
   have n0_ := mkA (below_drew1 HB.out)
   clear HB
   have HB := n0_
   clear n0_
   have p104 : 0 ≤ (0 : Int) := (by omega)
   have q104 : 0 < (l0.length : Int) := dt_
   obtain ⟨ad104, e104, hx104_0, hx104_1, hx104_2, hx104_3⟩ := at0_T26 HR0.out q104
   have hw104_3 := hx104_3
   have hw104_2 := hx104_2
   have hw104_1 := hx104_1
   have hw104_0 := hx104_0
   cases e104
   have qi104 : (0 < l0.length) = True := eq_true (by omega)
   replace hx104_0 := bc_ HB.out hx104_0
   replace hx104_1 := bc_ HB.out hx104_1
   replace hx104_2 := bc_ HB.out hx104_2
   replace hx104_3 := bc_ HB.out hx104_3
   replace p104 := eq_true p104
   replace q104 := eq_true q104
   refine start_ (n := 31) (S := fun w' => w'.cell? ad104 = some (.string ((rd_T26 l0 0).f0)) ∧ w'.cell? ⟨ad104.block, ad104.off + 1, none⟩ = some (.int .i64 ((rd_T26 l0 0).f1)) ∧ w'.cell? ⟨ad104.block, ad104.off + 2, none⟩ = some (.int .i64 ((rd_T26 l0 0).f2)) ∧ w'.cell? ⟨ad104.block, ad104.off + 3, none⟩ = some (.int .i64 ((rd_T26 l0 0).f3))) (ds := []) spec_l22One.d0 (by kernel_rfl) rfl rfl ⟨(bc_ HB.out hw104_0 :), (bc_ HB.out hw104_1 :), (bc_ HB.out hw104_2 :), (bc_ HB.out hw104_3 :)⟩ (fun hHeld => ?_); refine with_tabW spec_l22One.tab1 spec_l22One.bits1 (fun HT_ HW_ => ?_)
   generalize w.drew = w13 at HB hx104_0 hx104_1 hx104_2 hx104_3 hHeld ⊢
   refine p1_ HT_.out 0 3 spec_l22One.d1 ?_
   refine p1_ HT_.out 1 4 spec_l22One.d2 ?_
   refine p1_ HT_.out 2 5 spec_l22One.d3 ?_
   refine take_ (i := 3) (N := some 6) (v := ?_) (a' := ?_) spec_l22One.d4 rfl rfl (take_ofW HT_.out HW_.out (by kernel_rfl)) (fun _ _ _ h => h) (Or.inl ⟨by rfl, ?_⟩) hHeld ?_ ?_
   rotate_left
   · rintro w' ⟨s0, s1, s2, s3⟩
     go_simp
     with_reducible rfl
   rotate_left
   · simp only [Act.put, sA, sB, sC, i64_w, i32_w]
     rfl
   refine one_ (i := 4) (N := some 7) spec_l22One.d5 rfl rfl (one_of HT_.out (by kernel_rfl)) (by decide) (fun K hK => ?_)
   refine goes_ Tryd.func25 (by kernel_rfl) rfl #[.string ((rd_T26 l0 0).f0)] (by rfl) rfl rfl (by (try simp only [List.map_toArray, List.map_cons, List.map_nil]); first | done | rfl | (simp only [List.length_drop, List.length_take]; rfl)) ?_
   with_reducible refine (spec_l01Name.calls k ((rd_T26 l0 0).f0) false _ A3.out).mono ?_
   rintro e w' ⟨rfl, ⟨nd, rfl⟩⟩
   refine ⟨_, rfl, ?_⟩
   refine hK.out _ _ ⟨(bc_ HB.out hw104_0 :), (bc_ HB.out hw104_1 :), (bc_ HB.out hw104_2 :), (bc_ HB.out hw104_3 :)⟩ (fun hHeld => ?_)
   clear hK K
   refine norm_ (a' := ?_) ?_ ?_
   rotate_left
   · show Act.put _ (some 7) _ = _
     simp only [Act.put, sA, sB, sC, i64_w, i32_w]
     rfl
   refine p1_ HT_.out 5 8 spec_l22One.d6 ?_
   refine p0_ HT_.out 6 9 spec_l22One.d7 ?_
   refine p0_ HT_.out 7 10 spec_l22One.d8 ?_
   refine p0_ HT_.out 8 11 spec_l22One.d9 ?_
   refine p0_ HT_.out 9 12 spec_l22One.d10 ?_
   refine p0_ HT_.out 10 13 spec_l22One.d11 ?_
   refine p1_ HT_.out 11 14 spec_l22One.d12 ?_
   refine p1_ HT_.out 12 15 spec_l22One.d13 ?_
   refine p0_ HT_.out 13 16 spec_l22One.d14 ?_
   refine p0_ HT_.out 14 17 spec_l22One.d15 ?_
   refine p0_ HT_.out 15 18 spec_l22One.d16 ?_
   refine p0_ HT_.out 16 19 spec_l22One.d17 ?_
   refine p0_ HT_.out 17 20 spec_l22One.d18 ?_
   refine p1_ HT_.out 18 21 spec_l22One.d19 ?_
   refine p1_ HT_.out 19 22 spec_l22One.d20 ?_
   refine p0_ HT_.out 20 23 spec_l22One.d21 ?_
   refine p0_ HT_.out 21 24 spec_l22One.d22 ?_
   refine p0_ HT_.out 22 25 spec_l22One.d23 ?_
   refine p0_ HT_.out 23 26 spec_l22One.d32 ?_
   refine p0_ HT_.out 24 27 spec_l22One.d33 ?_
   refine p0_ HT_.out 25 28 spec_l22One.d34 ?_
   refine p0_ HT_.out 26 29 spec_l22One.d27 ?_
   refine p0_ HT_.out 27 30 spec_l22One.d28 ?_
   refine p0_ HT_.out 28 31 spec_l22One.d29 ?_
   refine p1_ HT_.out 29 32 spec_l22One.d30 ?_
   refine p1_ HT_.out 30 2 spec_l22One.d31 ?_
   refine done_ (done_of HT_.out (by kernel_rfl)) ?_
   try go_wp2
   go_ret
   exact ⟨by first | rfl | (simp [errW_none, errW_some] <;> rfl) | (simp [*, errW_none, errW_some] <;> rfl), by repeat (first | (with_reducible first | exact HB.out | apply below_alloc | apply pw_below_drewN | apply below_drew1) | exact HB.out)⟩
 subst c4
 have H1 : ((spec_l00In.f ((rd_T26 l0 0).f1) 1 32).bind fun t107 => (if t107 = true then ((spec_l00In.f ((rd_T26 l0 0).f2) 0 400).bind fun t109 => (if t109 = true then ((spec_l00In.f ((rd_T26 l0 0).f3) ((rd_T26 l0 0).f2) 800).bind fun t112 => (some t112)) else (some false))) else (some false))) = some r := by rw [if_pos rfl] at H; exact H
 clear H
 have H := H1
 clear H1
 replace H := Option.bind_eq_some_iff.mp H
 obtain ⟨t107, A50, H⟩ := H
 replace H : (if t107 = true then ((spec_l00In.f ((rd_T26 l0 0).f2) 0 400).bind fun t109 => (if t109 = true then ((spec_l00In.f ((rd_T26 l0 0).f3) ((rd_T26 l0 0).f2) 800).bind fun t112 => (some t112)) else (some false))) else (some false)) = some r := H
 have A5 := mkA A50
 clear A50
 by_cases c6 : t107 = true
 rotate_left
 · replace c6 := Bool.eq_false_iff.mpr c6
   subst c6
   have H1 : (some false) = some r := by rw [if_neg (show ¬ (false = true) by decide)] at H; exact H
   clear H
   have H := H1
   clear H1
   obtain rfl := Option.some.inj H
   go_enter Tryd.func16, Tryd.ntmps16
   try go_wp2
   have n0_ := mkA (below_drew1 HB.out)
   clear HB
   have HB := n0_
   clear n0_
   have p104 : 0 ≤ (0 : Int) := (by omega)
   have q104 : 0 < (l0.length : Int) := dt_
   obtain ⟨ad104, e104, hx104_0, hx104_1, hx104_2, hx104_3⟩ := at0_T26 HR0.out q104
   have hw104_3 := hx104_3
   have hw104_2 := hx104_2
   have hw104_1 := hx104_1
   have hw104_0 := hx104_0
   cases e104
   have qi104 : (0 < l0.length) = True := eq_true (by omega)
   replace hx104_0 := bc_ HB.out hx104_0
   replace hx104_1 := bc_ HB.out hx104_1
   replace hx104_2 := bc_ HB.out hx104_2
   replace hx104_3 := bc_ HB.out hx104_3
   replace p104 := eq_true p104
   replace q104 := eq_true q104
   have p106 : 0 ≤ (0 : Int) := (by omega)
   have q106 : 0 < (l0.length : Int) := dt_
   obtain ⟨ad106, e106, hx106_0, hx106_1, hx106_2, hx106_3⟩ := at0_T26 HR0.out q106
   have hw106_3 := hx106_3
   have hw106_2 := hx106_2
   have hw106_1 := hx106_1
   have hw106_0 := hx106_0
   obtain rfl : ad104 = ad106 := (by injection e106)
   have qi106 : (0 < l0.length) = True := eq_true (by omega)
   replace hx106_0 := bc_ HB.out hx106_0
   replace hx106_1 := bc_ HB.out hx106_1
   replace hx106_2 := bc_ HB.out hx106_2
   replace hx106_3 := bc_ HB.out hx106_3
   replace p106 := eq_true p106
   replace q106 := eq_true q106
   refine start_ (n := 31) (S := fun w' => w'.cell? ad104 = some (.string ((rd_T26 l0 0).f0)) ∧ w'.cell? ⟨ad104.block, ad104.off + 1, none⟩ = some (.int .i64 ((rd_T26 l0 0).f1)) ∧ w'.cell? ⟨ad104.block, ad104.off + 2, none⟩ = some (.int .i64 ((rd_T26 l0 0).f2)) ∧ w'.cell? ⟨ad104.block, ad104.off + 3, none⟩ = some (.int .i64 ((rd_T26 l0 0).f3)) ∧ w'.cell? ad104 = some (.string ((rd_T26 l0 0).f0)) ∧ w'.cell? ⟨ad104.block, ad104.off + 1, none⟩ = some (.int .i64 ((rd_T26 l0 0).f1)) ∧ w'.cell? ⟨ad104.block, ad104.off + 2, none⟩ = some (.int .i64 ((rd_T26 l0 0).f2)) ∧ w'.cell? ⟨ad104.block, ad104.off + 3, none⟩ = some (.int .i64 ((rd_T26 l0 0).f3))) (ds := []) spec_l22One.d0 (by kernel_rfl) rfl rfl ⟨(bc_ HB.out hw104_0 :), (bc_ HB.out hw104_1 :), (bc_ HB.out hw104_2 :), (bc_ HB.out hw104_3 :), (bc_ HB.out hw106_0 :), (bc_ HB.out hw106_1 :), (bc_ HB.out hw106_2 :), (bc_ HB.out hw106_3 :)⟩ (fun hHeld => ?_); refine with_tabW spec_l22One.tab1 spec_l22One.bits1 (fun HT_ HW_ => ?_)
   generalize w.drew = w12 at HB hx104_0 hx104_1 hx104_2 hx104_3 hx106_0 hx106_1 hx106_2 hx106_3 hHeld ⊢
   refine p1_ HT_.out 0 3 spec_l22One.d1 ?_
   refine p1_ HT_.out 1 4 spec_l22One.d2 ?_
   refine p1_ HT_.out 2 5 spec_l22One.d3 ?_
   refine take_ (i := 3) (N := some 6) (v := ?_) (a' := ?_) spec_l22One.d4 rfl rfl (take_ofW HT_.out HW_.out (by kernel_rfl)) (fun _ _ _ h => h) (Or.inl ⟨by rfl, ?_⟩) hHeld ?_ ?_
   rotate_left
   · rintro w' ⟨s0, s1, s2, s3, s4, s5, s6, s7⟩
     go_simp
     with_reducible rfl
   rotate_left
   · simp only [Act.put, sA, sB, sC, i64_w, i32_w]
     rfl
   refine one_ (i := 4) (N := some 7) spec_l22One.d5 rfl rfl (one_of HT_.out (by kernel_rfl)) (by decide) (fun K hK => ?_)
   refine goes_ Tryd.func25 (by kernel_rfl) rfl #[.string ((rd_T26 l0 0).f0)] (by rfl) rfl rfl (by (try simp only [List.map_toArray, List.map_cons, List.map_nil]); first | done | rfl | (simp only [List.length_drop, List.length_take]; rfl)) ?_
   with_reducible refine (spec_l01Name.calls k ((rd_T26 l0 0).f0) true _ A3.out).mono ?_
   rintro e w' ⟨rfl, ⟨nd, rfl⟩⟩
   refine ⟨_, rfl, ?_⟩
   refine hK.out _ _ ⟨(bc_ HB.out hw104_0 :), (bc_ HB.out hw104_1 :), (bc_ HB.out hw104_2 :), (bc_ HB.out hw104_3 :), (bc_ HB.out hw106_0 :), (bc_ HB.out hw106_1 :), (bc_ HB.out hw106_2 :), (bc_ HB.out hw106_3 :)⟩ (fun hHeld => ?_)
   clear hK K
   refine norm_ (a' := ?_) ?_ ?_
   rotate_left
   · show Act.put _ (some 7) _ = _
     simp only [Act.put, sA, sB, sC, i64_w, i32_w]
     rfl
   refine p1_ HT_.out 5 8 spec_l22One.d6 ?_
   refine p1_ HT_.out 6 9 spec_l22One.d7 ?_
   refine p1_ HT_.out 7 10 spec_l22One.d8 ?_
   refine p1_ HT_.out 8 11 spec_l22One.d9 ?_
   refine take_ (i := 9) (N := some 12) (v := ?_) (a' := ?_) spec_l22One.d10 rfl rfl (take_ofW HT_.out HW_.out (by kernel_rfl)) (fun _ _ _ h => h) (Or.inl ⟨by rfl, ?_⟩) hHeld ?_ ?_
   rotate_left
   · rintro w' ⟨s0, s1, s2, s3, s4, s5, s6, s7⟩
     go_simp
     with_reducible rfl
   rotate_left
   · simp only [Act.put, sA, sB, sC, i64_w, i32_w]
     rfl
   refine one_ (i := 10) (N := some 13) spec_l22One.d11 rfl rfl (one_of HT_.out (by kernel_rfl)) (by decide) (fun K hK => ?_)
   refine goes_ Tryd.func26 (by kernel_rfl) rfl #[.int .i64 ((rd_T26 l0 0).f1), .int .i64 1, .int .i64 32] (by rfl) rfl rfl (by (try simp only [List.map_toArray, List.map_cons, List.map_nil]); first | done | rfl | (simp only [List.length_drop, List.length_take]; rfl)) ?_
   with_reducible refine (spec_l00In.calls ((rd_T26 l0 0).f1) 1 32 false _ A5.out).mono ?_
   rintro e w' ⟨rfl, ⟨nd, rfl⟩⟩
   refine ⟨_, rfl, ?_⟩
   refine hK.out _ _ ⟨(bc_ HB.out hw104_0 :), (bc_ HB.out hw104_1 :), (bc_ HB.out hw104_2 :), (bc_ HB.out hw104_3 :), (bc_ HB.out hw106_0 :), (bc_ HB.out hw106_1 :), (bc_ HB.out hw106_2 :), (bc_ HB.out hw106_3 :)⟩ (fun hHeld => ?_)
   clear hK K
   refine norm_ (a' := ?_) ?_ ?_
   rotate_left
   · show Act.put _ (some 13) _ = _
     simp only [Act.put, sA, sB, sC, i64_w, i32_w]
     rfl
   refine p1_ HT_.out 11 14 spec_l22One.d12 ?_
   refine p1_ HT_.out 12 15 spec_l22One.d13 ?_
   refine p0_ HT_.out 13 16 spec_l22One.d14 ?_
   refine p0_ HT_.out 14 17 spec_l22One.d15 ?_
   refine p0_ HT_.out 15 18 spec_l22One.d16 ?_
   refine p0_ HT_.out 16 19 spec_l22One.d17 ?_
   refine p0_ HT_.out 17 20 spec_l22One.d18 ?_
   refine p1_ HT_.out 18 21 spec_l22One.d19 ?_
   refine p1_ HT_.out 19 22 spec_l22One.d20 ?_
   refine p0_ HT_.out 20 23 spec_l22One.d21 ?_
   refine p0_ HT_.out 21 24 spec_l22One.d22 ?_
   refine p0_ HT_.out 22 25 spec_l22One.d23 ?_
   refine p0_ HT_.out 23 26 spec_l22One.d32 ?_
   refine p0_ HT_.out 24 27 spec_l22One.d33 ?_
   refine p0_ HT_.out 25 28 spec_l22One.d34 ?_
   refine p0_ HT_.out 26 29 spec_l22One.d27 ?_
   refine p0_ HT_.out 27 30 spec_l22One.d28 ?_
   refine p0_ HT_.out 28 31 spec_l22One.d29 ?_
   refine p1_ HT_.out 29 32 spec_l22One.d30 ?_
   refine p1_ HT_.out 30 2 spec_l22One.d31 ?_
   refine done_ (done_of HT_.out (by kernel_rfl)) ?_
   try go_wp2
   go_ret
   exact ⟨by first | rfl | (simp [errW_none, errW_some] <;> rfl) | (simp [*, errW_none, errW_some] <;> rfl), by repeat (first | (with_reducible first | exact HB.out | apply below_alloc | apply pw_below_drewN | apply below_drew1) | exact HB.out)⟩
 subst c6
 have H1 : ((spec_l00In.f ((rd_T26 l0 0).f2) 0 400).bind fun t109 => (if t109 = true then ((spec_l00In.f ((rd_T26 l0 0).f3) ((rd_T26 l0 0).f2) 800).bind fun t112 => (some t112)) else (some false))) = some r := by rw [if_pos rfl] at H; exact H
 clear H
 have H := H1
 clear H1
 replace H := Option.bind_eq_some_iff.mp H
 obtain ⟨t109, A70, H⟩ := H
 replace H : (if t109 = true then ((spec_l00In.f ((rd_T26 l0 0).f3) ((rd_T26 l0 0).f2) 800).bind fun t112 => (some t112)) else (some false)) = some r := H
 have A7 := mkA A70
 clear A70
 by_cases c8 : t109 = true
 rotate_left
 · replace c8 := Bool.eq_false_iff.mpr c8
   subst c8
   have H1 : (some false) = some r := by rw [if_neg (show ¬ (false = true) by decide)] at H; exact H
   clear H
   have H := H1
   clear H1
   obtain rfl := Option.some.inj H
   go_enter Tryd.func16, Tryd.ntmps16
   try go_wp2
   have n0_ := mkA (below_drew1 HB.out)
   clear HB
   have HB := n0_
   clear n0_
   have p104 : 0 ≤ (0 : Int) := (by omega)
   have q104 : 0 < (l0.length : Int) := dt_
   obtain ⟨ad104, e104, hx104_0, hx104_1, hx104_2, hx104_3⟩ := at0_T26 HR0.out q104
   have hw104_3 := hx104_3
   have hw104_2 := hx104_2
   have hw104_1 := hx104_1
   have hw104_0 := hx104_0
   cases e104
   have qi104 : (0 < l0.length) = True := eq_true (by omega)
   replace hx104_0 := bc_ HB.out hx104_0
   replace hx104_1 := bc_ HB.out hx104_1
   replace hx104_2 := bc_ HB.out hx104_2
   replace hx104_3 := bc_ HB.out hx104_3
   replace p104 := eq_true p104
   replace q104 := eq_true q104
   have p106 : 0 ≤ (0 : Int) := (by omega)
   have q106 : 0 < (l0.length : Int) := dt_
   obtain ⟨ad106, e106, hx106_0, hx106_1, hx106_2, hx106_3⟩ := at0_T26 HR0.out q106
   have hw106_3 := hx106_3
   have hw106_2 := hx106_2
   have hw106_1 := hx106_1
   have hw106_0 := hx106_0
   obtain rfl : ad104 = ad106 := (by injection e106)
   have qi106 : (0 < l0.length) = True := eq_true (by omega)
   replace hx106_0 := bc_ HB.out hx106_0
   replace hx106_1 := bc_ HB.out hx106_1
   replace hx106_2 := bc_ HB.out hx106_2
   replace hx106_3 := bc_ HB.out hx106_3
   replace p106 := eq_true p106
   replace q106 := eq_true q106
   have p108 : 0 ≤ (0 : Int) := (by omega)
   have q108 : 0 < (l0.length : Int) := dt_
   obtain ⟨ad108, e108, hx108_0, hx108_1, hx108_2, hx108_3⟩ := at0_T26 HR0.out q108
   have hw108_3 := hx108_3
   have hw108_2 := hx108_2
   have hw108_1 := hx108_1
   have hw108_0 := hx108_0
   obtain rfl : ad104 = ad108 := (by injection e108)
   have qi108 : (0 < l0.length) = True := eq_true (by omega)
   replace hx108_0 := bc_ HB.out hx108_0
   replace hx108_1 := bc_ HB.out hx108_1
   replace hx108_2 := bc_ HB.out hx108_2
   replace hx108_3 := bc_ HB.out hx108_3
   replace p108 := eq_true p108
   replace q108 := eq_true q108
   refine start_ (n := 31) (S := fun w' => w'.cell? ad104 = some (.string ((rd_T26 l0 0).f0)) ∧ w'.cell? ⟨ad104.block, ad104.off + 1, none⟩ = some (.int .i64 ((rd_T26 l0 0).f1)) ∧ w'.cell? ⟨ad104.block, ad104.off + 2, none⟩ = some (.int .i64 ((rd_T26 l0 0).f2)) ∧ w'.cell? ⟨ad104.block, ad104.off + 3, none⟩ = some (.int .i64 ((rd_T26 l0 0).f3)) ∧ w'.cell? ad104 = some (.string ((rd_T26 l0 0).f0)) ∧ w'.cell? ⟨ad104.block, ad104.off + 1, none⟩ = some (.int .i64 ((rd_T26 l0 0).f1)) ∧ w'.cell? ⟨ad104.block, ad104.off + 2, none⟩ = some (.int .i64 ((rd_T26 l0 0).f2)) ∧ w'.cell? ⟨ad104.block, ad104.off + 3, none⟩ = some (.int .i64 ((rd_T26 l0 0).f3)) ∧ w'.cell? ad104 = some (.string ((rd_T26 l0 0).f0)) ∧ w'.cell? ⟨ad104.block, ad104.off + 1, none⟩ = some (.int .i64 ((rd_T26 l0 0).f1)) ∧ w'.cell? ⟨ad104.block, ad104.off + 2, none⟩ = some (.int .i64 ((rd_T26 l0 0).f2)) ∧ w'.cell? ⟨ad104.block, ad104.off + 3, none⟩ = some (.int .i64 ((rd_T26 l0 0).f3))) (ds := []) spec_l22One.d0 (by kernel_rfl) rfl rfl ⟨(bc_ HB.out hw104_0 :), (bc_ HB.out hw104_1 :), (bc_ HB.out hw104_2 :), (bc_ HB.out hw104_3 :), (bc_ HB.out hw106_0 :), (bc_ HB.out hw106_1 :), (bc_ HB.out hw106_2 :), (bc_ HB.out hw106_3 :), (bc_ HB.out hw108_0 :), (bc_ HB.out hw108_1 :), (bc_ HB.out hw108_2 :), (bc_ HB.out hw108_3 :)⟩ (fun hHeld => ?_); refine with_tabW spec_l22One.tab1 spec_l22One.bits1 (fun HT_ HW_ => ?_)
   generalize w.drew = w11 at HB hx104_0 hx104_1 hx104_2 hx104_3 hx106_0 hx106_1 hx106_2 hx106_3 hx108_0 hx108_1 hx108_2 hx108_3 hHeld ⊢
   refine p1_ HT_.out 0 3 spec_l22One.d1 ?_
   refine p1_ HT_.out 1 4 spec_l22One.d2 ?_
   refine p1_ HT_.out 2 5 spec_l22One.d3 ?_
   refine take_ (i := 3) (N := some 6) (v := ?_) (a' := ?_) spec_l22One.d4 rfl rfl (take_ofW HT_.out HW_.out (by kernel_rfl)) (fun _ _ _ h => h) (Or.inl ⟨by rfl, ?_⟩) hHeld ?_ ?_
   rotate_left
   · rintro w' ⟨s0, s1, s2, s3, s4, s5, s6, s7, s8, s9, s10, s11⟩
     go_simp
     with_reducible rfl
   rotate_left
   · simp only [Act.put, sA, sB, sC, i64_w, i32_w]
     rfl
   refine one_ (i := 4) (N := some 7) spec_l22One.d5 rfl rfl (one_of HT_.out (by kernel_rfl)) (by decide) (fun K hK => ?_)
   refine goes_ Tryd.func25 (by kernel_rfl) rfl #[.string ((rd_T26 l0 0).f0)] (by rfl) rfl rfl (by (try simp only [List.map_toArray, List.map_cons, List.map_nil]); first | done | rfl | (simp only [List.length_drop, List.length_take]; rfl)) ?_
   with_reducible refine (spec_l01Name.calls k ((rd_T26 l0 0).f0) true _ A3.out).mono ?_
   rintro e w' ⟨rfl, ⟨nd, rfl⟩⟩
   refine ⟨_, rfl, ?_⟩
   refine hK.out _ _ ⟨(bc_ HB.out hw104_0 :), (bc_ HB.out hw104_1 :), (bc_ HB.out hw104_2 :), (bc_ HB.out hw104_3 :), (bc_ HB.out hw106_0 :), (bc_ HB.out hw106_1 :), (bc_ HB.out hw106_2 :), (bc_ HB.out hw106_3 :), (bc_ HB.out hw108_0 :), (bc_ HB.out hw108_1 :), (bc_ HB.out hw108_2 :), (bc_ HB.out hw108_3 :)⟩ (fun hHeld => ?_)
   clear hK K
   refine norm_ (a' := ?_) ?_ ?_
   rotate_left
   · show Act.put _ (some 7) _ = _
     simp only [Act.put, sA, sB, sC, i64_w, i32_w]
     rfl
   refine p1_ HT_.out 5 8 spec_l22One.d6 ?_
   refine p1_ HT_.out 6 9 spec_l22One.d7 ?_
   refine p1_ HT_.out 7 10 spec_l22One.d8 ?_
   refine p1_ HT_.out 8 11 spec_l22One.d9 ?_
   refine take_ (i := 9) (N := some 12) (v := ?_) (a' := ?_) spec_l22One.d10 rfl rfl (take_ofW HT_.out HW_.out (by kernel_rfl)) (fun _ _ _ h => h) (Or.inl ⟨by rfl, ?_⟩) hHeld ?_ ?_
   rotate_left
   · rintro w' ⟨s0, s1, s2, s3, s4, s5, s6, s7, s8, s9, s10, s11⟩
     go_simp
     with_reducible rfl
   rotate_left
   · simp only [Act.put, sA, sB, sC, i64_w, i32_w]
     rfl
   refine one_ (i := 10) (N := some 13) spec_l22One.d11 rfl rfl (one_of HT_.out (by kernel_rfl)) (by decide) (fun K hK => ?_)
   refine goes_ Tryd.func26 (by kernel_rfl) rfl #[.int .i64 ((rd_T26 l0 0).f1), .int .i64 1, .int .i64 32] (by rfl) rfl rfl (by (try simp only [List.map_toArray, List.map_cons, List.map_nil]); first | done | rfl | (simp only [List.length_drop, List.length_take]; rfl)) ?_
   with_reducible refine (spec_l00In.calls ((rd_T26 l0 0).f1) 1 32 true _ A5.out).mono ?_
   rintro e w' ⟨rfl, ⟨nd, rfl⟩⟩
   refine ⟨_, rfl, ?_⟩
   refine hK.out _ _ ⟨(bc_ HB.out hw104_0 :), (bc_ HB.out hw104_1 :), (bc_ HB.out hw104_2 :), (bc_ HB.out hw104_3 :), (bc_ HB.out hw106_0 :), (bc_ HB.out hw106_1 :), (bc_ HB.out hw106_2 :), (bc_ HB.out hw106_3 :), (bc_ HB.out hw108_0 :), (bc_ HB.out hw108_1 :), (bc_ HB.out hw108_2 :), (bc_ HB.out hw108_3 :)⟩ (fun hHeld => ?_)
   clear hK K
   refine norm_ (a' := ?_) ?_ ?_
   rotate_left
   · show Act.put _ (some 13) _ = _
     simp only [Act.put, sA, sB, sC, i64_w, i32_w]
     rfl
   refine p1_ HT_.out 11 14 spec_l22One.d12 ?_
   refine p1_ HT_.out 12 15 spec_l22One.d13 ?_
   refine p1_ HT_.out 13 16 spec_l22One.d14 ?_
   refine p1_ HT_.out 14 17 spec_l22One.d15 ?_
   refine p1_ HT_.out 15 18 spec_l22One.d16 ?_
   refine take_ (i := 16) (N := some 19) (v := ?_) (a' := ?_) spec_l22One.d17 rfl rfl (take_ofW HT_.out HW_.out (by kernel_rfl)) (fun _ _ _ h => h) (Or.inl ⟨by rfl, ?_⟩) hHeld ?_ ?_
   rotate_left
   · rintro w' ⟨s0, s1, s2, s3, s4, s5, s6, s7, s8, s9, s10, s11⟩
     go_simp
     with_reducible rfl
   rotate_left
   · simp only [Act.put, sA, sB, sC, i64_w, i32_w]
     rfl
   refine one_ (i := 17) (N := some 20) spec_l22One.d18 rfl rfl (one_of HT_.out (by kernel_rfl)) (by decide) (fun K hK => ?_)
   refine goes_ Tryd.func26 (by kernel_rfl) rfl #[.int .i64 ((rd_T26 l0 0).f2), .int .i64 0, .int .i64 400] (by rfl) rfl rfl (by (try simp only [List.map_toArray, List.map_cons, List.map_nil]); first | done | rfl | (simp only [List.length_drop, List.length_take]; rfl)) ?_
   with_reducible refine (spec_l00In.calls ((rd_T26 l0 0).f2) 0 400 false _ A7.out).mono ?_
   rintro e w' ⟨rfl, ⟨nd, rfl⟩⟩
   refine ⟨_, rfl, ?_⟩
   refine hK.out _ _ ⟨(bc_ HB.out hw104_0 :), (bc_ HB.out hw104_1 :), (bc_ HB.out hw104_2 :), (bc_ HB.out hw104_3 :), (bc_ HB.out hw106_0 :), (bc_ HB.out hw106_1 :), (bc_ HB.out hw106_2 :), (bc_ HB.out hw106_3 :), (bc_ HB.out hw108_0 :), (bc_ HB.out hw108_1 :), (bc_ HB.out hw108_2 :), (bc_ HB.out hw108_3 :)⟩ (fun hHeld => ?_)
   clear hK K
   refine norm_ (a' := ?_) ?_ ?_
   rotate_left
   · show Act.put _ (some 20) _ = _
     simp only [Act.put, sA, sB, sC, i64_w, i32_w]
     rfl
   refine p1_ HT_.out 18 21 spec_l22One.d19 ?_
   refine p1_ HT_.out 19 22 spec_l22One.d20 ?_
   refine p0_ HT_.out 20 23 spec_l22One.d21 ?_
   refine p0_ HT_.out 21 24 spec_l22One.d22 ?_
   refine p0_ HT_.out 22 25 spec_l22One.d23 ?_
   refine p0_ HT_.out 23 26 spec_l22One.d32 ?_
   refine p0_ HT_.out 24 27 spec_l22One.d33 ?_
   refine p0_ HT_.out 25 28 spec_l22One.d34 ?_
   refine p0_ HT_.out 26 29 spec_l22One.d27 ?_
   refine p0_ HT_.out 27 30 spec_l22One.d28 ?_
   refine p0_ HT_.out 28 31 spec_l22One.d29 ?_
   refine p1_ HT_.out 29 32 spec_l22One.d30 ?_
   refine p1_ HT_.out 30 2 spec_l22One.d31 ?_
   refine done_ (done_of HT_.out (by kernel_rfl)) ?_
   try go_wp2
   go_ret
   exact ⟨by first | rfl | (simp [errW_none, errW_some] <;> rfl) | (simp [*, errW_none, errW_some] <;> rfl), by repeat (first | (with_reducible first | exact HB.out | apply below_alloc | apply pw_below_drewN | apply below_drew1) | exact HB.out)⟩
 subst c8
 have H1 : ((spec_l00In.f ((rd_T26 l0 0).f3) ((rd_T26 l0 0).f2) 800).bind fun t112 => (some t112)) = some r := by rw [if_pos rfl] at H; exact H
 clear H
 have H := H1
 clear H1
 replace H := Option.bind_eq_some_iff.mp H
 obtain ⟨t112, A90, H⟩ := H
 replace H : (some t112) = some r := H
 have A9 := mkA A90
 clear A90
 obtain rfl := Option.some.inj H
 go_enter Tryd.func16, Tryd.ntmps16
 try go_wp2
 have n0_ := mkA (below_drew1 HB.out)
 clear HB
 have HB := n0_
 clear n0_
 have p104 : 0 ≤ (0 : Int) := (by omega)
 have q104 : 0 < (l0.length : Int) := dt_
 obtain ⟨ad104, e104, hx104_0, hx104_1, hx104_2, hx104_3⟩ := at0_T26 HR0.out q104
 have hw104_3 := hx104_3
 have hw104_2 := hx104_2
 have hw104_1 := hx104_1
 have hw104_0 := hx104_0
 cases e104
 have qi104 : (0 < l0.length) = True := eq_true (by omega)
 replace hx104_0 := bc_ HB.out hx104_0
 replace hx104_1 := bc_ HB.out hx104_1
 replace hx104_2 := bc_ HB.out hx104_2
 replace hx104_3 := bc_ HB.out hx104_3
 replace p104 := eq_true p104
 replace q104 := eq_true q104
 have p106 : 0 ≤ (0 : Int) := (by omega)
 have q106 : 0 < (l0.length : Int) := dt_
 obtain ⟨ad106, e106, hx106_0, hx106_1, hx106_2, hx106_3⟩ := at0_T26 HR0.out q106
 have hw106_3 := hx106_3
 have hw106_2 := hx106_2
 have hw106_1 := hx106_1
 have hw106_0 := hx106_0
 obtain rfl : ad104 = ad106 := (by injection e106)
 have qi106 : (0 < l0.length) = True := eq_true (by omega)
 replace hx106_0 := bc_ HB.out hx106_0
 replace hx106_1 := bc_ HB.out hx106_1
 replace hx106_2 := bc_ HB.out hx106_2
 replace hx106_3 := bc_ HB.out hx106_3
 replace p106 := eq_true p106
 replace q106 := eq_true q106
 have p108 : 0 ≤ (0 : Int) := (by omega)
 have q108 : 0 < (l0.length : Int) := dt_
 obtain ⟨ad108, e108, hx108_0, hx108_1, hx108_2, hx108_3⟩ := at0_T26 HR0.out q108
 have hw108_3 := hx108_3
 have hw108_2 := hx108_2
 have hw108_1 := hx108_1
 have hw108_0 := hx108_0
 obtain rfl : ad104 = ad108 := (by injection e108)
 have qi108 : (0 < l0.length) = True := eq_true (by omega)
 replace hx108_0 := bc_ HB.out hx108_0
 replace hx108_1 := bc_ HB.out hx108_1
 replace hx108_2 := bc_ HB.out hx108_2
 replace hx108_3 := bc_ HB.out hx108_3
 replace p108 := eq_true p108
 replace q108 := eq_true q108
 have p110 : 0 ≤ (0 : Int) := (by omega)
 have q110 : 0 < (l0.length : Int) := dt_
 obtain ⟨ad110, e110, hx110_0, hx110_1, hx110_2, hx110_3⟩ := at0_T26 HR0.out q110
 have hw110_3 := hx110_3
 have hw110_2 := hx110_2
 have hw110_1 := hx110_1
 have hw110_0 := hx110_0
 obtain rfl : ad104 = ad110 := (by injection e110)
 have qi110 : (0 < l0.length) = True := eq_true (by omega)
 replace hx110_0 := bc_ HB.out hx110_0
 replace hx110_1 := bc_ HB.out hx110_1
 replace hx110_2 := bc_ HB.out hx110_2
 replace hx110_3 := bc_ HB.out hx110_3
 replace p110 := eq_true p110
 replace q110 := eq_true q110
 have p111 : 0 ≤ (0 : Int) := (by omega)
 have q111 : 0 < (l0.length : Int) := dt_
 obtain ⟨ad111, e111, hx111_0, hx111_1, hx111_2, hx111_3⟩ := at0_T26 HR0.out q111
 have hw111_3 := hx111_3
 have hw111_2 := hx111_2
 have hw111_1 := hx111_1
 have hw111_0 := hx111_0
 obtain rfl : ad104 = ad111 := (by injection e111)
 have qi111 : (0 < l0.length) = True := eq_true (by omega)
 replace hx111_0 := bc_ HB.out hx111_0
 replace hx111_1 := bc_ HB.out hx111_1
 replace hx111_2 := bc_ HB.out hx111_2
 replace hx111_3 := bc_ HB.out hx111_3
 replace p111 := eq_true p111
 replace q111 := eq_true q111
 refine start_ (n := 31) (S := fun w' => w'.cell? ad104 = some (.string ((rd_T26 l0 0).f0)) ∧ w'.cell? ⟨ad104.block, ad104.off + 1, none⟩ = some (.int .i64 ((rd_T26 l0 0).f1)) ∧ w'.cell? ⟨ad104.block, ad104.off + 2, none⟩ = some (.int .i64 ((rd_T26 l0 0).f2)) ∧ w'.cell? ⟨ad104.block, ad104.off + 3, none⟩ = some (.int .i64 ((rd_T26 l0 0).f3)) ∧ w'.cell? ad104 = some (.string ((rd_T26 l0 0).f0)) ∧ w'.cell? ⟨ad104.block, ad104.off + 1, none⟩ = some (.int .i64 ((rd_T26 l0 0).f1)) ∧ w'.cell? ⟨ad104.block, ad104.off + 2, none⟩ = some (.int .i64 ((rd_T26 l0 0).f2)) ∧ w'.cell? ⟨ad104.block, ad104.off + 3, none⟩ = some (.int .i64 ((rd_T26 l0 0).f3)) ∧ w'.cell? ad104 = some (.string ((rd_T26 l0 0).f0)) ∧ w'.cell? ⟨ad104.block, ad104.off + 1, none⟩ = some (.int .i64 ((rd_T26 l0 0).f1)) ∧ w'.cell? ⟨ad104.block, ad104.off + 2, none⟩ = some (.int .i64 ((rd_T26 l0 0).f2)) ∧ w'.cell? ⟨ad104.block, ad104.off + 3, none⟩ = some (.int .i64 ((rd_T26 l0 0).f3)) ∧ w'.cell? ad104 = some (.string ((rd_T26 l0 0).f0)) ∧ w'.cell? ⟨ad104.block, ad104.off + 1, none⟩ = some (.int .i64 ((rd_T26 l0 0).f1)) ∧ w'.cell? ⟨ad104.block, ad104.off + 2, none⟩ = some (.int .i64 ((rd_T26 l0 0).f2)) ∧ w'.cell? ⟨ad104.block, ad104.off + 3, none⟩ = some (.int .i64 ((rd_T26 l0 0).f3)) ∧ w'.cell? ad104 = some (.string ((rd_T26 l0 0).f0)) ∧ w'.cell? ⟨ad104.block, ad104.off + 1, none⟩ = some (.int .i64 ((rd_T26 l0 0).f1)) ∧ w'.cell? ⟨ad104.block, ad104.off + 2, none⟩ = some (.int .i64 ((rd_T26 l0 0).f2)) ∧ w'.cell? ⟨ad104.block, ad104.off + 3, none⟩ = some (.int .i64 ((rd_T26 l0 0).f3))) (ds := []) spec_l22One.d0 (by kernel_rfl) rfl rfl ⟨(bc_ HB.out hw104_0 :), (bc_ HB.out hw104_1 :), (bc_ HB.out hw104_2 :), (bc_ HB.out hw104_3 :), (bc_ HB.out hw106_0 :), (bc_ HB.out hw106_1 :), (bc_ HB.out hw106_2 :), (bc_ HB.out hw106_3 :), (bc_ HB.out hw108_0 :), (bc_ HB.out hw108_1 :), (bc_ HB.out hw108_2 :), (bc_ HB.out hw108_3 :), (bc_ HB.out hw110_0 :), (bc_ HB.out hw110_1 :), (bc_ HB.out hw110_2 :), (bc_ HB.out hw110_3 :), (bc_ HB.out hw111_0 :), (bc_ HB.out hw111_1 :), (bc_ HB.out hw111_2 :), (bc_ HB.out hw111_3 :)⟩ (fun hHeld => ?_); refine with_tabW spec_l22One.tab1 spec_l22One.bits1 (fun HT_ HW_ => ?_)
 generalize w.drew = w10 at HB hx104_0 hx104_1 hx104_2 hx104_3 hx106_0 hx106_1 hx106_2 hx106_3 hx108_0 hx108_1 hx108_2 hx108_3 hx110_0 hx110_1 hx110_2 hx110_3 hx111_0 hx111_1 hx111_2 hx111_3 hHeld ⊢
 refine p1_ HT_.out 0 3 spec_l22One.d1 ?_
 refine p1_ HT_.out 1 4 spec_l22One.d2 ?_
 refine p1_ HT_.out 2 5 spec_l22One.d3 ?_
 refine take_ (i := 3) (N := some 6) (v := ?_) (a' := ?_) spec_l22One.d4 rfl rfl (take_ofW HT_.out HW_.out (by kernel_rfl)) (fun _ _ _ h => h) (Or.inl ⟨by rfl, ?_⟩) hHeld ?_ ?_
 rotate_left
 · rintro w' ⟨s0, s1, s2, s3, s4, s5, s6, s7, s8, s9, s10, s11, s12, s13, s14, s15, s16, s17, s18, s19⟩
   go_simp
   with_reducible rfl
 rotate_left
 · simp only [Act.put, sA, sB, sC, i64_w, i32_w]
   rfl
 refine one_ (i := 4) (N := some 7) spec_l22One.d5 rfl rfl (one_of HT_.out (by kernel_rfl)) (by decide) (fun K hK => ?_)
 refine goes_ Tryd.func25 (by kernel_rfl) rfl #[.string ((rd_T26 l0 0).f0)] (by rfl) rfl rfl (by (try simp only [List.map_toArray, List.map_cons, List.map_nil]); first | done | rfl | (simp only [List.length_drop, List.length_take]; rfl)) ?_
 with_reducible refine (spec_l01Name.calls k ((rd_T26 l0 0).f0) true _ A3.out).mono ?_
 rintro e w' ⟨rfl, ⟨nd, rfl⟩⟩
 refine ⟨_, rfl, ?_⟩
 refine hK.out _ _ ⟨(bc_ HB.out hw104_0 :), (bc_ HB.out hw104_1 :), (bc_ HB.out hw104_2 :), (bc_ HB.out hw104_3 :), (bc_ HB.out hw106_0 :), (bc_ HB.out hw106_1 :), (bc_ HB.out hw106_2 :), (bc_ HB.out hw106_3 :), (bc_ HB.out hw108_0 :), (bc_ HB.out hw108_1 :), (bc_ HB.out hw108_2 :), (bc_ HB.out hw108_3 :), (bc_ HB.out hw110_0 :), (bc_ HB.out hw110_1 :), (bc_ HB.out hw110_2 :), (bc_ HB.out hw110_3 :), (bc_ HB.out hw111_0 :), (bc_ HB.out hw111_1 :), (bc_ HB.out hw111_2 :), (bc_ HB.out hw111_3 :)⟩ (fun hHeld => ?_)
 clear hK K
 refine norm_ (a' := ?_) ?_ ?_
 rotate_left
 · show Act.put _ (some 7) _ = _
   simp only [Act.put, sA, sB, sC, i64_w, i32_w]
   rfl
 refine p1_ HT_.out 5 8 spec_l22One.d6 ?_
 refine p1_ HT_.out 6 9 spec_l22One.d7 ?_
 refine p1_ HT_.out 7 10 spec_l22One.d8 ?_
 refine p1_ HT_.out 8 11 spec_l22One.d9 ?_
 refine take_ (i := 9) (N := some 12) (v := ?_) (a' := ?_) spec_l22One.d10 rfl rfl (take_ofW HT_.out HW_.out (by kernel_rfl)) (fun _ _ _ h => h) (Or.inl ⟨by rfl, ?_⟩) hHeld ?_ ?_
 rotate_left
 · rintro w' ⟨s0, s1, s2, s3, s4, s5, s6, s7, s8, s9, s10, s11, s12, s13, s14, s15, s16, s17, s18, s19⟩
   go_simp
   with_reducible rfl
 rotate_left
 · simp only [Act.put, sA, sB, sC, i64_w, i32_w]
   rfl
 refine one_ (i := 10) (N := some 13) spec_l22One.d11 rfl rfl (one_of HT_.out (by kernel_rfl)) (by decide) (fun K hK => ?_)
 refine goes_ Tryd.func26 (by kernel_rfl) rfl #[.int .i64 ((rd_T26 l0 0).f1), .int .i64 1, .int .i64 32] (by rfl) rfl rfl (by (try simp only [List.map_toArray, List.map_cons, List.map_nil]); first | done | rfl | (simp only [List.length_drop, List.length_take]; rfl)) ?_
 with_reducible refine (spec_l00In.calls ((rd_T26 l0 0).f1) 1 32 true _ A5.out).mono ?_
 rintro e w' ⟨rfl, ⟨nd, rfl⟩⟩
 refine ⟨_, rfl, ?_⟩
 refine hK.out _ _ ⟨(bc_ HB.out hw104_0 :), (bc_ HB.out hw104_1 :), (bc_ HB.out hw104_2 :), (bc_ HB.out hw104_3 :), (bc_ HB.out hw106_0 :), (bc_ HB.out hw106_1 :), (bc_ HB.out hw106_2 :), (bc_ HB.out hw106_3 :), (bc_ HB.out hw108_0 :), (bc_ HB.out hw108_1 :), (bc_ HB.out hw108_2 :), (bc_ HB.out hw108_3 :), (bc_ HB.out hw110_0 :), (bc_ HB.out hw110_1 :), (bc_ HB.out hw110_2 :), (bc_ HB.out hw110_3 :), (bc_ HB.out hw111_0 :), (bc_ HB.out hw111_1 :), (bc_ HB.out hw111_2 :), (bc_ HB.out hw111_3 :)⟩ (fun hHeld => ?_)
 clear hK K
 refine norm_ (a' := ?_) ?_ ?_
 rotate_left
 · show Act.put _ (some 13) _ = _
   simp only [Act.put, sA, sB, sC, i64_w, i32_w]
   rfl
 refine p1_ HT_.out 11 14 spec_l22One.d12 ?_
 refine p1_ HT_.out 12 15 spec_l22One.d13 ?_
 refine p1_ HT_.out 13 16 spec_l22One.d14 ?_
 refine p1_ HT_.out 14 17 spec_l22One.d15 ?_
 refine p1_ HT_.out 15 18 spec_l22One.d16 ?_
 refine take_ (i := 16) (N := some 19) (v := ?_) (a' := ?_) spec_l22One.d17 rfl rfl (take_ofW HT_.out HW_.out (by kernel_rfl)) (fun _ _ _ h => h) (Or.inl ⟨by rfl, ?_⟩) hHeld ?_ ?_
 rotate_left
 · rintro w' ⟨s0, s1, s2, s3, s4, s5, s6, s7, s8, s9, s10, s11, s12, s13, s14, s15, s16, s17, s18, s19⟩
   go_simp
   with_reducible rfl
 rotate_left
 · simp only [Act.put, sA, sB, sC, i64_w, i32_w]
   rfl
 refine one_ (i := 17) (N := some 20) spec_l22One.d18 rfl rfl (one_of HT_.out (by kernel_rfl)) (by decide) (fun K hK => ?_)
 refine goes_ Tryd.func26 (by kernel_rfl) rfl #[.int .i64 ((rd_T26 l0 0).f2), .int .i64 0, .int .i64 400] (by rfl) rfl rfl (by (try simp only [List.map_toArray, List.map_cons, List.map_nil]); first | done | rfl | (simp only [List.length_drop, List.length_take]; rfl)) ?_
 with_reducible refine (spec_l00In.calls ((rd_T26 l0 0).f2) 0 400 true _ A7.out).mono ?_
 rintro e w' ⟨rfl, ⟨nd, rfl⟩⟩
 refine ⟨_, rfl, ?_⟩
 refine hK.out _ _ ⟨(bc_ HB.out hw104_0 :), (bc_ HB.out hw104_1 :), (bc_ HB.out hw104_2 :), (bc_ HB.out hw104_3 :), (bc_ HB.out hw106_0 :), (bc_ HB.out hw106_1 :), (bc_ HB.out hw106_2 :), (bc_ HB.out hw106_3 :), (bc_ HB.out hw108_0 :), (bc_ HB.out hw108_1 :), (bc_ HB.out hw108_2 :), (bc_ HB.out hw108_3 :), (bc_ HB.out hw110_0 :), (bc_ HB.out hw110_1 :), (bc_ HB.out hw110_2 :), (bc_ HB.out hw110_3 :), (bc_ HB.out hw111_0 :), (bc_ HB.out hw111_1 :), (bc_ HB.out hw111_2 :), (bc_ HB.out hw111_3 :)⟩ (fun hHeld => ?_)
 clear hK K
 refine norm_ (a' := ?_) ?_ ?_
 rotate_left
 · show Act.put _ (some 20) _ = _
   simp only [Act.put, sA, sB, sC, i64_w, i32_w]
   rfl
 refine p1_ HT_.out 18 21 spec_l22One.d19 ?_
 refine p1_ HT_.out 19 22 spec_l22One.d20 ?_
 refine p1_ HT_.out 20 23 spec_l22One.d21 ?_
 refine p1_ HT_.out 21 24 spec_l22One.d22 ?_
 refine p1_ HT_.out 22 25 spec_l22One.d23 ?_
 refine p1_ HT_.out 24 27 spec_l22One.d24 ?_
 refine p1_ HT_.out 25 28 spec_l22One.d25 ?_
 refine p1_ HT_.out 26 29 spec_l22One.d26 ?_
 refine take_ (i := 23) (N := some 26) (v := ?_) (a' := ?_) spec_l22One.d27 rfl rfl (take_ofW HT_.out HW_.out (by kernel_rfl)) (fun _ _ _ h => h) (Or.inl ⟨by rfl, ?_⟩) hHeld ?_ ?_
 rotate_left
 · rintro w' ⟨s0, s1, s2, s3, s4, s5, s6, s7, s8, s9, s10, s11, s12, s13, s14, s15, s16, s17, s18, s19⟩
   go_simp
   with_reducible rfl
 rotate_left
 · simp only [Act.put, sA, sB, sC, i64_w, i32_w]
   rfl
 refine take_ (i := 27) (N := some 30) (v := ?_) (a' := ?_) spec_l22One.d28 rfl rfl (take_ofW HT_.out HW_.out (by kernel_rfl)) (fun _ _ _ h => h) (Or.inl ⟨by rfl, ?_⟩) hHeld ?_ ?_
 rotate_left
 · rintro w' ⟨s0, s1, s2, s3, s4, s5, s6, s7, s8, s9, s10, s11, s12, s13, s14, s15, s16, s17, s18, s19⟩
   go_simp
   with_reducible rfl
 rotate_left
 · simp only [Act.put, sA, sB, sC, i64_w, i32_w]
   rfl
 refine one_ (i := 28) (N := some 31) spec_l22One.d29 rfl rfl (one_of HT_.out (by kernel_rfl)) (by decide) (fun K hK => ?_)
 refine goes_ Tryd.func26 (by kernel_rfl) rfl #[.int .i64 ((rd_T26 l0 0).f3), .int .i64 ((rd_T26 l0 0).f2), .int .i64 800] (by rfl) rfl rfl (by (try simp only [List.map_toArray, List.map_cons, List.map_nil]); first | done | rfl | (simp only [List.length_drop, List.length_take]; rfl)) ?_
 with_reducible refine (spec_l00In.calls ((rd_T26 l0 0).f3) ((rd_T26 l0 0).f2) 800 t112 _ A9.out).mono ?_
 rintro e w' ⟨rfl, ⟨nd, rfl⟩⟩
 refine ⟨_, rfl, ?_⟩
 refine hK.out _ _ ⟨(bc_ HB.out hw104_0 :), (bc_ HB.out hw104_1 :), (bc_ HB.out hw104_2 :), (bc_ HB.out hw104_3 :), (bc_ HB.out hw106_0 :), (bc_ HB.out hw106_1 :), (bc_ HB.out hw106_2 :), (bc_ HB.out hw106_3 :), (bc_ HB.out hw108_0 :), (bc_ HB.out hw108_1 :), (bc_ HB.out hw108_2 :), (bc_ HB.out hw108_3 :), (bc_ HB.out hw110_0 :), (bc_ HB.out hw110_1 :), (bc_ HB.out hw110_2 :), (bc_ HB.out hw110_3 :), (bc_ HB.out hw111_0 :), (bc_ HB.out hw111_1 :), (bc_ HB.out hw111_2 :), (bc_ HB.out hw111_3 :)⟩ (fun hHeld => ?_)
 clear hK K
 refine norm_ (a' := ?_) ?_ ?_
 rotate_left
 · show Act.put _ (some 31) _ = _
   simp only [Act.put, sA, sB, sC, i64_w, i32_w]
   rfl
 refine p1_ HT_.out 29 32 spec_l22One.d30 ?_
 refine p1_ HT_.out 30 2 spec_l22One.d31 ?_
 refine done_ (done_of HT_.out (by kernel_rfl)) ?_
 try go_wp2
 go_ret
 exact ⟨by first | rfl | (simp [errW_none, errW_some] <;> rfl) | (simp [*, errW_none, errW_some] <;> rfl), by repeat (first | (with_reducible first | exact HB.out | apply below_alloc | apply pw_below_drewN | apply below_drew1) | exact HB.out)⟩
/-! ### spec_l01Split: function 20 -/
def spec_l01Split.l0 : Nat → ByteArray → Int → List ByteArray → Int → Int → Option (List ByteArray)
  | 0, _, _, _, _, _ => none
  | k + 1, x0, x1, x5, x6, x7 => if x7 < (x0.size : Int) then (if 0 ≤ x7 then (if (bt x0 x7) = x1 then (if 0 ≤ x6 then (if x6 ≤ x7 then (if x7 ≤ (x0.size : Int) then (if x5.length < 8796093022208 then (spec_l01Split.l0 k x0 x1 (x5 ++ [x0.extract (x6 : Int).toNat (x7 : Int).toNat]) (wrap64 (x7 + 1)) (wrap64 (x7 + 1))) else (none)) else (none)) else (none)) else (none)) else (spec_l01Split.l0 k x0 x1 x5 x6 (wrap64 (x7 + 1)))) else (none)) else (if 0 ≤ x6 then (if x6 ≤ (x0.size : Int) then (if x5.length < 8796093022208 then (some (x5 ++ [x0.extract (x6 : Int).toNat x0.size])) else (none)) else (none)) else (none))
def spec_l01Split.f (k : Nat) (a0 : ByteArray) (a1 : Int) : Option (List ByteArray) := spec_l01Split.l0 k a0 a1 (([] : List ByteArray)) 0 0
theorem spec_l01Split.mono_l : ∀ k, (∀ y0 y1 y2 y3 y4, LeO (spec_l01Split.l0 k y0 y1 y2 y3 y4) (spec_l01Split.l0 (k + 1) y0 y1 y2 y3 y4))
  | 0 => fun _ _ _ _ _ r h => by simp [spec_l01Split.l0] at h
  | k + 1 => by
    have ih0 := spec_l01Split.mono_l k
    · intro y0 y1 y2 y3 y4
      unfold spec_l01Split.l0
      repeat' first
      | (with_reducible exact ih0 _ _ _ _ _)
      | (with_reducible exact LeO.refl _)
      | (with_reducible exact LeO.none _)
      | (with_reducible refine LeO.ite ?_ ?_)
      | (with_reducible refine LeO.bind ?_ (fun _ => ?_))
      | exact ih0 _ _ _ _ _
      | exact LeO.none _
      | refine LeO.ite ?_ ?_
      | refine LeO.bind ?_ (fun _ => ?_)
theorem spec_l01Split.mono : ∀ a0 a1 k, LeO (spec_l01Split.f k a0 a1) (spec_l01Split.f (k + 1) a0 a1) := by
  intro a0 a1 k
  have ih0 := spec_l01Split.mono_l k
  unfold spec_l01Split.f
  repeat' first
      | (with_reducible exact ih0 _ _ _ _ _)
      | (with_reducible exact LeO.refl _)
      | (with_reducible exact LeO.none _)
      | (with_reducible refine LeO.ite ?_ ?_)
      | (with_reducible refine LeO.bind ?_ (fun _ => ?_))
      | exact ih0 _ _ _ _ _
      | exact LeO.none _
      | refine LeO.ite ?_ ?_
      | refine LeO.bind ?_ (fun _ => ?_)
set_option maxHeartbeats 8000000 in
set_option maxRecDepth 100000 in
theorem spec_l01Split.calls (k : Nat) (a0 : ByteArray) (a1 : Int) (r : List ByteArray) (w : World) (h : spec_l01Split.f k a0 a1 = some r) :
    Calls Tryd.prog 20 #[.string a0, .int .u8 a1] w fun e w' => ∃ v0_ : Value, e = .returned (v0_) ∧ Kd.R Kd.string 9 w' w.heap.size (fun _ => True) v0_ r ∧ Below w.heap.size w w' := by
  have HB := Aside0.mk (Below.refl w.heap.size w)
  have H : (spec_l01Split.l0 k a0 a1 (([] : List ByteArray)) 0 0) = some r := h
  clear h
  obtain ⟨y113, hy113⟩ : ∃ y_ : List ByteArray, y_ = (([] : List ByteArray)) := ⟨_, rfl⟩
  replace H : (spec_l01Split.l0 k a0 a1 y113 0 0) = some r := by first | (rw [hy113]; with_reducible exact H) | (have H2_ := (Option.bind_some _ _).symm.trans H; rw [hy113]; with_reducible exact H2_) | (have H2_ := (Option.bind_some _ _).symm.trans H; with_reducible exact H2_) | with_reducible exact H | (rw [hy113]; exact H) | exact H
  have Ny113 := Aside0.mk hy113
  clear hy113
  have H' := Aside0.mk H
  clear H
  go_enter Tryd.func20, Tryd.ntmps20
  go_wp2_with (first | ((with_reducible refine gate_dst (N := 8) rfl ?_); refine Kd.R_lit Kd.string _ 9 ?hg (N := 8) ?hd (xs := ([] : List ByteArray)) (inner := []) (ok := fun _ => True) (okp := fun _ => True) ?hr ?hp (fun _ hk => hk) trivial (Below.refl _ _) (Nat.le_refl _) (by simp) ?_; (case hd => rfl); (case hg => rfl); (case hr => first | (go_simp; done) | (go_simp; rfl)); (case hp => exact (Reps.none _ _)); intro v114 w3 ho4 hb hg_ hnew_; clear hg_ hnew_; (first | rw [← Ny113.out] at ho4 | (simp only [Int.reduceToNat] at ho4; rw [← Ny113.out] at ho4)); have n0_ := Aside0.mk (Kd.R_lower ho4 (below_size (by repeat (first | (with_reducible first | exact HB.out | apply below_alloc | apply pw_below_drewN | apply below_drew1) | exact HB.out)))); have n1_ := Aside0.mk (below_step (by repeat (first | (with_reducible first | exact HB.out | apply below_alloc | apply pw_below_drewN | apply below_drew1) | exact HB.out)) hb); clear HB; have HO115 := n0_; have HB := n1_; clear n0_ n1_; clear hb ho4))
  go_loopg [5, 6, 7] k (fun kq v5 v6 v7 w' => ∃ (x5_1 : List ByteArray) (x6_1 : Int) (x7_1 : Int), v6 = .int .i64 x6_1 ∧ v7 = .int .i64 x7_1 ∧ Aside0 (spec_l01Split.l0 kq a0 a1 x5_1 x6_1 x7_1 = some r) ∧ Aside0 (kq ≤ k) ∧ Aside0 (Kd.R Kd.string 9 w' w.heap.size (fun _ => True) v5 x5_1) ∧ Aside0 (Below w.heap.size w w'))
  case atStart => exact ⟨(y113), (0), (0), (by first | rfl | (simp; done) | (simp [*]; done) | (simp [i64_w, i32_w]; done)), (by first | rfl | (simp; done) | (simp [*]; done) | (simp [i64_w, i32_w]; done)), H', ⟨Nat.le_refl _⟩, ⟨by (with_reducible repeat (first | apply Kd.R_alloc | apply Kd.R_drewN | apply Kd.R_drew)); exact HO115.out⟩, ⟨by repeat (first | (with_reducible first | exact HB.out | apply below_alloc | apply pw_below_drewN | apply below_drew1) | exact HB.out)⟩⟩
  case round =>
    clear H'
    try clear c2
    try clear p2
    obtain ⟨x5_1, x6_1, x7_1, rfl, rfl, HA, HK1, HO_5, HB⟩ := hrel
    cases gk with
    | zero => exact absurd HA.out (by simp [spec_l01Split.l0])
    | succ k1 =>
      have H := HA.out
      clear HA
      simp only [spec_l01Split.l0] at H
      by_cases c5 : x7_1 < (a0.size : Int)
      · rw [if_pos c5] at H
        have c5b0 : decide (x7_1 < (a0.size : Int)) = true := decide_eq_true c5
        clear c5
        by_cases c6 : 0 ≤ x7_1
        · rw [if_pos c6] at H
          have c6b0 : decide (0 ≤ x7_1) = true := decide_eq_true c6
          clear c6
          by_cases c8 : (bt a0 x7_1) = a1
          · rw [if_pos c8] at H
            have c8b0 : ((bt a0 x7_1) == a1) = true := beq_iff_eq.mpr c8
            have c8b1 : ((bt a0 x7_1) != a1) = false := bne_eq_false_iff_eq.mpr c8
            clear c8
            by_cases c9 : 0 ≤ x6_1
            · rw [if_pos c9] at H
              have c9b0 := eq_true c9
              have c9b1 : decide (0 ≤ x6_1) = true := decide_eq_true c9
              clear c9
              by_cases c10 : x6_1 ≤ x7_1
              · rw [if_pos c10] at H
                have c10b0 := eq_true c10
                have c10b1 : decide (x6_1 ≤ x7_1) = true := decide_eq_true c10
                clear c10
                by_cases c11 : x7_1 ≤ (a0.size : Int)
                · rw [if_pos c11] at H
                  have c11b0 := eq_true c11
                  have c11b1 : decide (x7_1 ≤ (a0.size : Int)) = true := decide_eq_true c11
                  clear c11
                  by_cases c12 : x5_1.length < 8796093022208
                  · rw [if_pos c12] at H
                    have LMc12 := Aside0.mk c12
                    clear c12
                    obtain ⟨y116, hy116⟩ : ∃ y_ : List ByteArray, y_ = (x5_1 ++ [a0.extract (x6_1 : Int).toNat (x7_1 : Int).toNat]) := ⟨_, rfl⟩
                    replace H : (spec_l01Split.l0 k1 a0 a1 y116 (wrap64 (x7_1 + 1)) (wrap64 (x7_1 + 1))) = some r := by first | (rw [hy116]; with_reducible exact H) | (have H2_ := (Option.bind_some _ _).symm.trans H; rw [hy116]; with_reducible exact H2_) | (have H2_ := (Option.bind_some _ _).symm.trans H; with_reducible exact H2_) | with_reducible exact H | (rw [hy116]; exact H) | exact H
                    have Ny116 := Aside0.mk hy116
                    clear hy116
                    have H' := Aside0.mk H
                    clear H
                    have p7 : 0 ≤ (x7_1 : Int) := of_decide_eq_true (by first | (with_reducible assumption) | assumption)
                    have q7 : x7_1 < (a0.size : Int) := of_decide_eq_true (by first | (with_reducible assumption) | assumption)
                    have hx7 := bt_at a0 x7_1
                    replace p7 := eq_true p7
                    replace q7 := eq_true q7
                    go_wp2_with (first | ((with_reducible refine gate_builtin (b := .append) (xs := #[.tmp 20, .tmp 25]) rfl ?_); at_builtin; refine Kd.R_append Kd.string (w0 := w) w.heap.size rfl (.tmp 20) (.tmp 25) 44 9 (.string ⟨#[]⟩) 16 rfl Tryd.underlying44 info9 rfl (by decide) (by omega) u5 x5_1 (a0.extract (x6_1 : Int).toNat (x7_1 : Int).toNat) [.string (a0.extract (x6_1 : Int).toNat (x7_1 : Int).toNat)] (fun _ => True) (fun _ => False) rfl rfl ?aP (fun _ hk => hk.elim) ?aF ?aO ?aB ?aS ?aL ?_; (case aP => exact rfl); (case aB => exact (by repeat (first | (with_reducible first | exact HB.out | apply below_alloc | apply pw_below_drewN | apply below_drew1) | exact HB.out))); (case aF => exact (fun _ _ => trivial)); (case aO => exact (by (with_reducible repeat (first | apply Kd.R_alloc | apply Kd.R_drewN | apply Kd.R_drew)); exact HO_5.out)); (case aS => exact (below_size (by repeat (first | (with_reducible first | exact HB.out | apply below_alloc | apply pw_below_drewN | apply below_drew1) | exact HB.out)))); (case aL => have := LMc12.out; omega); intro v117 w13 ho hb hg hat; rw [← Ny116.out] at ho; have n0_ := Aside0.mk (hb); have n1_ := Aside0.mk (ho); clear HB; clear HO_5; have HB := n0_; have HO118 := n1_; clear n0_ n1_; clear ho hb hg hat))
                    go_roundg k1
                    case measure => have := HK1.out; omega
                    case rel => exact ⟨(y116), (wrap64 (x7_1 + 1)), (wrap64 (x7_1 + 1)), (by first | rfl | (simp; done) | (simp [*]; done) | (simp [i64_w, i32_w]; done)), (by first | rfl | (simp; done) | (simp [*]; done) | (simp [i64_w, i32_w]; done)), H', ⟨by have := HK1.out; omega⟩, ⟨by (with_reducible repeat (first | apply Kd.R_alloc | apply Kd.R_drewN | apply Kd.R_drew)); exact HO118.out⟩, ⟨by repeat (first | (with_reducible first | exact HB.out | apply below_alloc | apply pw_below_drewN | apply below_drew1) | exact HB.out)⟩⟩
                  · rw [if_neg c12] at H
                    exact absurd H (by simp)
                · rw [if_neg c11] at H
                  exact absurd H (by simp)
              · rw [if_neg c10] at H
                exact absurd H (by simp)
            · rw [if_neg c9] at H
              exact absurd H (by simp)
          · rw [if_neg c8] at H
            have c8b0 : ((bt a0 x7_1) == a1) = false := beq_eq_false_iff_ne.mpr c8
            have c8b1 : ((bt a0 x7_1) != a1) = true := bne_iff_ne.mpr c8
            have H' := Aside0.mk H
            clear H
            have p7 : 0 ≤ (x7_1 : Int) := of_decide_eq_true (by first | (with_reducible assumption) | assumption)
            have q7 : x7_1 < (a0.size : Int) := of_decide_eq_true (by first | (with_reducible assumption) | assumption)
            have hx7 := bt_at a0 x7_1
            replace p7 := eq_true p7
            replace q7 := eq_true q7
            go_wp2
            go_roundg k1
            case measure => have := HK1.out; omega
            case rel => exact ⟨(x5_1), (x6_1), (wrap64 (x7_1 + 1)), (by first | rfl | (simp; done) | (simp [*]; done) | (simp [i64_w, i32_w]; done)), (by first | rfl | (simp; done) | (simp [*]; done) | (simp [i64_w, i32_w]; done)), H', ⟨by have := HK1.out; omega⟩, ⟨by (with_reducible repeat (first | apply Kd.R_alloc | apply Kd.R_drewN | apply Kd.R_drew)); exact HO_5.out⟩, ⟨by repeat (first | (with_reducible first | exact HB.out | apply below_alloc | apply pw_below_drewN | apply below_drew1) | exact HB.out)⟩⟩
        · rw [if_neg c6] at H
          exact absurd H (by simp)
      · rw [if_neg c5] at H
        have c5b0 : decide (x7_1 < (a0.size : Int)) = false := decide_eq_false c5
        clear c5
        by_cases c14 : 0 ≤ x6_1
        · rw [if_pos c14] at H
          have c14b0 := eq_true c14
          have c14b1 : decide (0 ≤ x6_1) = true := decide_eq_true c14
          clear c14
          by_cases c15 : x6_1 ≤ (a0.size : Int)
          · rw [if_pos c15] at H
            have c15b0 := eq_true c15
            have c15b1 : decide (x6_1 ≤ (a0.size : Int)) = true := decide_eq_true c15
            clear c15
            by_cases c16 : x5_1.length < 8796093022208
            · rw [if_pos c16] at H
              have LMc16 := Aside0.mk c16
              clear c16
              obtain ⟨y119, hy119⟩ : ∃ y_ : List ByteArray, y_ = (x5_1 ++ [a0.extract (x6_1 : Int).toNat a0.size]) := ⟨_, rfl⟩
              replace H : (some y119) = some r := by first | (rw [hy119]; with_reducible exact H) | (have H2_ := (Option.bind_some _ _).symm.trans H; rw [hy119]; with_reducible exact H2_) | (have H2_ := (Option.bind_some _ _).symm.trans H; with_reducible exact H2_) | with_reducible exact H | (rw [hy119]; exact H) | exact H
              have Ny119 := Aside0.mk hy119
              clear hy119
              obtain rfl := Option.some.inj H
              go_wp2_with (first | ((with_reducible refine gate_builtin (b := .append) (xs := #[.tmp 29, .tmp 33]) rfl ?_); at_builtin; refine Kd.R_append Kd.string (w0 := w) w.heap.size rfl (.tmp 29) (.tmp 33) 44 9 (.string ⟨#[]⟩) 16 rfl Tryd.underlying44 info9 rfl (by decide) (by omega) u5 x5_1 (a0.extract (x6_1 : Int).toNat a0.size) [.string (a0.extract (x6_1 : Int).toNat a0.size)] (fun _ => True) (fun _ => False) rfl rfl ?aP (fun _ hk => hk.elim) ?aF ?aO ?aB ?aS ?aL ?_; (case aP => exact rfl); (case aB => exact (by repeat (first | (with_reducible first | exact HB.out | apply below_alloc | apply pw_below_drewN | apply below_drew1) | exact HB.out))); (case aF => exact (fun _ _ => trivial)); (case aO => exact (by (with_reducible repeat (first | apply Kd.R_alloc | apply Kd.R_drewN | apply Kd.R_drew)); exact HO_5.out)); (case aS => exact (below_size (by repeat (first | (with_reducible first | exact HB.out | apply below_alloc | apply pw_below_drewN | apply below_drew1) | exact HB.out)))); (case aL => have := LMc16.out; omega); intro v120 w17 ho hb hg hat; rw [← Ny119.out] at ho; have n0_ := Aside0.mk (hb); have n1_ := Aside0.mk (ho); clear HB; clear HO_5; have HB := n0_; have HO121 := n1_; clear n0_ n1_; clear ho hb hg hat))
              go_ret
              exact ⟨_, by first | rfl | (simp [errW_none, errW_some] <;> rfl) | (simp [*, errW_none, errW_some] <;> rfl), by (with_reducible repeat (first | apply Kd.R_alloc | apply Kd.R_drewN | apply Kd.R_drew)); exact HO121.out, by repeat (first | (with_reducible first | exact HB.out | apply below_alloc | apply pw_below_drewN | apply below_drew1) | exact HB.out)⟩
            · rw [if_neg c16] at H
              exact absurd H (by simp)
          · rw [if_neg c15] at H
            exact absurd H (by simp)
        · rw [if_neg c14] at H
          exact absurd H (by simp)

end Go.Proofs.YtjmjbmahljlnlaaDoor.GFnExactReadCoat

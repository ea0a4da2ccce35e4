-- Written by the session's own program (gen.py) out of the translation's print. Lean checks it.
import Derived.Test.YtopopjkoanpjiaaGFnExactTileNeighboursx0
import Derived.Test.YtopopjkoanpjiaaGFnExactTileNeighboursx1
import Derived.Test.YtopopjkoanpjiaaGFnExactTileNeighboursx3
import Derived.Test.YtopopjkoanpjiaaGFnExactTileNeighboursx4
namespace Go.Proofs.Ytopopjkoanpjiaa.GFnExactTileNeighbours
open Go.RowKit Go.Proofs.YtopopjkoanpjiaaW.PrintWords Go.Proofs.YtopopjkoanpjiaaW.PrintLast Go.Proofs.YtopopjkoanpjiaaW.PrintMore
attribute [local go_sem] max2_int min2_int max_two min_two max_three min_three max_four min_four   -- for this text's walks alone
set_option linter.unusedVariables false
set_option linter.unusedSimpArgs false

/-! ### spec_l17Near: function 17 -/
mutual
def spec_l17Near.l0 : Nat → Int → List Int → Int → List (S28) → Option (List Int)
  | 0, _, _, _, _ => none
  | k + 1, x1, x5, x6, x960 => if 0 < (x960.length : Int) then (if x6 < (((rd_T28 x960 0).f2).length : Int) then ((spec_l17Around.f x960 x6).bind fun t184 => (spec_l17Near.l1 k x1 x5 x6 t184 0 x960)) else (some x5)) else (none)
def spec_l17Near.l1 : Nat → Int → List Int → Int → List Int → Int → List (S28) → Option (List Int)
  | 0, _, _, _, _, _, _ => none
  | k + 1, x1, x5, x6, x7, x8, x960 => if x8 < (x7.length : Int) then (if 0 < (x960.length : Int) then (if 0 ≤ x6 then (if x6 < (((rd_T28 x960 0).f2).length : Int) then (if (rd ((rd_T28 x960 0).f2) x6) = x1 then (if 0 ≤ x8 then (if 0 ≤ (rd x7 x8) then (if (rd x7 x8) < (((rd_T28 x960 0).f2).length : Int) then (if (rd ((rd_T28 x960 0).f2) (rd x7 x8)) = x1 then (spec_l17Near.l1 k x1 x5 x6 x7 (wrap64 (x8 + 1)) x960) else ((spec_l00Put.f k x5 (rd ((rd_T28 x960 0).f2) (rd x7 x8))).bind fun t195 => (spec_l17Near.l1 k x1 t195 x6 x7 (wrap64 (x8 + 1)) x960))) else (none)) else (none)) else (none)) else (spec_l17Near.l1 k x1 x5 x6 x7 (wrap64 (x8 + 1)) x960)) else (none)) else (none)) else (none)) else (spec_l17Near.l0 k x1 x5 (wrap64 (x6 + 1)) x960)
end
def spec_l17Near.f (k : Nat) (l0 : List (S28)) (a1 : Int) : Option (List Int) := spec_l17Near.l0 k a1 (([] : List Int)) 0 l0
theorem spec_l17Near.mono_l : ∀ k, (∀ y0 y1 y2 y3, LeO (spec_l17Near.l0 k y0 y1 y2 y3) (spec_l17Near.l0 (k + 1) y0 y1 y2 y3)) ∧ (∀ y0 y1 y2 y3 y4 y5, LeO (spec_l17Near.l1 k y0 y1 y2 y3 y4 y5) (spec_l17Near.l1 (k + 1) y0 y1 y2 y3 y4 y5))
  | 0 => ⟨fun _ _ _ _ r h => by simp [spec_l17Near.l0] at h, fun _ _ _ _ _ _ r h => by simp [spec_l17Near.l1] at h⟩
  | k + 1 => by
    obtain ⟨ih0, ih1⟩ := spec_l17Near.mono_l k
    refine ⟨?_, ?_⟩
    · intro y0 y1 y2 y3
      unfold spec_l17Near.l0
      repeat' first
      | (with_reducible exact ih0 _ _ _ _)
      | (with_reducible exact ih1 _ _ _ _ _ _)
      | (with_reducible exact spec_l00Put.mono _ _ _)
      | (with_reducible exact LeO.refl _)
      | (with_reducible exact LeO.none _)
      | (with_reducible refine LeO.ite ?_ ?_)
      | (with_reducible refine LeO.bind ?_ (fun _ => ?_))
      | exact ih0 _ _ _ _
      | exact ih1 _ _ _ _ _ _
      | exact spec_l00Put.mono _ _ _
      | exact LeO.none _
      | refine LeO.ite ?_ ?_
      | refine LeO.bind ?_ (fun _ => ?_)
    · intro y0 y1 y2 y3 y4 y5
      unfold spec_l17Near.l1
      repeat' first
      | (with_reducible exact ih0 _ _ _ _)
      | (with_reducible exact ih1 _ _ _ _ _ _)
      | (with_reducible exact spec_l00Put.mono _ _ _)
      | (with_reducible exact LeO.refl _)
      | (with_reducible exact LeO.none _)
      | (with_reducible refine LeO.ite ?_ ?_)
      | (with_reducible refine LeO.bind ?_ (fun _ => ?_))
      | exact ih0 _ _ _ _
      | exact ih1 _ _ _ _ _ _
      | exact spec_l00Put.mono _ _ _
      | exact LeO.none _
      | refine LeO.ite ?_ ?_
      | refine LeO.bind ?_ (fun _ => ?_)
theorem spec_l17Near.mono : ∀ a0 a1 k, LeO (spec_l17Near.f k a0 a1) (spec_l17Near.f (k + 1) a0 a1) := by
  intro a0 a1 k
  obtain ⟨ih0, ih1⟩ := spec_l17Near.mono_l k
  unfold spec_l17Near.f
  repeat' first
      | (with_reducible exact ih0 _ _ _ _)
      | (with_reducible exact ih1 _ _ _ _ _ _)
      | (with_reducible exact spec_l00Put.mono _ _ _)
      | (with_reducible exact LeO.refl _)
      | (with_reducible exact LeO.none _)
      | (with_reducible refine LeO.ite ?_ ?_)
      | (with_reducible refine LeO.bind ?_ (fun _ => ?_))
      | exact ih0 _ _ _ _
      | exact ih1 _ _ _ _ _ _
      | exact spec_l00Put.mono _ _ _
      | exact LeO.none _
      | refine LeO.ite ?_ ?_
      | refine LeO.bind ?_ (fun _ => ?_)
def spec_l17Near.T9 : Bool × List (List Nat × List Nat) := (true, [([], []), ([0], [0]), ([1], [1]), ([2], [2]), ([], []), ([3, 4], [3, 4]), ([5], [5]), ([], []), ([6, 7], [6, 7]), ([8], [8]), ([9], [9]), ([10, 9], [9, 10]), ([11, 9], [9, 11]), ([12, 9], [9, 12]), ([9], [9]), ([9], [9]), ([14, 15, 9], [9, 14, 15]), ([16, 9], [9, 16]), ([13, 17, 9], [9, 13, 17]), ([18, 9], [9, 18]), ([9], [9]), ([19, 20, 9], [9, 19, 20]), ([9, 21], [9, 21])])
def spec_l17Near.B9 : List Nat := [0, 1, 3, 7, 0, 31, 63, 0, 255, 511, 1023, 2047, 4095, 8191, 1023, 1023, 50175, 115711, 262143, 524287, 1023, 2097151, 4194303]
theorem spec_l17Near.tab9 : rtab .any (opsOf Try.f17 9) = spec_l17Near.T9 := by kernel_rfl
theorem spec_l17Near.bits9 : waitsOk spec_l17Near.T9.2 spec_l17Near.B9 = true := by kernel_rfl
def spec_l17Near.T10 : Bool × List (List Nat × List Nat) := (true, [([], []), ([], []), ([1], [1]), ([2], [2]), ([3], [3]), ([], []), ([], []), ([5, 6], [5, 6]), ([7], [7]), ([4, 8], [4, 8]), ([9], [9]), ([0, 10], [0, 10]), ([11, 11, 0, 1, 2, 3, 4, 5, 6, 7, 8, 9, 10, 11], [0, 11])])
def spec_l17Near.B10 : List Nat := [0, 0, 2, 6, 14, 0, 0, 96, 224, 510, 1022, 2047, 4095]
theorem spec_l17Near.tab10 : rtab .any (opsOf Try.f17 10) = spec_l17Near.T10 := by kernel_rfl
theorem spec_l17Near.bits10 : waitsOk spec_l17Near.T10.2 spec_l17Near.B10 = true := by kernel_rfl
open List renaming setIfInBounds_toArray → sA, set_cons_zero → sB, set_cons_succ → sC
open Go.Proofs.YtopopjkoanpjiaaW.PrintWords.Aside0 renaming mk → mkA
open Go.Proofs.YtopopjkoanpjiaaX (dt_ bc_ p0_ p1_ bl_ cb_ bs0_ bs1_ bs2_ bs3_ bs4_ bs5_ bs6_ bs7_ bs8_ bs9_ bs10_ bs11_ bs12_)
abbrev spec_l17Near.d0 : Array Bool := #[false, false, false, false, false, false, false, false, false, false, false, false, false, false, false, false, false, false, false, false, false, false, false]
abbrev spec_l17Near.d1 : Array Bool := #[true, false, false, false, false, false, false, false, false, false, false, false, false, false, false, false, false, false, false, false, false, false, false]
abbrev spec_l17Near.d2 : Array Bool := #[true, true, false, false, false, false, false, false, false, false, false, false, false, false, false, false, false, false, false, false, false, false, false]
abbrev spec_l17Near.d3 : Array Bool := #[true, true, true, false, false, false, false, false, false, false, false, false, false, false, false, false, false, false, false, false, false, false, false]
abbrev spec_l17Near.d4 : Array Bool := #[true, true, true, false, true, false, false, false, false, false, false, false, false, false, false, false, false, false, false, false, false, false, false]
abbrev spec_l17Near.d5 : Array Bool := #[true, true, true, false, true, false, false, true, false, false, false, false, false, false, false, false, false, false, false, false, false, false, false]
abbrev spec_l17Near.d6 : Array Bool := #[true, true, true, true, true, false, false, true, false, false, false, false, false, false, false, false, false, false, false, false, false, false, false]
abbrev spec_l17Near.d7 : Array Bool := #[true, true, true, true, true, true, false, true, false, false, false, false, false, false, false, false, false, false, false, false, false, false, false]
abbrev spec_l17Near.d8 : Array Bool := #[true, true, true, true, true, true, true, true, false, false, false, false, false, false, false, false, false, false, false, false, false, false, false]
abbrev spec_l17Near.d9 : Array Bool := #[true, true, true, true, true, true, true, true, true, false, false, false, false, false, false, false, false, false, false, false, false, false, false]
abbrev spec_l17Near.d10 : Array Bool := #[true, true, true, true, true, true, true, true, true, true, false, false, false, false, false, false, false, false, false, false, false, false, false]
abbrev spec_l17Near.d11 : Array Bool := #[true, true, true, true, true, true, true, true, true, true, true, false, false, false, false, false, false, false, false, false, false, false, false]
abbrev spec_l17Near.d12 : Array Bool := #[true, true, true, true, true, true, true, true, true, true, true, true, false, false, false, false, false, false, false, false, false, false, false]
abbrev spec_l17Near.d13 : Array Bool := #[true, true, true, true, true, true, true, true, true, true, true, true, true, false, false, false, false, false, false, false, false, false, false]
abbrev spec_l17Near.d14 : Array Bool := #[true, true, true, true, true, true, true, true, true, true, true, true, true, false, true, false, false, false, false, false, false, false, false]
abbrev spec_l17Near.d15 : Array Bool := #[true, true, true, true, true, true, true, true, true, true, true, true, true, false, true, true, false, false, false, false, false, false, false]
abbrev spec_l17Near.d16 : Array Bool := #[true, true, true, true, true, true, true, true, true, true, true, true, true, false, true, true, true, false, false, false, false, false, false]
abbrev spec_l17Near.d17 : Array Bool := #[true, true, true, true, true, true, true, true, true, true, true, true, true, false, true, true, true, false, false, false, true, false, false]
abbrev spec_l17Near.d18 : Array Bool := #[true, true, true, true, true, true, true, true, true, true, true, true, true, true, true, true, true, false, false, false, true, false, false]
abbrev spec_l17Near.d19 : Array Bool := #[true, true, true, true, true, true, true, true, true, true, true, true, true, true, true, true, true, true, false, false, true, false, false]
abbrev spec_l17Near.d20 : Array Bool := #[true, true, true, true, true, true, true, true, true, true, true, true, true, true, true, true, true, true, true, false, true, false, false]
abbrev spec_l17Near.d21 : Array Bool := #[true, true, true, true, true, true, true, true, true, true, true, true, true, true, true, true, true, true, true, true, true, false, false]
abbrev spec_l17Near.d22 : Array Bool := #[true, true, true, true, true, true, true, true, true, true, true, true, true, true, true, true, true, true, true, true, true, true, false]
abbrev spec_l17Near.d23 : Array Bool := #[true, true, true, true, true, true, true, true, true, true, true, true, true, true, true, true, true, true, true, true, true, true, true]
abbrev spec_l17Near.d24 : Array Bool := #[false, false, false, false, false, false, false, false, false, false, false, false, false]
abbrev spec_l17Near.d25 : Array Bool := #[true, false, false, false, false, false, false, false, false, false, false, false, false]
abbrev spec_l17Near.d26 : Array Bool := #[true, true, false, false, false, false, false, false, false, false, false, false, false]
abbrev spec_l17Near.d27 : Array Bool := #[true, true, true, false, false, false, false, false, false, false, false, false, false]
abbrev spec_l17Near.d28 : Array Bool := #[true, true, true, true, false, false, false, false, false, false, false, false, false]
abbrev spec_l17Near.d29 : Array Bool := #[true, true, true, true, false, true, false, false, false, false, false, false, false]
abbrev spec_l17Near.d30 : Array Bool := #[true, true, true, true, false, true, true, false, false, false, false, false, false]
abbrev spec_l17Near.d31 : Array Bool := #[true, true, true, true, false, true, true, true, false, false, false, false, false]
abbrev spec_l17Near.d32 : Array Bool := #[true, true, true, true, true, true, true, true, false, false, false, false, false]
abbrev spec_l17Near.d33 : Array Bool := #[true, true, true, true, true, true, true, true, true, false, false, false, false]
abbrev spec_l17Near.d34 : Array Bool := #[true, true, true, true, true, true, true, true, true, true, false, false, false]
abbrev spec_l17Near.d35 : Array Bool := #[true, true, true, true, true, true, true, true, true, true, true, false, false]
abbrev spec_l17Near.d36 : Array Bool := #[true, true, true, true, true, true, true, true, true, true, true, true, false]
abbrev spec_l17Near.d37 : Array Bool := #[true, true, true, true, true, true, true, true, true, true, true, true, true]
abbrev spec_l17Near.d38 : Array Bool := #[true, true, true, true, true, true, true, true, true, true, true, true, true, true, false, false, false, false, false, false, false, false, false]
abbrev spec_l17Near.d39 : Array Bool := #[true, true, true, true, true, true, true, true, true, true, true, true, true, true, true, false, false, false, false, false, false, false, false]
abbrev spec_l17Near.d40 : Array Bool := #[true, true, true, true, true, true, true, true, true, true, true, true, true, true, true, true, false, false, false, false, false, false, false]
abbrev spec_l17Near.d41 : Array Bool := #[true, true, true, true, true, true, true, true, true, true, true, true, true, true, true, true, true, false, false, false, false, false, false]
abbrev spec_l17Near.d42 : Array Bool := #[true, true, true, true, true, true, true, true, true, true, true, true, true, true, true, true, true, true, false, false, false, false, false]
abbrev spec_l17Near.d43 : Array Bool := #[true, true, true, true, true, true, true, true, true, true, true, true, true, true, true, true, true, true, true, false, false, false, false]
abbrev spec_l17Near.d44 : Array Bool := #[true, true, true, true, true, true, true, true, true, true, true, true, true, true, true, true, true, true, true, true, false, false, false]
set_option maxHeartbeats 8000000 in
set_option maxRecDepth 100000 in
theorem spec_l17Near.calls (k : Nat) (A0 : Option Addr) (l0 : List (S28)) (a1 : Int) (r : List Int) (w : World) (hr0 : Kd.C k28 w A0 l0.length l0) (h : spec_l17Near.f k l0 a1 = some r) :
 Calls Try.prog 17 #[.pointer A0, .int .i64 a1] w fun e w' => ∃ v0_ : Value, e = .returned (v0_) ∧ Kd.R (Kd.int .i64) 2 w' w.heap.size (fun _ => True) v0_ r ∧ Below w.heap.size w w' := by
 have HR0 := mkA hr0
 clear hr0
 have HB := mkA (Below.refl w.heap.size w)
 have H : (spec_l17Near.l0 k a1 (([] : List Int)) 0 l0) = some r := h
 clear h
 obtain ⟨y180, hy180⟩ : ∃ y_ : List Int, y_ = (([] : List Int)) := ⟨_, rfl⟩
 replace H : (spec_l17Near.l0 k a1 y180 0 l0) = some r := by first | (rw [hy180]; with_reducible exact H) | (have H2_ := (Option.bind_some _ _).symm.trans H; rw [hy180]; with_reducible exact H2_) | (have H2_ := (Option.bind_some _ _).symm.trans H; with_reducible exact H2_) | with_reducible exact H | (rw [hy180]; exact H) | exact H
 have Ny180 := mkA hy180
 clear hy180
 have H' := mkA H
 clear H
 go_enter Try.func17, Try.ntmps17
 go_wp2_with (first | ((with_reducible refine gate_dst (N := 9) rfl ?_); refine Kd.R_lit (Kd.int .i64) _ 2 ?hg (N := 9) ?hd (xs := ([] : List Int)) (inner := []) (ok := fun _ => True) (okp := fun _ => True) ?hr ?hp (fun _ hk => hk) trivial (Below.refl _ _) (Nat.le_refl _) (by simp) ?_; (case hd => rfl); (case hg => rfl); (case hr => first | (go_simp; done) | (go_simp; rfl)); (case hp => exact (Reps.none _ _)); intro v181 w3 ho4 hb hg_ hnew_; clear hg_ hnew_; (first | rw [← Ny180.out] at ho4 | (simp only [Int.reduceToNat] at ho4; rw [← Ny180.out] at ho4)); have n0_ := mkA (Kd.R_lower ho4 (below_size (bs0_ HB.out))); have n1_ := mkA (below_step (bs0_ HB.out) hb); clear HB; have HO182 := n0_; have HB := n1_; clear n0_ n1_; clear hb ho4))
 go_loopg [5, 6] k (fun kq v5 v6 w' => ∃ (x5_1 : List Int) (x6_1 : Int), v6 = .int .i64 x6_1 ∧ Aside0 (spec_l17Near.l0 kq a1 x5_1 x6_1 l0 = some r) ∧ Aside0 (kq ≤ k) ∧ Aside0 (Kd.R (Kd.int .i64) 2 w' w.heap.size (fun _ => True) v5 x5_1) ∧ Aside0 (Below w.heap.size w w'))
 case atStart => exact ⟨(y180), (0), (by first | rfl | (simp; done) | (simp [*]; done) | (simp [i64_w, i32_w]; done)), H', ⟨Nat.le_refl _⟩, ⟨by (with_reducible repeat (first | apply Kd.R_alloc | apply Kd.R_drewN | apply Kd.R_drew)); exact HO182.out⟩, ⟨by repeat (first | (with_reducible first | exact HB.out | apply below_alloc | apply pw_below_drewN | apply below_drew1) | exact HB.out)⟩⟩
 case round =>
  clear H'
  try clear c1
  try clear p2
  obtain ⟨x5_1, x6_1, rfl, HA, HK1, HO_5, HB⟩ := hrel
  cases gk with
  | zero => exact absurd HA.out (by simp [spec_l17Near.l0])
  | succ k1 =>
   have H := HA.out
   clear HA
   simp only [spec_l17Near.l0] at H
   by_cases c5 : 0 < (l0.length : Int)
   rotate_left
   · rw [if_neg c5] at H
     exact absurd H (by simp)

   rw [if_pos c5] at H
   have c5b0 : decide (0 < (l0.length : Int)) = true := decide_eq_true c5
   have c5b1 : decide (0 < l0.length) = true := decide_eq_true (by omega)
   clear c5
   by_cases c6 : x6_1 < (((rd_T28 l0 0).f2).length : Int)
   rotate_left
   · rw [if_neg c6] at H
     have c6b0 : decide (x6_1 < (((rd_T28 l0 0).f2).length : Int)) = false := decide_eq_false c6
     clear c6
     obtain rfl := Option.some.inj H
     have p183 : 0 ≤ (0 : Int) := (by omega)
     have q183 : 0 < (l0.length : Int) := dt_
     obtain ⟨ad183, A183_2, c183_2, e183, hx183_0, hx183_1, hx183_2, hl183_2, hi183_2⟩ := at0_T28 HR0.out q183
     cases e183
     have qi183 : (0 < l0.length) = True := eq_true (by omega)
     replace hx183_0 := bc_ HB.out hx183_0
     replace hx183_1 := bc_ HB.out hx183_1
     replace hx183_2 := bc_ HB.out hx183_2
     have HR183_2 := mkA hi183_2
     have HC183_2 := mkA hl183_2
     clear hi183_2 hl183_2
     replace p183 := eq_true p183
     replace q183 := eq_true q183
     go_wp2
     go_ret
     exact ⟨_, by first | rfl | (simp [errW_none, errW_some] <;> rfl) | (simp [*, errW_none, errW_some] <;> rfl), by (with_reducible repeat (first | apply Kd.R_alloc | apply Kd.R_drewN | apply Kd.R_drew)); exact HO_5.out, by repeat (first | (with_reducible first | exact HB.out | apply below_alloc | apply pw_below_drewN | apply below_drew1) | exact HB.out)⟩
   rw [if_pos c6] at H
   have c6b0 : decide (x6_1 < (((rd_T28 l0 0).f2).length : Int)) = true := decide_eq_true c6
   clear c6
   replace H := Option.bind_eq_some_iff.mp H
   obtain ⟨t184, A70, H⟩ := H
   replace H : (spec_l17Near.l1 k1 a1 x5_1 x6_1 t184 0 l0) = some r := H
   have A7 := mkA A70
   clear A70
   have H' := mkA H
   clear H
   have p183 : 0 ≤ (0 : Int) := (by omega)
   have q183 : 0 < (l0.length : Int) := dt_
   obtain ⟨ad183, A183_2, c183_2, e183, hx183_0, hx183_1, hx183_2, hl183_2, hi183_2⟩ := at0_T28 HR0.out q183
   cases e183
   have qi183 : (0 < l0.length) = True := eq_true (by omega)
   replace hx183_0 := bc_ HB.out hx183_0
   replace hx183_1 := bc_ HB.out hx183_1
   replace hx183_2 := bc_ HB.out hx183_2
   have HR183_2 := mkA hi183_2
   have HC183_2 := mkA hl183_2
   clear hi183_2 hl183_2
   replace p183 := eq_true p183
   replace q183 := eq_true q183
   go_wp2_with (first | ((with_reducible refine gate_callee (f := 26) rfl ?_); refine goesL_ (some 21) rfl rfl Try.func26 (by kernel_rfl) rfl #[.pointer (some ad183), .int .i64 x6_1] rfl (by (try simp only [List.map_toArray, List.map_cons, List.map_nil]); first | done | rfl | (simp only [List.length_drop, List.length_take]; rfl)) ?_; (with_reducible refine (spec_l17Around.calls _ l0 x6_1 t184 _ ?side1 A7.out).mono ?_); (case side1 => exact cb_ HR0.out HB.out); rintro e w8 ⟨v185, rfl, ho0, hb⟩; refine ⟨_, rfl, ?_⟩; have n0_ := mkA (Kd.R_elder' (by (with_reducible repeat (first | apply Kd.R_alloc | apply Kd.R_drewN | apply Kd.R_drew)); exact HO_5.out) (Kd.R_base ho0) hb); have n1_ := mkA (Kd.R_lower (Kd.R_new' ho0 (Kd.R_lt (by (with_reducible repeat (first | apply Kd.R_alloc | apply Kd.R_drewN | apply Kd.R_drew)); exact HO_5.out))) (below_size (bs0_ HB.out))); have n2_ := mkA (below_step (bs0_ HB.out) hb); clear HO_5; clear HB; have HO_5 := n0_; have HO186 := n1_; have HB := n2_; clear n0_ n1_ n2_; (try clear hb); (try clear hb2); (try clear hk); (try clear hi); (try clear ho0)))
   go_loopg [5, 8] k1 (fun kq v5 v8 w' => ∃ (x5_2 : List Int) (x8_2 : Int), v8 = .int .i64 x8_2 ∧ Aside0 (spec_l17Near.l1 kq a1 x5_2 x6_1 t184 x8_2 l0 = some r) ∧ Aside0 (kq ≤ k1) ∧ Aside0 (Kd.R (Kd.int .i64) 2 w' w.heap.size (fun k_ => some k_ ≠ (v185 : Value).ownBlock) v5 x5_2) ∧ Aside0 (Kd.R (Kd.int .i64) 2 w' w.heap.size (fun k_ => some k_ ≠ (v5 : Value).ownBlock) v185 t184) ∧ Aside0 (Below w.heap.size w w'))
   case atStart => exact ⟨(x5_1), (0), (by first | rfl | (simp; done) | (simp [*]; done) | (simp [i64_w, i32_w]; done)), H', ⟨Nat.le_refl _⟩, ⟨by (with_reducible repeat (first | apply Kd.R_alloc | apply Kd.R_drewN | apply Kd.R_drew)); exact Kd.R_mono HO_5.out (fun _ hk => hk.2)⟩, ⟨by (with_reducible repeat (first | apply Kd.R_alloc | apply Kd.R_drewN | apply Kd.R_drew)); exact Kd.R_mono HO186.out (fun _ hk => hk.2)⟩, ⟨by repeat (first | (with_reducible first | exact HB.out | apply below_alloc | apply pw_below_drewN | apply below_drew1) | exact HB.out)⟩⟩
   case round =>
    clear H'
    try clear c1
    try clear p1
    try clear q1
    try clear hx1
    try clear qi1
    try clear c2
    try clear p2
    try clear c5
    try clear c5b0
    try clear c5b1
    try clear c6
    try clear c6b0
    try clear hx183_0
    try clear hx183_1
    try clear hx183_2
    try clear p183
    try clear p2
    try clear q183
    obtain ⟨x5_2, x8_2, rfl, HA, HK2, HO_5, HO_7, HB⟩ := hrel
    cases gk with
    | zero => exact absurd HA.out (by simp [spec_l17Near.l1])
    | succ k2 =>
     have H := HA.out
     clear HA
     simp only [spec_l17Near.l1] at H
     by_cases c9 : x8_2 < (t184.length : Int)
     rotate_left
     · rw [if_neg c9] at H
       have c9b0 : decide (x8_2 < (t184.length : Int)) = false := decide_eq_false c9
       clear c9
       have H' := mkA H
       clear H
       obtain ⟨Ao28, co28, eo28⟩ := Kd.R_slice HO_7.out
       subst eo28
       go_wp2
       go_roundg k2
       case measure => have := HK1.out; have := HK2.out; omega
       case rel => exact ⟨(x5_2), (wrap64 (x6_1 + 1)), (by first | rfl | (simp; done) | (simp [*]; done) | (simp [i64_w, i32_w]; done)), H', ⟨by have := HK1.out; have := HK2.out; omega⟩, ⟨by (with_reducible repeat (first | apply Kd.R_alloc | apply Kd.R_drewN | apply Kd.R_drew)); exact Kd.R_mono HO_5.out (fun _ hk => trivial)⟩, ⟨by repeat (first | (with_reducible first | exact HB.out | apply below_alloc | apply pw_below_drewN | apply below_drew1) | exact HB.out)⟩⟩
     rw [if_pos c9] at H
     have c9b0 : decide (x8_2 < (t184.length : Int)) = true := decide_eq_true c9
     clear c9
     by_cases c10 : 0 < (l0.length : Int)
     rotate_left
     · rw [if_neg c10] at H
       exact absurd H (by simp)
     rw [if_pos c10] at H
     have c10b0 : decide (0 < (l0.length : Int)) = true := decide_eq_true c10
     have c10b1 : decide (0 < l0.length) = true := decide_eq_true (by omega)
     clear c10
     by_cases c11 : 0 ≤ x6_1
     rotate_left
     · rw [if_neg c11] at H
       exact absurd H (by simp)
     rw [if_pos c11] at H
     have c11b0 : decide (0 ≤ x6_1) = true := decide_eq_true c11
     clear c11
     by_cases c12 : x6_1 < (((rd_T28 l0 0).f2).length : Int)
     rotate_left
     · rw [if_neg c12] at H
       exact absurd H (by simp)
     rw [if_pos c12] at H
     have c12b0 : decide (x6_1 < (((rd_T28 l0 0).f2).length : Int)) = true := decide_eq_true c12
     clear c12
     by_cases c13 : (rd ((rd_T28 l0 0).f2) x6_1) = a1
     rotate_left
     · rw [if_neg c13] at H
       have c13b0 : ((rd ((rd_T28 l0 0).f2) x6_1) == a1) = false := beq_eq_false_iff_ne.mpr c13
       have c13b1 : ((rd ((rd_T28 l0 0).f2) x6_1) != a1) = true := bne_iff_ne.mpr c13
       have H' := mkA H
       clear H
       obtain ⟨Ao26, co26, eo26⟩ := Kd.R_slice HO_7.out
       subst eo26
       try go_wp2
       have n0_ := mkA (Kd.R_drew HO_5.out)
       have n1_ := mkA (Kd.R_drew HO_7.out)
       have n2_ := mkA (below_drew1 HB.out)
       clear HO_5
       clear HO_7
       clear HB
       have HO_5 := n0_
       have HO_7 := n1_
       have HB := n2_
       clear n0_ n1_ n2_
       have p187 : 0 ≤ (0 : Int) := (by omega)
       have q187 : 0 < (l0.length : Int) := dt_
       obtain ⟨ad187, A187_2, c187_2, e187, hx187_0, hx187_1, hx187_2, hl187_2, hi187_2⟩ := at0_T28 HR0.out q187
       have hw187_2 := hx187_2
       have hw187_1 := hx187_1
       have hw187_0 := hx187_0
       obtain rfl : ad183 = ad187 := (by injection e187)
       have qi187 : (0 < l0.length) = True := eq_true (by omega)
       replace hx187_0 := bc_ HB.out hx187_0
       replace hx187_1 := bc_ HB.out hx187_1
       replace hx187_2 := bc_ HB.out hx187_2
       have HR187_2 := mkA hi187_2
       have HC187_2 := mkA hl187_2
       clear hi187_2 hl187_2
       replace p187 := eq_true p187
       replace q187 := eq_true q187
       have p188 : 0 ≤ (x6_1 : Int) := dt_
       have q188 : x6_1 < (((rd_T28 l0 0).f2).length : Int) := dt_
       obtain ⟨ad188, e188, hx188_0⟩ := Kd.at_int HR187_2.out x6_1 p188 q188
       have hw188_0 := hx188_0
       cases e188
       replace hx188_0 := bc_ HB.out hx188_0
       replace p188 := eq_true p188
       replace q188 := eq_true q188
       refine start_ (n := 23) (S := fun w' => w'.cell? ad183 = some (.int .i64 ((rd_T28 l0 0).f0)) ∧ w'.cell? ⟨ad183.block, ad183.off + 1, none⟩ = some (.int .i64 ((rd_T28 l0 0).f1)) ∧ w'.cell? ⟨ad183.block, ad183.off + 2, none⟩ = some (.slice (some ad188) ((rd_T28 l0 0).f2).length c187_2) ∧ w'.cell? (ad188.add (x6_1).toNat) = some (.int .i64 (rd ((rd_T28 l0 0).f2) x6_1))) (ds := []) spec_l17Near.d0 (by kernel_rfl) rfl rfl ⟨(bc_ HB.out hw187_0 :), (bc_ HB.out hw187_1 :), (bc_ HB.out hw187_2 :), (bc_ HB.out hw188_0 :)⟩ (fun hHeld => ?_); refine with_tabW spec_l17Near.tab9 spec_l17Near.bits9 (fun HT_ HW_ => ?_)
       generalize wr.drew = w27 at HO_5 HO_7 HB HR187_2 hx187_0 hx187_1 hx187_2 hx188_0 hHeld ⊢
       refine p1_ HT_.out 0 28 spec_l17Near.d1 ?_
       refine p1_ HT_.out 1 29 spec_l17Near.d2 ?_
       refine p1_ HT_.out 2 30 spec_l17Near.d3 ?_
       refine p1_ HT_.out 4 32 spec_l17Near.d4 ?_
       refine p1_ HT_.out 7 35 spec_l17Near.d5 ?_
       refine take_ (i := 3) (N := some 31) (v := ?_) (a' := ?_) spec_l17Near.d6 rfl rfl (take_ofW HT_.out HW_.out (by kernel_rfl)) (fun _ _ _ h => h) (Or.inl ⟨by rfl, ?_⟩) hHeld ?_ ?_
       rotate_left
       · rintro w' ⟨s0, s1, s2, s3⟩
         go_simp
         with_reducible rfl
       rotate_left
       · simp only [Act.put, sA, sB, sC, i64_w, i32_w]
         rfl
       refine p1_ HT_.out 5 33 spec_l17Near.d7 ?_
       refine take_ (i := 6) (N := some 34) (v := ?_) (a' := ?_) spec_l17Near.d8 rfl rfl (take_ofW HT_.out HW_.out (by kernel_rfl)) (fun _ _ _ h => h) (Or.inl ⟨by rfl, ?_⟩) hHeld ?_ ?_
       rotate_left
       · rintro w' ⟨s0, s1, s2, s3⟩
         go_simp
         with_reducible rfl
       rotate_left
       · simp only [Act.put, sA, sB, sC, i64_w, i32_w]
         rfl
       refine p1_ HT_.out 8 36 spec_l17Near.d9 ?_
       refine p1_ HT_.out 9 37 spec_l17Near.d10 ?_
       refine p0_ HT_.out 10 38 spec_l17Near.d11 ?_
       refine p0_ HT_.out 11 39 spec_l17Near.d12 ?_
       refine p0_ HT_.out 12 40 spec_l17Near.d13 ?_
       refine p0_ HT_.out 13 41 spec_l17Near.d38 ?_
       refine p0_ HT_.out 14 42 spec_l17Near.d39 ?_
       refine p0_ HT_.out 15 43 spec_l17Near.d40 ?_
       refine p0_ HT_.out 16 44 spec_l17Near.d41 ?_
       refine p0_ HT_.out 17 45 spec_l17Near.d42 ?_
       refine p0_ HT_.out 18 46 spec_l17Near.d43 ?_
       refine p0_ HT_.out 19 47 spec_l17Near.d44 ?_
       refine p0_ HT_.out 20 48 spec_l17Near.d21 ?_
       refine p0_ HT_.out 21 49 spec_l17Near.d22 ?_
       refine p1_ HT_.out 22 50 spec_l17Near.d23 ?_
       refine done_ (done_of HT_.out (by kernel_rfl)) ?_
       try go_wp2
       go_roundg k2
       case measure => have := HK1.out; have := HK2.out; omega
       case rel => exact ⟨(x5_2), (wrap64 (x8_2 + 1)), (by first | rfl | (simp; done) | (simp [*]; done) | (simp [i64_w, i32_w]; done)), H', ⟨by have := HK1.out; have := HK2.out; omega⟩, ⟨by (with_reducible repeat (first | apply Kd.R_alloc | apply Kd.R_drewN | apply Kd.R_drew)); exact HO_5.out⟩, ⟨by (with_reducible repeat (first | apply Kd.R_alloc | apply Kd.R_drewN | apply Kd.R_drew)); exact HO_7.out⟩, ⟨by repeat (first | (with_reducible first | exact HB.out | apply below_alloc | apply pw_below_drewN | apply below_drew1) | exact HB.out)⟩⟩
     rw [if_pos c13] at H
     have c13b0 : ((rd ((rd_T28 l0 0).f2) x6_1) == a1) = true := beq_iff_eq.mpr c13
     have c13b1 : ((rd ((rd_T28 l0 0).f2) x6_1) != a1) = false := bne_eq_false_iff_eq.mpr c13
     clear c13
     by_cases c14 : 0 ≤ x8_2
     rotate_left
     · rw [if_neg c14] at H
       exact absurd H (by simp)
     rw [if_pos c14] at H
     have c14b0 : decide (0 ≤ x8_2) = true := decide_eq_true c14
     clear c14
     by_cases c15 : 0 ≤ (rd t184 x8_2)
     rotate_left
     · rw [if_neg c15] at H
       exact absurd H (by simp)
     rw [if_pos c15] at H
     have c15b0 : decide (0 ≤ (rd t184 x8_2)) = true := decide_eq_true c15
     clear c15
     by_cases c16 : (rd t184 x8_2) < (((rd_T28 l0 0).f2).length : Int)
     rotate_left
     · rw [if_neg c16] at H
       exact absurd H (by simp)
     rw [if_pos c16] at H
     have c16b0 : decide ((rd t184 x8_2) < (((rd_T28 l0 0).f2).length : Int)) = true := decide_eq_true c16
     clear c16
     by_cases c17 : (rd ((rd_T28 l0 0).f2) (rd t184 x8_2)) = a1
     · rw [if_pos c17] at H
       have c17b0 : ((rd ((rd_T28 l0 0).f2) (rd t184 x8_2)) == a1) = true := beq_iff_eq.mpr c17
       have c17b1 : ((rd ((rd_T28 l0 0).f2) (rd t184 x8_2)) != a1) = false := bne_eq_false_iff_eq.mpr c17
       clear c17
       have H' := mkA H
       clear H
       obtain ⟨Ao18, co18, eo18⟩ := Kd.R_slice HO_7.out
       subst eo18
       try go_wp2
       have n0_ := mkA (Kd.R_drew HO_5.out)
       have n1_ := mkA (Kd.R_drew HO_7.out)
       have n2_ := mkA (below_drew1 HB.out)
       clear HO_5
       clear HO_7
       clear HB
       have HO_5 := n0_
       have HO_7 := n1_
       have HB := n2_
       clear n0_ n1_ n2_
       have p187 : 0 ≤ (0 : Int) := (by omega)
       have q187 : 0 < (l0.length : Int) := dt_
       obtain ⟨ad187, A187_2, c187_2, e187, hx187_0, hx187_1, hx187_2, hl187_2, hi187_2⟩ := at0_T28 HR0.out q187
       have hw187_2 := hx187_2
       have hw187_1 := hx187_1
       have hw187_0 := hx187_0
       obtain rfl : ad183 = ad187 := (by injection e187)
       have qi187 : (0 < l0.length) = True := eq_true (by omega)
       replace hx187_0 := bc_ HB.out hx187_0
       replace hx187_1 := bc_ HB.out hx187_1
       replace hx187_2 := bc_ HB.out hx187_2
       have HR187_2 := mkA hi187_2
       have HC187_2 := mkA hl187_2
       clear hi187_2 hl187_2
       replace p187 := eq_true p187
       replace q187 := eq_true q187
       have p188 : 0 ≤ (x6_1 : Int) := dt_
       have q188 : x6_1 < (((rd_T28 l0 0).f2).length : Int) := dt_
       obtain ⟨ad188, e188, hx188_0⟩ := Kd.at_int HR187_2.out x6_1 p188 q188
       have hw188_0 := hx188_0
       cases e188
       replace hx188_0 := bc_ HB.out hx188_0
       replace p188 := eq_true p188
       replace q188 := eq_true q188
       have p189 : 0 ≤ (0 : Int) := (by omega)
       have q189 : 0 < (l0.length : Int) := dt_
       obtain ⟨ad189, A189_2, c189_2, e189, hx189_0, hx189_1, hx189_2, hl189_2, hi189_2⟩ := at0_T28 HR0.out q189
       have hw189_2 := hx189_2
       have hw189_1 := hx189_1
       have hw189_0 := hx189_0
       obtain rfl : ad183 = ad189 := (by injection e189)
       have qi189 : (0 < l0.length) = True := eq_true (by omega)
       replace hx189_0 := bc_ HB.out hx189_0
       replace hx189_1 := bc_ HB.out hx189_1
       replace hx189_2 := bc_ HB.out hx189_2
       have HR189_2 := mkA hi189_2
       have HC189_2 := mkA hl189_2
       clear hi189_2 hl189_2
       replace p189 := eq_true p189
       replace q189 := eq_true q189
       have ea_ := Option.some.inj (hx187_2.symm.trans hx189_2)
       injection ea_ with ea_ en_ ec_
       subst ea_
       subst ec_
       clear en_
       have p190 : 0 ≤ (x8_2 : Int) := dt_
       have q190 : x8_2 < (t184.length : Int) := dt_
       obtain ⟨ad190, e190, hx190_0⟩ := Kd.at_int (Kd.R_reads' HO_7.out).2.2 x8_2 p190 q190
       cases e190
       replace p190 := eq_true p190
       replace q190 := eq_true q190
       have p191 : 0 ≤ ((rd t184 x8_2) : Int) := dt_
       have q191 : (rd t184 x8_2) < (((rd_T28 l0 0).f2).length : Int) := dt_
       obtain ⟨ad191, e191, hx191_0⟩ := Kd.at_int HR189_2.out (rd t184 x8_2) p191 q191
       have hw191_0 := hx191_0
       obtain rfl : ad188 = ad191 := (by injection e191)
       replace hx191_0 := bc_ HB.out hx191_0
       replace p191 := eq_true p191
       replace q191 := eq_true q191
       refine start_ (n := 23) (S := fun w' => w'.cell? ad183 = some (.int .i64 ((rd_T28 l0 0).f0)) ∧ w'.cell? ⟨ad183.block, ad183.off + 1, none⟩ = some (.int .i64 ((rd_T28 l0 0).f1)) ∧ w'.cell? ⟨ad183.block, ad183.off + 2, none⟩ = some (.slice (some ad188) ((rd_T28 l0 0).f2).length c187_2) ∧ w'.cell? (ad188.add (x6_1).toNat) = some (.int .i64 (rd ((rd_T28 l0 0).f2) x6_1)) ∧ w'.cell? ad183 = some (.int .i64 ((rd_T28 l0 0).f0)) ∧ w'.cell? ⟨ad183.block, ad183.off + 1, none⟩ = some (.int .i64 ((rd_T28 l0 0).f1)) ∧ w'.cell? ⟨ad183.block, ad183.off + 2, none⟩ = some (.slice (some ad188) ((rd_T28 l0 0).f2).length c187_2) ∧ w'.cell? (ad190.add (x8_2).toNat) = some (.int .i64 (rd t184 x8_2)) ∧ w'.cell? (ad188.add ((rd t184 x8_2)).toNat) = some (.int .i64 (rd ((rd_T28 l0 0).f2) (rd t184 x8_2)))) (ds := []) spec_l17Near.d0 (by kernel_rfl) rfl rfl ⟨(bc_ HB.out hw187_0 :), (bc_ HB.out hw187_1 :), (bc_ HB.out hw187_2 :), (bc_ HB.out hw188_0 :), (bc_ HB.out hw189_0 :), (bc_ HB.out hw189_1 :), (bc_ HB.out hw189_2 :), hx190_0, (bc_ HB.out hw191_0 :)⟩ (fun hHeld => ?_); refine with_tabW spec_l17Near.tab9 spec_l17Near.bits9 (fun HT_ HW_ => ?_)
       generalize wr.drew = w19 at HO_5 HO_7 HB HR187_2 HR189_2 hx187_0 hx187_1 hx187_2 hx188_0 hx189_0 hx189_1 hx189_2 hx190_0 hx191_0 hHeld ⊢
       refine p1_ HT_.out 0 28 spec_l17Near.d1 ?_
       refine p1_ HT_.out 1 29 spec_l17Near.d2 ?_
       refine p1_ HT_.out 2 30 spec_l17Near.d3 ?_
       refine p1_ HT_.out 4 32 spec_l17Near.d4 ?_
       refine p1_ HT_.out 7 35 spec_l17Near.d5 ?_
       refine take_ (i := 3) (N := some 31) (v := ?_) (a' := ?_) spec_l17Near.d6 rfl rfl (take_ofW HT_.out HW_.out (by kernel_rfl)) (fun _ _ _ h => h) (Or.inl ⟨by rfl, ?_⟩) hHeld ?_ ?_
       rotate_left
       · rintro w' ⟨s0, s1, s2, s3, s4, s5, s6, s7, s8⟩
         go_simp
         with_reducible rfl
       rotate_left
       · simp only [Act.put, sA, sB, sC, i64_w, i32_w]
         rfl
       refine p1_ HT_.out 5 33 spec_l17Near.d7 ?_
       refine take_ (i := 6) (N := some 34) (v := ?_) (a' := ?_) spec_l17Near.d8 rfl rfl (take_ofW HT_.out HW_.out (by kernel_rfl)) (fun _ _ _ h => h) (Or.inl ⟨by rfl, ?_⟩) hHeld ?_ ?_
       rotate_left
       · rintro w' ⟨s0, s1, s2, s3, s4, s5, s6, s7, s8⟩
         go_simp
         with_reducible rfl
       rotate_left
       · simp only [Act.put, sA, sB, sC, i64_w, i32_w]
         rfl
       refine p1_ HT_.out 8 36 spec_l17Near.d9 ?_
       refine p1_ HT_.out 9 37 spec_l17Near.d10 ?_
       refine p1_ HT_.out 10 38 spec_l17Near.d11 ?_
       refine p1_ HT_.out 11 39 spec_l17Near.d12 ?_
       refine p1_ HT_.out 12 40 spec_l17Near.d13 ?_
       refine p1_ HT_.out 14 42 spec_l17Near.d14 ?_
       refine p1_ HT_.out 15 43 spec_l17Near.d15 ?_
       refine p1_ HT_.out 16 44 spec_l17Near.d16 ?_
       refine p1_ HT_.out 20 48 spec_l17Near.d17 ?_
       refine take_ (i := 13) (N := some 41) (v := ?_) (a' := ?_) spec_l17Near.d18 rfl rfl (take_ofW HT_.out HW_.out (by kernel_rfl)) (fun _ _ _ h => h) (Or.inl ⟨by rfl, ?_⟩) hHeld ?_ ?_
       rotate_left
       · rintro w' ⟨s0, s1, s2, s3, s4, s5, s6, s7, s8⟩
         go_simp
         with_reducible rfl
       rotate_left
       · simp only [Act.put, sA, sB, sC, i64_w, i32_w]
         rfl
       refine take_ (i := 17) (N := some 45) (v := ?_) (a' := ?_) spec_l17Near.d19 rfl rfl (take_ofW HT_.out HW_.out (by kernel_rfl)) (fun _ _ _ h => h) (Or.inl ⟨by rfl, ?_⟩) hHeld ?_ ?_
       rotate_left
       · rintro w' ⟨s0, s1, s2, s3, s4, s5, s6, s7, s8⟩
         go_simp
         with_reducible rfl
       rotate_left
       · simp only [Act.put, sA, sB, sC, i64_w, i32_w]
         rfl
       refine p1_ HT_.out 18 46 spec_l17Near.d20 ?_
       refine take_ (i := 19) (N := some 47) (v := ?_) (a' := ?_) spec_l17Near.d21 rfl rfl (take_ofW HT_.out HW_.out (by kernel_rfl)) (fun _ _ _ h => h) (Or.inl ⟨by rfl, ?_⟩) hHeld ?_ ?_
       rotate_left
       · rintro w' ⟨s0, s1, s2, s3, s4, s5, s6, s7, s8⟩
         go_simp
         with_reducible rfl
       rotate_left
       · simp only [Act.put, sA, sB, sC, i64_w, i32_w]
         rfl
       refine p1_ HT_.out 21 49 spec_l17Near.d22 ?_
       refine p1_ HT_.out 22 50 spec_l17Near.d23 ?_
       refine done_ (done_of HT_.out (by kernel_rfl)) ?_
       try go_wp2
       go_roundg k2
       case measure => have := HK1.out; have := HK2.out; omega
       case rel => exact ⟨(x5_2), (wrap64 (x8_2 + 1)), (by first | rfl | (simp; done) | (simp [*]; done) | (simp [i64_w, i32_w]; done)), H', ⟨by have := HK1.out; have := HK2.out; omega⟩, ⟨by (with_reducible repeat (first | apply Kd.R_alloc | apply Kd.R_drewN | apply Kd.R_drew)); exact HO_5.out⟩, ⟨by (with_reducible repeat (first | apply Kd.R_alloc | apply Kd.R_drewN | apply Kd.R_drew)); exact HO_7.out⟩, ⟨by repeat (first | (with_reducible first | exact HB.out | apply below_alloc | apply pw_below_drewN | apply below_drew1) | exact HB.out)⟩⟩
     · rw [if_neg c17] at H
       have c17b0 : ((rd ((rd_T28 l0 0).f2) (rd t184 x8_2)) == a1) = false := beq_eq_false_iff_ne.mpr c17
       have c17b1 : ((rd ((rd_T28 l0 0).f2) (rd t184 x8_2)) != a1) = true := bne_iff_ne.mpr c17
       replace H := Option.bind_eq_some_iff.mp H
       obtain ⟨t195, A200, H⟩ := H
       replace H : (spec_l17Near.l1 k2 a1 t195 x6_1 t184 (wrap64 (x8_2 + 1)) l0) = some r := H
       have A20 := mkA A200
       clear A200
       have H' := mkA H
       clear H
       obtain ⟨Ao21, co21, eo21⟩ := Kd.R_slice HO_7.out
       subst eo21
       try go_wp2
       have n0_ := mkA (Kd.R_drew HO_5.out)
       have n1_ := mkA (Kd.R_drew HO_7.out)
       have n2_ := mkA (below_drew1 HB.out)
       clear HO_5
       clear HO_7
       clear HB
       have HO_5 := n0_
       have HO_7 := n1_
       have HB := n2_
       clear n0_ n1_ n2_
       have p187 : 0 ≤ (0 : Int) := (by omega)
       have q187 : 0 < (l0.length : Int) := dt_
       obtain ⟨ad187, A187_2, c187_2, e187, hx187_0, hx187_1, hx187_2, hl187_2, hi187_2⟩ := at0_T28 HR0.out q187
       have hw187_2 := hx187_2
       have hw187_1 := hx187_1
       have hw187_0 := hx187_0
       obtain rfl : ad183 = ad187 := (by injection e187)
       have qi187 : (0 < l0.length) = True := eq_true (by omega)
       replace hx187_0 := bc_ HB.out hx187_0
       replace hx187_1 := bc_ HB.out hx187_1
       replace hx187_2 := bc_ HB.out hx187_2
       have HR187_2 := mkA hi187_2
       have HC187_2 := mkA hl187_2
       clear hi187_2 hl187_2
       replace p187 := eq_true p187
       replace q187 := eq_true q187
       have p188 : 0 ≤ (x6_1 : Int) := dt_
       have q188 : x6_1 < (((rd_T28 l0 0).f2).length : Int) := dt_
       obtain ⟨ad188, e188, hx188_0⟩ := Kd.at_int HR187_2.out x6_1 p188 q188
       have hw188_0 := hx188_0
       cases e188
       replace hx188_0 := bc_ HB.out hx188_0
       replace p188 := eq_true p188
       replace q188 := eq_true q188
       have p189 : 0 ≤ (0 : Int) := (by omega)
       have q189 : 0 < (l0.length : Int) := dt_
       obtain ⟨ad189, A189_2, c189_2, e189, hx189_0, hx189_1, hx189_2, hl189_2, hi189_2⟩ := at0_T28 HR0.out q189
       have hw189_2 := hx189_2
       have hw189_1 := hx189_1
       have hw189_0 := hx189_0
       obtain rfl : ad183 = ad189 := (by injection e189)
       have qi189 : (0 < l0.length) = True := eq_true (by omega)
       replace hx189_0 := bc_ HB.out hx189_0
       replace hx189_1 := bc_ HB.out hx189_1
       replace hx189_2 := bc_ HB.out hx189_2
       have HR189_2 := mkA hi189_2
       have HC189_2 := mkA hl189_2
       clear hi189_2 hl189_2
       replace p189 := eq_true p189
       replace q189 := eq_true q189
       have ea_ := Option.some.inj (hx187_2.symm.trans hx189_2)
       injection ea_ with ea_ en_ ec_
       subst ea_
       subst ec_
       clear en_
       have p190 : 0 ≤ (x8_2 : Int) := dt_
       have q190 : x8_2 < (t184.length : Int) := dt_
       obtain ⟨ad190, e190, hx190_0⟩ := Kd.at_int (Kd.R_reads' HO_7.out).2.2 x8_2 p190 q190
       cases e190
       replace p190 := eq_true p190
       replace q190 := eq_true q190
       have p191 : 0 ≤ ((rd t184 x8_2) : Int) := dt_
       have q191 : (rd t184 x8_2) < (((rd_T28 l0 0).f2).length : Int) := dt_
       obtain ⟨ad191, e191, hx191_0⟩ := Kd.at_int HR189_2.out (rd t184 x8_2) p191 q191
       have hw191_0 := hx191_0
       obtain rfl : ad188 = ad191 := (by injection e191)
       replace hx191_0 := bc_ HB.out hx191_0
       replace p191 := eq_true p191
       replace q191 := eq_true q191
       refine start_ (n := 23) (S := fun w' => w'.cell? ad183 = some (.int .i64 ((rd_T28 l0 0).f0)) ∧ w'.cell? ⟨ad183.block, ad183.off + 1, none⟩ = some (.int .i64 ((rd_T28 l0 0).f1)) ∧ w'.cell? ⟨ad183.block, ad183.off + 2, none⟩ = some (.slice (some ad188) ((rd_T28 l0 0).f2).length c187_2) ∧ w'.cell? (ad188.add (x6_1).toNat) = some (.int .i64 (rd ((rd_T28 l0 0).f2) x6_1)) ∧ w'.cell? ad183 = some (.int .i64 ((rd_T28 l0 0).f0)) ∧ w'.cell? ⟨ad183.block, ad183.off + 1, none⟩ = some (.int .i64 ((rd_T28 l0 0).f1)) ∧ w'.cell? ⟨ad183.block, ad183.off + 2, none⟩ = some (.slice (some ad188) ((rd_T28 l0 0).f2).length c187_2) ∧ w'.cell? (ad190.add (x8_2).toNat) = some (.int .i64 (rd t184 x8_2)) ∧ w'.cell? (ad188.add ((rd t184 x8_2)).toNat) = some (.int .i64 (rd ((rd_T28 l0 0).f2) (rd t184 x8_2)))) (ds := []) spec_l17Near.d0 (by kernel_rfl) rfl rfl ⟨(bc_ HB.out hw187_0 :), (bc_ HB.out hw187_1 :), (bc_ HB.out hw187_2 :), (bc_ HB.out hw188_0 :), (bc_ HB.out hw189_0 :), (bc_ HB.out hw189_1 :), (bc_ HB.out hw189_2 :), hx190_0, (bc_ HB.out hw191_0 :)⟩ (fun hHeld => ?_); refine with_tabW spec_l17Near.tab9 spec_l17Near.bits9 (fun HT_ HW_ => ?_)
       generalize wr.drew = w22 at HO_5 HO_7 HB HR187_2 HR189_2 hx187_0 hx187_1 hx187_2 hx188_0 hx189_0 hx189_1 hx189_2 hx190_0 hx191_0 hHeld ⊢
       refine p1_ HT_.out 0 28 spec_l17Near.d1 ?_
       refine p1_ HT_.out 1 29 spec_l17Near.d2 ?_
       refine p1_ HT_.out 2 30 spec_l17Near.d3 ?_
       refine p1_ HT_.out 4 32 spec_l17Near.d4 ?_
       refine p1_ HT_.out 7 35 spec_l17Near.d5 ?_
       refine take_ (i := 3) (N := some 31) (v := ?_) (a' := ?_) spec_l17Near.d6 rfl rfl (take_ofW HT_.out HW_.out (by kernel_rfl)) (fun _ _ _ h => h) (Or.inl ⟨by rfl, ?_⟩) hHeld ?_ ?_
       rotate_left
       · rintro w' ⟨s0, s1, s2, s3, s4, s5, s6, s7, s8⟩
         go_simp
         with_reducible rfl
       rotate_left
       · simp only [Act.put, sA, sB, sC, i64_w, i32_w]
         rfl
       refine p1_ HT_.out 5 33 spec_l17Near.d7 ?_
       refine take_ (i := 6) (N := some 34) (v := ?_) (a' := ?_) spec_l17Near.d8 rfl rfl (take_ofW HT_.out HW_.out (by kernel_rfl)) (fun _ _ _ h => h) (Or.inl ⟨by rfl, ?_⟩) hHeld ?_ ?_
       rotate_left
       · rintro w' ⟨s0, s1, s2, s3, s4, s5, s6, s7, s8⟩
         go_simp
         with_reducible rfl
       rotate_left
       · simp only [Act.put, sA, sB, sC, i64_w, i32_w]
         rfl
       refine p1_ HT_.out 8 36 spec_l17Near.d9 ?_
       refine p1_ HT_.out 9 37 spec_l17Near.d10 ?_
       refine p1_ HT_.out 10 38 spec_l17Near.d11 ?_
       refine p1_ HT_.out 11 39 spec_l17Near.d12 ?_
       refine p1_ HT_.out 12 40 spec_l17Near.d13 ?_
       refine p1_ HT_.out 14 42 spec_l17Near.d14 ?_
       refine p1_ HT_.out 15 43 spec_l17Near.d15 ?_
       refine p1_ HT_.out 16 44 spec_l17Near.d16 ?_
       refine p1_ HT_.out 20 48 spec_l17Near.d17 ?_
       refine take_ (i := 13) (N := some 41) (v := ?_) (a' := ?_) spec_l17Near.d18 rfl rfl (take_ofW HT_.out HW_.out (by kernel_rfl)) (fun _ _ _ h => h) (Or.inl ⟨by rfl, ?_⟩) hHeld ?_ ?_
       rotate_left
       · rintro w' ⟨s0, s1, s2, s3, s4, s5, s6, s7, s8⟩
         go_simp
         with_reducible rfl
       rotate_left
       · simp only [Act.put, sA, sB, sC, i64_w, i32_w]
         rfl
       refine take_ (i := 17) (N := some 45) (v := ?_) (a' := ?_) spec_l17Near.d19 rfl rfl (take_ofW HT_.out HW_.out (by kernel_rfl)) (fun _ _ _ h => h) (Or.inl ⟨by rfl, ?_⟩) hHeld ?_ ?_
       rotate_left
       · rintro w' ⟨s0, s1, s2, s3, s4, s5, s6, s7, s8⟩
         go_simp
         with_reducible rfl
       rotate_left
       · simp only [Act.put, sA, sB, sC, i64_w, i32_w]
         rfl
       refine p1_ HT_.out 18 46 spec_l17Near.d20 ?_
       refine take_ (i := 19) (N := some 47) (v := ?_) (a' := ?_) spec_l17Near.d21 rfl rfl (take_ofW HT_.out HW_.out (by kernel_rfl)) (fun _ _ _ h => h) (Or.inl ⟨by rfl, ?_⟩) hHeld ?_ ?_
       rotate_left
       · rintro w' ⟨s0, s1, s2, s3, s4, s5, s6, s7, s8⟩
         go_simp
         with_reducible rfl
       rotate_left
       · simp only [Act.put, sA, sB, sC, i64_w, i32_w]
         rfl
       refine p1_ HT_.out 21 49 spec_l17Near.d22 ?_
       refine p1_ HT_.out 22 50 spec_l17Near.d23 ?_
       refine done_ (done_of HT_.out (by kernel_rfl)) ?_
       try go_wp2
       have n0_ := mkA (Kd.R_drew HO_5.out)
       have n1_ := mkA (Kd.R_drew HO_7.out)
       have n2_ := mkA (below_drew1 HB.out)
       clear HO_5
       clear HO_7
       clear HB
       have HO_5 := n0_
       have HO_7 := n1_
       have HB := n2_
       clear n0_ n1_ n2_
       have p192 : 0 ≤ (0 : Int) := (by omega)
       have q192 : 0 < (l0.length : Int) := dt_
       obtain ⟨ad192, A192_2, c192_2, e192, hx192_0, hx192_1, hx192_2, hl192_2, hi192_2⟩ := at0_T28 HR0.out q192
       have hw192_2 := hx192_2
       have hw192_1 := hx192_1
       have hw192_0 := hx192_0
       obtain rfl : ad183 = ad192 := (by injection e192)
       have qi192 : (0 < l0.length) = True := eq_true (by omega)
       replace hx192_0 := bc_ HB.out hx192_0
       replace hx192_1 := bc_ HB.out hx192_1
       replace hx192_2 := bc_ HB.out hx192_2
       have HR192_2 := mkA hi192_2
       have HC192_2 := mkA hl192_2
       clear hi192_2 hl192_2
       replace p192 := eq_true p192
       replace q192 := eq_true q192
       have p193 : 0 ≤ (x8_2 : Int) := dt_
       have q193 : x8_2 < (t184.length : Int) := dt_
       obtain ⟨ad193, e193, hx193_0⟩ := Kd.at_int (Kd.R_reads' HO_7.out).2.2 x8_2 p193 q193
       obtain rfl : ad190 = ad193 := (by injection e193)
       replace p193 := eq_true p193
       replace q193 := eq_true q193
       have p194 : 0 ≤ ((rd t184 x8_2) : Int) := dt_
       have q194 : (rd t184 x8_2) < (((rd_T28 l0 0).f2).length : Int) := dt_
       obtain ⟨ad194, e194, hx194_0⟩ := Kd.at_int HR192_2.out (rd t184 x8_2) p194 q194
       have hw194_0 := hx194_0
       cases e194
       replace hx194_0 := bc_ HB.out hx194_0
       replace p194 := eq_true p194
       replace q194 := eq_true q194
       obtain ⟨Ao24, co24, eo24⟩ := Kd.R_slice HO_5.out
       (first | subst eo24 | (injection eo24 with f1_ f2_ f3_; have f4_ := f1_.symm; have f5_ := f3_.symm; clear f1_ f2_ f3_; subst f4_; subst f5_))
       refine start_ (n := 13) (S := fun w' => w'.cell? ad183 = some (.int .i64 ((rd_T28 l0 0).f0)) ∧ w'.cell? ⟨ad183.block, ad183.off + 1, none⟩ = some (.int .i64 ((rd_T28 l0 0).f1)) ∧ w'.cell? ⟨ad183.block, ad183.off + 2, none⟩ = some (.slice (some ad194) ((rd_T28 l0 0).f2).length c192_2) ∧ w'.cell? (ad190.add (x8_2).toNat) = some (.int .i64 (rd t184 x8_2)) ∧ w'.cell? (ad194.add ((rd t184 x8_2)).toNat) = some (.int .i64 (rd ((rd_T28 l0 0).f2) (rd t184 x8_2)))) (ds := []) spec_l17Near.d24 (by kernel_rfl) rfl rfl ⟨(bc_ HB.out hw192_0 :), (bc_ HB.out hw192_1 :), (bc_ HB.out hw192_2 :), hx193_0, (bc_ HB.out hw194_0 :)⟩ (fun hHeld => ?_); refine with_tabW spec_l17Near.tab10 spec_l17Near.bits10 (fun HT_ HW_ => ?_)
       generalize w22.drew = w23 at HO_5 HO_7 HB HR192_2 hx192_0 hx192_1 hx192_2 hx193_0 hx194_0 hHeld ⊢
       refine p1_ HT_.out 0 51 spec_l17Near.d25 ?_
       refine p1_ HT_.out 1 52 spec_l17Near.d26 ?_
       refine p1_ HT_.out 2 53 spec_l17Near.d27 ?_
       refine p1_ HT_.out 3 54 spec_l17Near.d28 ?_
       refine p1_ HT_.out 5 56 spec_l17Near.d29 ?_
       refine p1_ HT_.out 6 57 spec_l17Near.d30 ?_
       refine p1_ HT_.out 7 58 spec_l17Near.d31 ?_
       refine take_ (i := 4) (N := some 55) (v := ?_) (a' := ?_) spec_l17Near.d32 rfl rfl (take_ofW HT_.out HW_.out (by kernel_rfl)) (fun _ _ _ h => h) (Or.inl ⟨by rfl, ?_⟩) hHeld ?_ ?_
       rotate_left
       · rintro w' ⟨s0, s1, s2, s3, s4⟩
         go_simp
         with_reducible rfl
       rotate_left
       · simp only [Act.put, sA, sB, sC, i64_w, i32_w]
         rfl
       refine take_ (i := 8) (N := some 59) (v := ?_) (a' := ?_) spec_l17Near.d33 rfl rfl (take_ofW HT_.out HW_.out (by kernel_rfl)) (fun _ _ _ h => h) (Or.inl ⟨by rfl, ?_⟩) hHeld ?_ ?_
       rotate_left
       · rintro w' ⟨s0, s1, s2, s3, s4⟩
         go_simp
         with_reducible rfl
       rotate_left
       · simp only [Act.put, sA, sB, sC, i64_w, i32_w]
         rfl
       refine p1_ HT_.out 9 60 spec_l17Near.d34 ?_
       refine take_ (i := 10) (N := some 61) (v := ?_) (a' := ?_) spec_l17Near.d35 rfl rfl (take_ofW HT_.out HW_.out (by kernel_rfl)) (fun _ _ _ h => h) (Or.inl ⟨by rfl, ?_⟩) hHeld ?_ ?_
       rotate_left
       · rintro w' ⟨s0, s1, s2, s3, s4⟩
         go_simp
         with_reducible rfl
       rotate_left
       · simp only [Act.put, sA, sB, sC, i64_w, i32_w]
         rfl
       refine one_ (i := 11) (N := some 62) spec_l17Near.d36 rfl rfl (one_of HT_.out (by kernel_rfl)) (by decide) (fun K hK => ?_)
       refine goes_ Try.func27 (by kernel_rfl) rfl #[.slice Ao24 x5_2.length co24, .int .i64 (rd ((rd_T28 l0 0).f2) (rd t184 x8_2))] (by rfl) rfl rfl (by (try simp only [List.map_toArray, List.map_cons, List.map_nil]); first | done | rfl | (simp only [List.length_drop, List.length_take]; rfl)) ?_
       with_reducible refine (spec_l00Put.calls k2 _ _ x5_2 (rd ((rd_T28 l0 0).f2) (rd t184 x8_2)) t195 _ ?side1 ?side2 A20.out).mono ?_
       (case side1 => repeat (first | exact (Kd.R_reads' HO_5.out).2.2 | (with_reducible refine Kd.C_alloc ?_ _) | (with_reducible refine Kd.C_drewN ?_ _) | (with_reducible refine Kd.C_drew ?_)))
       (case side2 => exact (Kd.R_reads' HO_5.out).2.1)
       rintro e w25 ⟨v196, rfl, ho0, hb⟩
       have HS3_ := (hb.cell (World.block_lt_of_cell? _ _ (hHeld.2.2.2.1))).trans (hHeld.2.2.2.1)
       refine ⟨_, rfl, ?_⟩
       have n0_ := mkA (Kd.R_elder' (by (with_reducible repeat (first | apply Kd.R_alloc | apply Kd.R_drewN | apply Kd.R_drew)); exact HO_5.out) (Kd.R_base ho0) hb)
       have n1_ := mkA (Kd.R_elder' (by (with_reducible repeat (first | apply Kd.R_alloc | apply Kd.R_drewN | apply Kd.R_drew)); exact HO_7.out) (Kd.R_base ho0) hb)
       have n2_ := mkA (Kd.R_lower (Kd.R_new' (Kd.R_new' ho0 (Kd.R_lt (by (with_reducible repeat (first | apply Kd.R_alloc | apply Kd.R_drewN | apply Kd.R_drew)); exact HO_5.out))) (Kd.R_lt (by (with_reducible repeat (first | apply Kd.R_alloc | apply Kd.R_drewN | apply Kd.R_drew)); exact HO_7.out))) (below_size (bs0_ HB.out)))
       have n3_ := mkA (below_step (bs0_ HB.out) hb)
       clear HO_5
       clear HO_7
       clear HB
       have HO_5 := n0_
       have HO_7 := n1_
       have HO197 := n2_
       have HB := n3_
       clear n0_ n1_ n2_ n3_
       (try clear hb)
       (try clear hb2)
       (try clear hk)
       (try clear hi)
       (try clear ho0)
       refine hK.out _ _ ⟨(bc_ HB.out hw192_0 :), (bc_ HB.out hw192_1 :), (bc_ HB.out hw192_2 :), HS3_, (bc_ HB.out hw194_0 :)⟩ (fun hHeld => ?_)
       clear hK K
       refine norm_ (a' := ?_) ?_ ?_
       rotate_left
       · show Act.put _ (some 62) _ = _
         simp only [Act.put, sA, sB, sC, i64_w, i32_w]
         rfl
       refine p1_ HT_.out 12 5 spec_l17Near.d37 ?_
       refine done_ (done_of HT_.out (by kernel_rfl)) ?_
       try go_wp2
       go_roundg k2
       case measure => have := HK1.out; have := HK2.out; omega
       case rel => exact ⟨(t195), (wrap64 (x8_2 + 1)), (by first | rfl | (simp; done) | (simp [*]; done) | (simp [i64_w, i32_w]; done)), H', ⟨by have := HK1.out; have := HK2.out; omega⟩, ⟨by (with_reducible repeat (first | apply Kd.R_alloc | apply Kd.R_drewN | apply Kd.R_drew)); exact Kd.R_mono HO197.out (fun _ hk => hk.2)⟩, ⟨by (with_reducible repeat (first | apply Kd.R_alloc | apply Kd.R_drewN | apply Kd.R_drew)); exact Kd.R_mono HO_7.out (fun _ hk => hk.2)⟩, ⟨by repeat (first | (with_reducible first | exact HB.out | apply below_alloc | apply pw_below_drewN | apply below_drew1) | exact HB.out)⟩⟩
/-! ### spec_TileNeighbours: function 5 -/
def spec_TileNeighbours.f (k : Nat) (a0_0 : Int) (a0_1 : Int) (l0_2 : List Int) (a1 : Int) : Option (List Int × Int) := (spec_l17Ok.f k [(⟨a0_0, a0_1, l0_2⟩ : S28)]).bind fun t199 => (if t199 = true then ((spec_l17Most.f k [(⟨a0_0, a0_1, l0_2⟩ : S28)]).bind fun t200 => ((spec_l00In.f a1 0 (wrap64 (t200 - 1))).bind fun t201 => (if t201 = true then ((spec_l17Near.f k [(⟨a0_0, a0_1, l0_2⟩ : S28)] a1).bind fun t202 => (some (t202, 0))) else (some (([] : List Int), 2))))) else (some (([] : List Int), 1)))
theorem spec_TileNeighbours.mono : ∀ a0 a1 a2 a3 k, LeO (spec_TileNeighbours.f k a0 a1 a2 a3) (spec_TileNeighbours.f (k + 1) a0 a1 a2 a3) := by
  intro a0 a1 a2 a3 k
  unfold spec_TileNeighbours.f
  repeat' first
      | (with_reducible exact spec_l17Most.mono _ _)
      | (with_reducible exact spec_l17Near.mono _ _ _)
      | (with_reducible exact spec_l17Ok.mono _ _)
      | (with_reducible exact LeO.refl _)
      | (with_reducible exact LeO.none _)
      | (with_reducible refine LeO.ite ?_ ?_)
      | (with_reducible refine LeO.bind ?_ (fun _ => ?_))
      | exact spec_l17Most.mono _ _
      | exact spec_l17Near.mono _ _ _
      | exact spec_l17Ok.mono _ _
      | exact LeO.none _
      | refine LeO.ite ?_ ?_
      | refine LeO.bind ?_ (fun _ => ?_)
open List renaming setIfInBounds_toArray → sA, set_cons_zero → sB, set_cons_succ → sC
open Go.Proofs.YtopopjkoanpjiaaW.PrintWords.Aside0 renaming mk → mkA
open Go.Proofs.YtopopjkoanpjiaaX (dt_ bc_ p0_ p1_ bl_ cb_ bs0_ bs1_ bs2_ bs3_ bs4_ bs5_ bs6_ bs7_ bs8_ bs9_ bs10_ bs11_ bs12_)
set_option maxHeartbeats 8000000 in
set_option maxRecDepth 100000 in
theorem spec_TileNeighbours.calls (k : Nat) (a0_0 : Int) (a0_1 : Int) (A0_2 : Option Addr) (c0_2 : Nat) (l0_2 : List Int) (a1 : Int) (r1 : List Int) (r2 : Int) (w : World) (hr0_2 : Kd.C (Kd.int .i64) w A0_2 l0_2.length l0_2) (hc0_2 : l0_2.length ≤ c0_2) (h : spec_TileNeighbours.f k a0_0 a0_1 l0_2 a1 = some (r1, r2)) :
 Calls Try.prog 5 #[.agg #[.int .i64 a0_0, .int .i64 a0_1, .slice A0_2 l0_2.length c0_2], .int .i64 a1] w fun e w' => ∃ v0_ : Value, e = .returned (.tuple #[v0_, .int .i64 r2]) ∧ Kd.R (Kd.int .i64) 2 w' w.heap.size (fun _ => True) v0_ r1 ∧ Below w.heap.size w w' := by
 have hu28 := Try.underlying28
 have HR0_2 := mkA hr0_2
 have HC0_2 := mkA hc0_2
 clear hr0_2 hc0_2
 have HB := mkA (Below.refl w.heap.size w)
 have H : ((spec_l17Ok.f k [(⟨a0_0, a0_1, l0_2⟩ : S28)]).bind fun t199 => (if t199 = true then ((spec_l17Most.f k [(⟨a0_0, a0_1, l0_2⟩ : S28)]).bind fun t200 => ((spec_l00In.f a1 0 (wrap64 (t200 - 1))).bind fun t201 => (if t201 = true then ((spec_l17Near.f k [(⟨a0_0, a0_1, l0_2⟩ : S28)] a1).bind fun t202 => (some (t202, 0))) else (some (([] : List Int), 2))))) else (some (([] : List Int), 1)))) = some (r1, r2) := h
 clear h
 replace H := Option.bind_eq_some_iff.mp H
 obtain ⟨t199, A30, H⟩ := H
 replace H : (if t199 = true then ((spec_l17Most.f k [(⟨a0_0, a0_1, l0_2⟩ : S28)]).bind fun t200 => ((spec_l00In.f a1 0 (wrap64 (t200 - 1))).bind fun t201 => (if t201 = true then ((spec_l17Near.f k [(⟨a0_0, a0_1, l0_2⟩ : S28)] a1).bind fun t202 => (some (t202, 0))) else (some (([] : List Int), 2))))) else (some (([] : List Int), 1))) = some (r1, r2) := H
 have A3 := mkA A30
 clear A30
 by_cases c4 : t199 = true
 rotate_left
 · replace c4 := Bool.eq_false_iff.mpr c4
   subst c4
   have H1 : (some (([] : List Int), 1)) = some (r1, r2) := by rw [if_neg (show ¬ (false = true) by decide)] at H; exact H
   clear H
   have H := H1
   clear H1
   simp only [Option.some.injEq, Prod.mk.injEq] at H
   obtain ⟨rfl, rfl⟩ := H
   go_enter Try.func5, Try.ntmps5
   go_wp2_with (first | ((with_reducible refine gate_dst (N := 2) rfl ?_); refine box_event ?hg (N := 2) ?hd (cs := #[.int .i64 a0_0, .int .i64 a0_1, .slice A0_2 l0_2.length c0_2]) (t := 28) ?hr ?_; (case hd => rfl); (case hg => rfl); (case hr => first | (go_simp; done) | (go_simp; rfl)); intro gb198 hg w14 hbox hb; have n0_ := mkA (below_step (bs0_ HB.out) hb); have n1_ := mkA (hbox); have n2_ := mkA ((by rw [hg]; exact (below_size (bs0_ HB.out)) : w.heap.size ≤ gb198)); have n3_ := mkA ((by rw [hg]; exact (below_size (bs0_ HB.out)) : w.heap.size ≤ gb198)); clear HB; have HB := n0_; have BK198 := n1_; have GW198 := n2_; have GE198 := n3_; clear n0_ n1_ n2_ n3_; clear hb hbox hg) | ((with_reducible refine gate_callee (f := 14) rfl ?_); refine goesL_ (some 6) rfl rfl Try.func14 (by kernel_rfl) rfl #[.pointer (some ⟨gb198, 0, none⟩)] rfl (by (try simp only [List.map_toArray, List.map_cons, List.map_nil]); first | done | rfl | (simp only [List.length_drop, List.length_take]; rfl)) ?_; (with_reducible refine (spec_l17Ok.calls k _ [(⟨a0_0, a0_1, l0_2⟩ : S28)] false _ ?side1 A3.out).mono ?_); (case side1 => exact Go.Proofs.YtopopjkoanpjiaaX.rp_box (t := 28) (fr := (0, 0)) (bl_ BK198.out) (k28_mk _ (⟨a0_0, a0_1, l0_2⟩ : S28) (by exact HC0_2.out) (by repeat (first | exact (Kd.C_below HR0_2.out HB.out) | (with_reducible refine Kd.C_alloc ?_ _) | (with_reducible refine Kd.C_drewN ?_ _) | (with_reducible refine Kd.C_drew ?_))))); rintro e w15 ⟨rfl, hb⟩; refine ⟨_, rfl, ?_⟩; have n0_ := mkA (blk_below (g := gb198) (o := .cells #[.int .i64 a0_0, .int .i64 a0_1, .slice A0_2 l0_2.length c0_2] 28 (0, 0)) (bl_ BK198.out) hb); have n1_ := mkA (below_step (bs1_ HB.out GE198.out) hb); clear BK198; clear HB; have BK198 := n0_; have HB := n1_; clear n0_ n1_; (try clear hb); (try clear hb2); (try clear hk); (try clear hi)))
   go_ret2
   exact ⟨_, by first | rfl | (simp [errW_none, errW_some] <;> rfl) | (simp [*, errW_none, errW_some] <;> rfl), by first | exact Kd.R_nil _ _ _ _ _ | exact Kd.N_nil _ _ _ _ _ | exact Kd.V_nil _ _ _ _ _ | exact Kd.Q_nil _ _ _ _ _ | exact Kd.S_nil _ _ _ _ _, by repeat (first | (with_reducible first | exact HB.out | apply below_alloc | apply pw_below_drewN | apply below_drew1 | refine below_set ?_ GE198.out) | exact HB.out)⟩

 subst c4
 have H1 : ((spec_l17Most.f k [(⟨a0_0, a0_1, l0_2⟩ : S28)]).bind fun t200 => ((spec_l00In.f a1 0 (wrap64 (t200 - 1))).bind fun t201 => (if t201 = true then ((spec_l17Near.f k [(⟨a0_0, a0_1, l0_2⟩ : S28)] a1).bind fun t202 => (some (t202, 0))) else (some (([] : List Int), 2))))) = some (r1, r2) := by rw [if_pos rfl] at H; exact H
 clear H
 have H := H1
 clear H1
 replace H := Option.bind_eq_some_iff.mp H
 obtain ⟨t200, A50, H⟩ := H
 replace H : ((spec_l00In.f a1 0 (wrap64 (t200 - 1))).bind fun t201 => (if t201 = true then ((spec_l17Near.f k [(⟨a0_0, a0_1, l0_2⟩ : S28)] a1).bind fun t202 => (some (t202, 0))) else (some (([] : List Int), 2)))) = some (r1, r2) := H
 have A5 := mkA A50
 clear A50
 replace H := Option.bind_eq_some_iff.mp H
 obtain ⟨t201, A60, H⟩ := H
 replace H : (if t201 = true then ((spec_l17Near.f k [(⟨a0_0, a0_1, l0_2⟩ : S28)] a1).bind fun t202 => (some (t202, 0))) else (some (([] : List Int), 2))) = some (r1, r2) := H
 have A6 := mkA A60
 clear A60
 by_cases c7 : t201 = true
 rotate_left
 · replace c7 := Bool.eq_false_iff.mpr c7
   subst c7
   have H1 : (some (([] : List Int), 2)) = some (r1, r2) := by rw [if_neg (show ¬ (false = true) by decide)] at H; exact H
   clear H
   have H := H1
   clear H1
   simp only [Option.some.injEq, Prod.mk.injEq] at H
   obtain ⟨rfl, rfl⟩ := H
   go_enter Try.func5, Try.ntmps5
   go_wp2_with (first | ((with_reducible refine gate_dst (N := 2) rfl ?_); refine box_event ?hg (N := 2) ?hd (cs := #[.int .i64 a0_0, .int .i64 a0_1, .slice A0_2 l0_2.length c0_2]) (t := 28) ?hr ?_; (case hd => rfl); (case hg => rfl); (case hr => first | (go_simp; done) | (go_simp; rfl)); intro gb198 hg w12 hbox hb; have n0_ := mkA (below_step (bs0_ HB.out) hb); have n1_ := mkA (hbox); have n2_ := mkA ((by rw [hg]; exact (below_size (bs0_ HB.out)) : w.heap.size ≤ gb198)); have n3_ := mkA ((by rw [hg]; exact (below_size (bs0_ HB.out)) : w.heap.size ≤ gb198)); clear HB; have HB := n0_; have BK198 := n1_; have GW198 := n2_; have GE198 := n3_; clear n0_ n1_ n2_ n3_; clear hb hbox hg) | ((with_reducible refine gate_callee (f := 14) rfl ?_); refine goesL_ (some 6) rfl rfl Try.func14 (by kernel_rfl) rfl #[.pointer (some ⟨gb198, 0, none⟩)] rfl (by (try simp only [List.map_toArray, List.map_cons, List.map_nil]); first | done | rfl | (simp only [List.length_drop, List.length_take]; rfl)) ?_; (with_reducible refine (spec_l17Ok.calls k _ [(⟨a0_0, a0_1, l0_2⟩ : S28)] true _ ?side1 A3.out).mono ?_); (case side1 => exact Go.Proofs.YtopopjkoanpjiaaX.rp_box (t := 28) (fr := (0, 0)) (bl_ BK198.out) (k28_mk _ (⟨a0_0, a0_1, l0_2⟩ : S28) (by exact HC0_2.out) (by repeat (first | exact (Kd.C_below HR0_2.out HB.out) | (with_reducible refine Kd.C_alloc ?_ _) | (with_reducible refine Kd.C_drewN ?_ _) | (with_reducible refine Kd.C_drew ?_))))); rintro e w13 ⟨rfl, hb⟩; refine ⟨_, rfl, ?_⟩; have n0_ := mkA (blk_below (g := gb198) (o := .cells #[.int .i64 a0_0, .int .i64 a0_1, .slice A0_2 l0_2.length c0_2] 28 (0, 0)) (bl_ BK198.out) hb); have n1_ := mkA (below_step (bs1_ HB.out GE198.out) hb); clear BK198; clear HB; have BK198 := n0_; have HB := n1_; clear n0_ n1_; (try clear hb); (try clear hb2); (try clear hk); (try clear hi)) | ((with_reducible refine gate_callee (f := 16) rfl ?_); refine goesL_ (some 9) rfl rfl Try.func16 (by kernel_rfl) rfl #[.pointer (some ⟨gb198, 0, none⟩)] rfl (by (try simp only [List.map_toArray, List.map_cons, List.map_nil]); first | done | rfl | (simp only [List.length_drop, List.length_take]; rfl)) ?_; (with_reducible refine (spec_l17Most.calls k _ [(⟨a0_0, a0_1, l0_2⟩ : S28)] t200 _ ?side1 A5.out).mono ?_); (case side1 => exact Go.Proofs.YtopopjkoanpjiaaX.rp_box (t := 28) (fr := (0, 0)) (bl_ BK198.out) (k28_mk _ (⟨a0_0, a0_1, l0_2⟩ : S28) (by exact HC0_2.out) (by repeat (first | exact (Kd.C_below HR0_2.out HB.out) | (with_reducible refine Kd.C_alloc ?_ _) | (with_reducible refine Kd.C_drewN ?_ _) | (with_reducible refine Kd.C_drew ?_))))); rintro e w' ⟨rfl, ⟨nd, rfl⟩⟩; refine ⟨_, rfl, ?_⟩) | ((with_reducible refine gate_callee (f := 15) rfl ?_); refine goesL_ (some 11) rfl rfl Try.func15 (by kernel_rfl) rfl #[.int .i64 a1, .int .i64 0, .int .i64 (wrap64 (t200 - 1))] rfl (by (try simp only [List.map_toArray, List.map_cons, List.map_nil]); first | done | rfl | (simp only [List.length_drop, List.length_take]; rfl)) ?_; (with_reducible refine (spec_l00In.calls a1 0 (wrap64 (t200 - 1)) false _ A6.out).mono ?_); rintro e w' ⟨rfl, ⟨nd, rfl⟩⟩; refine ⟨_, rfl, ?_⟩))
   go_ret2
   exact ⟨_, by first | rfl | (simp [errW_none, errW_some] <;> rfl) | (simp [*, errW_none, errW_some] <;> rfl), by first | exact Kd.R_nil _ _ _ _ _ | exact Kd.N_nil _ _ _ _ _ | exact Kd.V_nil _ _ _ _ _ | exact Kd.Q_nil _ _ _ _ _ | exact Kd.S_nil _ _ _ _ _, by repeat (first | (with_reducible first | exact HB.out | apply below_alloc | apply pw_below_drewN | apply below_drew1 | refine below_set ?_ GE198.out) | exact HB.out)⟩
 subst c7
 have H1 : ((spec_l17Near.f k [(⟨a0_0, a0_1, l0_2⟩ : S28)] a1).bind fun t202 => (some (t202, 0))) = some (r1, r2) := by rw [if_pos rfl] at H; exact H
 clear H
 have H := H1
 clear H1
 replace H := Option.bind_eq_some_iff.mp H
 obtain ⟨t202, A80, H⟩ := H
 replace H : (some (t202, 0)) = some (r1, r2) := H
 have A8 := mkA A80
 clear A80
 simp only [Option.some.injEq, Prod.mk.injEq] at H
 obtain ⟨rfl, rfl⟩ := H
 go_enter Try.func5, Try.ntmps5
 go_wp2_with (first | ((with_reducible refine gate_dst (N := 2) rfl ?_); refine box_event ?hg (N := 2) ?hd (cs := #[.int .i64 a0_0, .int .i64 a0_1, .slice A0_2 l0_2.length c0_2]) (t := 28) ?hr ?_; (case hd => rfl); (case hg => rfl); (case hr => first | (go_simp; done) | (go_simp; rfl)); intro gb198 hg w9 hbox hb; have n0_ := mkA (below_step (bs0_ HB.out) hb); have n1_ := mkA (hbox); have n2_ := mkA ((by rw [hg]; exact (below_size (bs0_ HB.out)) : w.heap.size ≤ gb198)); have n3_ := mkA ((by rw [hg]; exact (below_size (bs0_ HB.out)) : w.heap.size ≤ gb198)); clear HB; have HB := n0_; have BK198 := n1_; have GW198 := n2_; have GE198 := n3_; clear n0_ n1_ n2_ n3_; clear hb hbox hg) | ((with_reducible refine gate_callee (f := 14) rfl ?_); refine goesL_ (some 6) rfl rfl Try.func14 (by kernel_rfl) rfl #[.pointer (some ⟨gb198, 0, none⟩)] rfl (by (try simp only [List.map_toArray, List.map_cons, List.map_nil]); first | done | rfl | (simp only [List.length_drop, List.length_take]; rfl)) ?_; (with_reducible refine (spec_l17Ok.calls k _ [(⟨a0_0, a0_1, l0_2⟩ : S28)] true _ ?side1 A3.out).mono ?_); (case side1 => exact Go.Proofs.YtopopjkoanpjiaaX.rp_box (t := 28) (fr := (0, 0)) (bl_ BK198.out) (k28_mk _ (⟨a0_0, a0_1, l0_2⟩ : S28) (by exact HC0_2.out) (by repeat (first | exact (Kd.C_below HR0_2.out HB.out) | (with_reducible refine Kd.C_alloc ?_ _) | (with_reducible refine Kd.C_drewN ?_ _) | (with_reducible refine Kd.C_drew ?_))))); rintro e w10 ⟨rfl, hb⟩; refine ⟨_, rfl, ?_⟩; have n0_ := mkA (blk_below (g := gb198) (o := .cells #[.int .i64 a0_0, .int .i64 a0_1, .slice A0_2 l0_2.length c0_2] 28 (0, 0)) (bl_ BK198.out) hb); have n1_ := mkA (below_step (bs1_ HB.out GE198.out) hb); clear BK198; clear HB; have BK198 := n0_; have HB := n1_; clear n0_ n1_; (try clear hb); (try clear hb2); (try clear hk); (try clear hi)) | ((with_reducible refine gate_callee (f := 16) rfl ?_); refine goesL_ (some 9) rfl rfl Try.func16 (by kernel_rfl) rfl #[.pointer (some ⟨gb198, 0, none⟩)] rfl (by (try simp only [List.map_toArray, List.map_cons, List.map_nil]); first | done | rfl | (simp only [List.length_drop, List.length_take]; rfl)) ?_; (with_reducible refine (spec_l17Most.calls k _ [(⟨a0_0, a0_1, l0_2⟩ : S28)] t200 _ ?side1 A5.out).mono ?_); (case side1 => exact Go.Proofs.YtopopjkoanpjiaaX.rp_box (t := 28) (fr := (0, 0)) (bl_ BK198.out) (k28_mk _ (⟨a0_0, a0_1, l0_2⟩ : S28) (by exact HC0_2.out) (by repeat (first | exact (Kd.C_below HR0_2.out HB.out) | (with_reducible refine Kd.C_alloc ?_ _) | (with_reducible refine Kd.C_drewN ?_ _) | (with_reducible refine Kd.C_drew ?_))))); rintro e w' ⟨rfl, ⟨nd, rfl⟩⟩; refine ⟨_, rfl, ?_⟩) | ((with_reducible refine gate_callee (f := 15) rfl ?_); refine goesL_ (some 11) rfl rfl Try.func15 (by kernel_rfl) rfl #[.int .i64 a1, .int .i64 0, .int .i64 (wrap64 (t200 - 1))] rfl (by (try simp only [List.map_toArray, List.map_cons, List.map_nil]); first | done | rfl | (simp only [List.length_drop, List.length_take]; rfl)) ?_; (with_reducible refine (spec_l00In.calls a1 0 (wrap64 (t200 - 1)) true _ A6.out).mono ?_); rintro e w' ⟨rfl, ⟨nd, rfl⟩⟩; refine ⟨_, rfl, ?_⟩) | ((with_reducible refine gate_callee (f := 17) rfl ?_); refine goesL_ (some 14) rfl rfl Try.func17 (by kernel_rfl) rfl #[.pointer (some ⟨gb198, 0, none⟩), .int .i64 a1] rfl (by (try simp only [List.map_toArray, List.map_cons, List.map_nil]); first | done | rfl | (simp only [List.length_drop, List.length_take]; rfl)) ?_; (with_reducible refine (spec_l17Near.calls k _ [(⟨a0_0, a0_1, l0_2⟩ : S28)] a1 t202 _ ?side1 A8.out).mono ?_); (case side1 => exact Go.Proofs.YtopopjkoanpjiaaX.rp_box (t := 28) (fr := (0, 0)) (bl_ BK198.out) (k28_mk _ (⟨a0_0, a0_1, l0_2⟩ : S28) (by exact HC0_2.out) (by repeat (first | exact (Kd.C_below HR0_2.out (bs1_ HB.out GE198.out)) | (with_reducible refine Kd.C_alloc ?_ _) | (with_reducible refine Kd.C_drewN ?_ _) | (with_reducible refine Kd.C_drew ?_))))); rintro e w11 ⟨v203, rfl, ho0, hb⟩; refine ⟨_, rfl, ?_⟩; have n0_ := mkA (Kd.R_lower ho0 (below_size (bs1_ HB.out GE198.out))); have n1_ := mkA (blk_below (g := gb198) (o := .cells #[.int .i64 a0_0, .int .i64 a0_1, .slice A0_2 l0_2.length c0_2] 28 (0, 0)) (bl_ BK198.out) hb); have n2_ := mkA (below_step (bs1_ HB.out GE198.out) hb); clear BK198; clear HB; have HO204 := n0_; have BK198 := n1_; have HB := n2_; clear n0_ n1_ n2_; (try clear hb); (try clear hb2); (try clear hk); (try clear hi); (try clear ho0)))
 go_ret2
 exact ⟨_, by first | rfl | (simp [errW_none, errW_some] <;> rfl) | (simp [*, errW_none, errW_some] <;> rfl), by (with_reducible repeat (first | apply Kd.R_alloc | apply Kd.R_drewN | apply Kd.R_drew)); exact HO204.out, by repeat (first | (with_reducible first | exact HB.out | apply below_alloc | apply pw_below_drewN | apply below_drew1 | refine below_set ?_ GE198.out) | exact HB.out)⟩
end Go.Proofs.Ytopopjkoanpjiaa.GFnExactTileNeighbours

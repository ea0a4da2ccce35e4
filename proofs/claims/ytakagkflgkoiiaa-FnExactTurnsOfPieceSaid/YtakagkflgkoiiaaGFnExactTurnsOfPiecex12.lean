-- Written by the session's own program (gen.py) out of the translation's print. Lean checks it.
import Derived.Test.YtakagkflgkoiiaaGFnExactTurnsOfPiecex0
import Derived.Test.YtakagkflgkoiiaaGFnExactTurnsOfPiecex8
namespace Go.Proofs.Ytakagkflgkoiiaa.GFnExactTurnsOfPiece
open Go.RowKit Go.Proofs.YtakagkflgkoiiaaW.PrintWords Go.Proofs.YtakagkflgkoiiaaW.PrintLast Go.Proofs.YtakagkflgkoiiaaW.PrintMore
attribute [local go_sem] max2_int min2_int max_two min_two max_three min_three max_four min_four   -- for this text's walks alone
set_option linter.unusedVariables false
set_option linter.unusedSimpArgs false

/-! ### fi115_89: function 100002 -/
mutual
def fi115_89.l0 : Nat → List (S105) → Int → Int → Int → Option ((List (S105)))
  | 0, _, _, _, _ => none
  | k + 1, x0, x1, x2, x8 => if x8 < x2 then (fi115_89.l1 k x0 x1 x2 x8 x8) else (some x0)
def fi115_89.l1 : Nat → List (S105) → Int → Int → Int → Int → Option ((List (S105)))
  | 0, _, _, _, _, _ => none
  | k + 1, x0, x1, x2, x8, x9 => if x9 > x1 then (if 0 ≤ x9 then (if x9 < (x0.length : Int) then (if 0 ≤ (wrap64 (x9 - 1)) then (if (wrap64 (x9 - 1)) < (x0.length : Int) then ((impl_compareCells.f ((rd_T105 x0 x9).f0) ((rd_T105 x0 x9).f1) ((rd_T105 x0 (wrap64 (x9 - 1))).f0) ((rd_T105 x0 (wrap64 (x9 - 1))).f1)).bind fun t293 => (if t293 < 0 then (fi115_89.l1 k ((x0.set (x9 : Int).toNat (⟨(rd_T105 x0 (wrap64 (x9 - 1))).f0, (rd_T105 x0 (wrap64 (x9 - 1))).f1⟩ : S105)).set ((wrap64 (x9 - 1)) : Int).toNat (⟨(rd_T105 x0 x9).f0, (rd_T105 x0 x9).f1⟩ : S105)) x1 x2 x8 (wrap64 (x9 - 1))) else (fi115_89.l0 k x0 x1 x2 (wrap64 (x8 + 1))))) else (none)) else (none)) else (none)) else (none)) else (fi115_89.l0 k x0 x1 x2 (wrap64 (x8 + 1)))
end
def fi115_89.f (k : Nat) (l0 : List (S105)) (a1 : Int) (a2 : Int)  : Option ((List (S105))) := fi115_89.l0 k l0 a1 a2 (wrap64 (a1 + 1))
def fi115_89.T4 : Bool × List (List Nat × List Nat) := (true, [([], []), ([], []), ([0, 1], [0, 1]), ([2], [2]), ([3], [3]), ([3], [3]), ([3], [3]), ([5, 6, 3], [3, 5, 6]), ([7, 3], [3, 7]), ([3], [3]), ([3], [3]), ([10, 3], [3, 10]), ([9, 11, 3], [3, 9, 11]), ([12, 3], [3, 12]), ([4, 8, 13, 3, 3], [3, 4, 8, 13]), ([14, 3], [3, 14]), ([3, 15], [3, 15])])
def fi115_89.B4 : List Nat := [0, 0, 3, 7, 15, 15, 15, 111, 239, 15, 15, 1039, 3599, 7695, 16383, 32767, 65535]
theorem fi115_89.tab4 : rtab .any (opsOf Try.f115 4) = fi115_89.T4 := by kernel_rfl
theorem fi115_89.bits4 : waitsOk fi115_89.T4.2 fi115_89.B4 = true := by kernel_rfl
def fi115_89.T6 : Bool × List (List Nat × List Nat) := (true, [([], []), ([], []), ([], []), ([], []), ([3], [3]), ([], []), ([], []), ([6], [6]), ([5, 7], [5, 7]), ([8], [8]), ([], []), ([], []), ([10, 11], [10, 11]), ([12], [12]), ([0, 1, 0, 1, 5, 6, 7, 8, 9, 13], [0, 1]), ([14, 9, 0, 1, 5, 6, 7, 8, 9, 13], [9, 14]), ([2, 4, 0, 1, 2, 3, 4, 5, 6, 7, 8, 9, 10, 11, 12, 13, 14, 15], [2, 4]), ([16, 13, 15, 0, 1, 2, 3, 4, 5, 6, 7, 8, 9, 10, 11, 12, 13, 14, 15], [13, 16])])
def fi115_89.B6 : List Nat := [0, 0, 0, 0, 8, 0, 0, 64, 224, 480, 0, 0, 3072, 7168, 16355, 32739, 65535, 131071]
theorem fi115_89.tab6 : rtab .any (opsOf Try.f115 6) = fi115_89.T6 := by kernel_rfl
theorem fi115_89.bits6 : waitsOk fi115_89.T6.2 fi115_89.B6 = true := by kernel_rfl
open List renaming setIfInBounds_toArray → sA, set_cons_zero → sB, set_cons_succ → sC
open Go.Proofs.YtakagkflgkoiiaaW.PrintWords.Aside0 renaming mk → mkA
open Go.Proofs.YtakagkflgkoiiaaX (dt_ bc_ p0_ p1_ bl_ cb_ bs0_ bs1_ bs2_ bs3_ bs4_ bs5_ bs6_ bs7_ bs8_ bs9_ bs10_ bs11_ bs12_)
abbrev fi115_89.d0 : Array Bool := #[false, false, false, false, false, false, false, false, false, false, false, false, false, false, false, false, false]
abbrev fi115_89.d1 : Array Bool := #[true, false, false, false, false, false, false, false, false, false, false, false, false, false, false, false, false]
abbrev fi115_89.d2 : Array Bool := #[true, true, false, false, false, false, false, false, false, false, false, false, false, false, false, false, false]
abbrev fi115_89.d3 : Array Bool := #[true, true, true, false, false, false, false, false, false, false, false, false, false, false, false, false, false]
abbrev fi115_89.d4 : Array Bool := #[true, true, true, true, false, false, false, false, false, false, false, false, false, false, false, false, false]
abbrev fi115_89.d5 : Array Bool := #[true, true, true, true, true, false, false, false, false, false, false, false, false, false, false, false, false]
abbrev fi115_89.d6 : Array Bool := #[true, true, true, true, true, true, false, false, false, false, false, false, false, false, false, false, false]
abbrev fi115_89.d7 : Array Bool := #[true, true, true, true, true, true, true, false, false, false, false, false, false, false, false, false, false]
abbrev fi115_89.d8 : Array Bool := #[true, true, true, true, true, true, true, true, false, false, false, false, false, false, false, false, false]
abbrev fi115_89.d9 : Array Bool := #[true, true, true, true, true, true, true, true, false, true, false, false, false, false, false, false, false]
abbrev fi115_89.d10 : Array Bool := #[true, true, true, true, true, true, true, true, false, true, true, false, false, false, false, false, false]
abbrev fi115_89.d11 : Array Bool := #[true, true, true, true, true, true, true, true, false, true, true, true, false, false, false, false, false]
abbrev fi115_89.d12 : Array Bool := #[true, true, true, true, true, true, true, true, false, true, true, true, true, false, false, false, false]
abbrev fi115_89.d13 : Array Bool := #[true, true, true, true, true, true, true, true, true, true, true, true, true, false, false, false, false]
abbrev fi115_89.d14 : Array Bool := #[true, true, true, true, true, true, true, true, true, true, true, true, true, true, false, false, false]
abbrev fi115_89.d15 : Array Bool := #[true, true, true, true, true, true, true, true, true, true, true, true, true, true, true, false, false]
abbrev fi115_89.d16 : Array Bool := #[true, true, true, true, true, true, true, true, true, true, true, true, true, true, true, true, false]
abbrev fi115_89.d17 : Array Bool := #[true, true, true, true, true, true, true, true, true, true, true, true, true, true, true, true, true]
abbrev fi115_89.d18 : Array Bool := #[false, false, false, false, false, false, false, false, false, false, false, false, false, false, false, false, false, false]
abbrev fi115_89.d19 : Array Bool := #[true, false, false, false, false, false, false, false, false, false, false, false, false, false, false, false, false, false]
abbrev fi115_89.d20 : Array Bool := #[true, true, false, false, false, false, false, false, false, false, false, false, false, false, false, false, false, false]
abbrev fi115_89.d21 : Array Bool := #[true, true, true, false, false, false, false, false, false, false, false, false, false, false, false, false, false, false]
abbrev fi115_89.d22 : Array Bool := #[true, true, true, true, false, false, false, false, false, false, false, false, false, false, false, false, false, false]
abbrev fi115_89.d23 : Array Bool := #[true, true, true, true, true, false, false, false, false, false, false, false, false, false, false, false, false, false]
abbrev fi115_89.d24 : Array Bool := #[true, true, true, true, true, true, false, false, false, false, false, false, false, false, false, false, false, false]
abbrev fi115_89.d25 : Array Bool := #[true, true, true, true, true, true, true, false, false, false, false, false, false, false, false, false, false, false]
abbrev fi115_89.d26 : Array Bool := #[true, true, true, true, true, true, true, true, false, false, false, false, false, false, false, false, false, false]
abbrev fi115_89.d27 : Array Bool := #[true, true, true, true, true, true, true, true, true, false, false, false, false, false, false, false, false, false]
abbrev fi115_89.d28 : Array Bool := #[true, true, true, true, true, true, true, true, true, false, true, false, false, false, false, false, false, false]
abbrev fi115_89.d29 : Array Bool := #[true, true, true, true, true, true, true, true, true, false, true, true, false, false, false, false, false, false]
abbrev fi115_89.d30 : Array Bool := #[true, true, true, true, true, true, true, true, true, false, true, true, true, false, false, false, false, false]
abbrev fi115_89.d31 : Array Bool := #[true, true, true, true, true, true, true, true, true, true, true, true, true, false, false, false, false, false]
abbrev fi115_89.d32 : Array Bool := #[true, true, true, true, true, true, true, true, true, true, true, true, true, true, false, false, false, false]
abbrev fi115_89.d33 : Array Bool := #[true, true, true, true, true, true, true, true, true, true, true, true, true, true, true, false, false, false]
abbrev fi115_89.d34 : Array Bool := #[true, true, true, true, true, true, true, true, true, true, true, true, true, true, true, true, false, false]
abbrev fi115_89.d35 : Array Bool := #[true, true, true, true, true, true, true, true, true, true, true, true, true, true, true, true, true, false]
abbrev fi115_89.d36 : Array Bool := #[true, true, true, true, true, true, true, true, true, true, true, true, true, true, true, true, true, true]
abbrev fi115_89.d37 : Array Bool := #[true, true, true, true, true, true, true, true, true, false, false, false, false, false, false, false, false]
abbrev fi115_89.d38 : Array Bool := #[true, true, true, true, true, true, true, true, true, true, false, false, false, false, false, false, false]
abbrev fi115_89.d39 : Array Bool := #[true, true, true, true, true, true, true, true, true, true, true, false, false, false, false, false, false]
abbrev fi115_89.d40 : Array Bool := #[true, true, true, true, true, true, true, true, true, true, true, true, false, false, false, false, false]
set_option maxHeartbeats 8000000 in
set_option maxRecDepth 100000 in
theorem fi115_89.calls (k : Nat) (P0_ : Nat → Prop) (u9000_ : Value) (l0 : List (S105)) (a1 : Int) (a2 : Int)  (r : List (S105)) (w0 w : World) (hB : Below w0.heap.size w0 w) (ho0 : Kd.R k105 105 w w0.heap.size P0_ u9000_ l0) (h : fi115_89.f k l0 a1 a2 = some r) :
 Calls Try.prog 115 #[u9000_, .int .i64 a1, .int .i64 a2, .func (.func 89) #[] #[]] w fun e w' => e = .returned (.tuple #[]) ∧ Kd.R k105 105 w' w0.heap.size (fun k_ => (P0_ k_ ∨ w.heap.size ≤ k_)) u9000_ r ∧ Below w0.heap.size w0 w' ∧ Kept w w' (fun k_ => P0_ k_) := by
 have hu105 := Try.underlying105
 have HO0 := mkA (show Kd.R k105 105 w w0.heap.size (fun k_ => (P0_ k_ ∨ w.heap.size ≤ k_)) u9000_ l0 from Kd.R_mono ho0 (fun k_ hk => (.inl hk)))
 have HK := mkA (Kept.refl w (fun k_ => P0_ k_))
 have HW0 := mkA hB.size
 have HB := mkA hB
 clear hB
 have H : (fi115_89.l0 k l0 a1 a2 (wrap64 (a1 + 1))) = some r := h
 clear h
 have H' := mkA H
 clear H
 go_enter Try.func115, Try.ntmps115
 go_wp2
 go_loopg [8] k (fun kq v8 w' => ∃ (x0_1 : List (S105)) (x8_1 : Int), v8 = .int .i64 x8_1 ∧ Aside0 (fi115_89.l0 kq x0_1 a1 a2 x8_1 = some r) ∧ Aside0 (kq ≤ k) ∧ Aside0 (Kd.R k105 105 w' w0.heap.size (fun k_ => (P0_ k_ ∨ w.heap.size ≤ k_)) u9000_ x0_1) ∧ Aside0 (Kept w w' (fun k_ => P0_ k_)) ∧ Aside0 (Below w0.heap.size w0 w'))
 case atStart => exact ⟨(l0), (wrap64 (a1 + 1)), (by first | rfl | (simp; done) | (simp [*]; done) | (simp [i64_w, i32_w]; done)), H', ⟨Nat.le_refl _⟩, ⟨by (with_reducible repeat (first | apply Kd.R_alloc | apply Kd.R_drewN | apply Kd.R_drew)); exact HO0.out⟩, ⟨by repeat (first | (with_reducible first | exact HK.out | apply Kept.alloc | apply Kept.drewN | apply Kept.drew) | exact HK.out)⟩, ⟨by repeat (first | (with_reducible first | exact HB.out | apply below_alloc | apply pw_below_drewN | apply below_drew1) | exact HB.out)⟩⟩
 case round =>
  clear H'
  try clear c1
  try clear p2
  obtain ⟨x0_1, x8_1, rfl, HA, HK1, HO_0, HK, HB⟩ := hrel
  cases gk with
  | zero => exact absurd HA.out (by simp [fi115_89.l0])
  | succ k1 =>
   have H := HA.out
   clear HA
   simp only [fi115_89.l0] at H
   by_cases c5 : x8_1 < a2
   rotate_left
   · rw [if_neg c5] at H
     have c5b0 : decide (x8_1 < a2) = false := decide_eq_false c5
     clear c5
     obtain rfl := Option.some.inj H
     go_wp2
     first | go_end0 | ((try simp only [Exit.inBlock, Exit.then]); refine bodyPost_ret (results_none rfl _ _ _) rfl ?_)
     exact ⟨by first | rfl | (simp [errW_none, errW_some] <;> rfl) | (simp [*, errW_none, errW_some] <;> rfl), by (with_reducible repeat (first | apply Kd.R_alloc | apply Kd.R_drewN | apply Kd.R_drew)); exact HO_0.out, by repeat (first | (with_reducible first | exact HB.out | apply below_alloc | apply pw_below_drewN | apply below_drew1) | exact HB.out), by repeat (first | (with_reducible first | exact HK.out | apply Kept.alloc | apply Kept.drewN | apply Kept.drew) | exact HK.out)⟩

   rw [if_pos c5] at H
   have c5b0 : decide (x8_1 < a2) = true := decide_eq_true c5
   clear c5
   have H' := mkA H
   clear H
   go_wp2
   go_loopg [9] k1 (fun kq v9 w' => ∃ (x0_2 : List (S105)) (x9_2 : Int), v9 = .int .i64 x9_2 ∧ Aside0 (fi115_89.l1 kq x0_2 a1 a2 x8_1 x9_2 = some r) ∧ Aside0 (kq ≤ k1) ∧ Aside0 (Kd.R k105 105 w' w0.heap.size (fun k_ => (P0_ k_ ∨ w.heap.size ≤ k_)) u9000_ x0_2) ∧ Aside0 (Kept w w' (fun k_ => P0_ k_)) ∧ Aside0 (Below w0.heap.size w0 w'))
   case atStart => exact ⟨(x0_1), (x8_1), (by first | rfl | (simp; done) | (simp [*]; done) | (simp [i64_w, i32_w]; done)), H', ⟨Nat.le_refl _⟩, ⟨by (with_reducible repeat (first | apply Kd.R_alloc | apply Kd.R_drewN | apply Kd.R_drew)); exact HO_0.out⟩, ⟨by repeat (first | (with_reducible first | exact HK.out | apply Kept.alloc | apply Kept.drewN | apply Kept.drew) | exact HK.out)⟩, ⟨by repeat (first | (with_reducible first | exact HB.out | apply below_alloc | apply pw_below_drewN | apply below_drew1) | exact HB.out)⟩⟩
   case round =>
    clear H'
    try clear c1
    try clear p2
    try clear c5
    try clear c5b0
    try clear p2
    obtain ⟨x0_2, x9_2, rfl, HA, HK2, HO_0, HK, HB⟩ := hrel
    cases gk with
    | zero => exact absurd HA.out (by simp [fi115_89.l1])
    | succ k2 =>
     have H := HA.out
     clear HA
     simp only [fi115_89.l1] at H
     by_cases c6 : x9_2 > a1
     rotate_left
     · rw [if_neg c6] at H
       have c6b0 : decide (a1 < x9_2) = false := decide_eq_false c6
       clear c6
       have H' := mkA H
       clear H
       try go_wp2
       have n0_ := mkA (Kd.R_drew HO_0.out)
       have n1_ := mkA (Kept.drew HK.out)
       have n2_ := mkA (below_drew1 HB.out)
       clear HO_0
       clear HK
       clear HB
       have HO_0 := n0_
       have HK := n1_
       have HB := n2_
       clear n0_ n1_ n2_
       refine start_ (n := 17) (S := fun w' => True) (ds := []) fi115_89.d0 (by kernel_rfl) rfl rfl trivial (fun hHeld => ?_); refine with_tabW fi115_89.tab4 fi115_89.bits4 (fun HT_ HW_ => ?_)
       generalize wr.drew = w25 at HO_0 HK HB hHeld ⊢
       refine p1_ HT_.out 0 18 fi115_89.d1 ?_
       refine p1_ HT_.out 1 19 fi115_89.d2 ?_
       refine p1_ HT_.out 2 20 fi115_89.d3 ?_
       refine p1_ HT_.out 3 21 fi115_89.d4 ?_
       refine p0_ HT_.out 4 22 fi115_89.d5 ?_
       refine p0_ HT_.out 5 23 fi115_89.d6 ?_
       refine p0_ HT_.out 6 24 fi115_89.d7 ?_
       refine p0_ HT_.out 7 25 fi115_89.d8 ?_
       refine p0_ HT_.out 8 26 fi115_89.d37 ?_
       refine p0_ HT_.out 9 27 fi115_89.d38 ?_
       refine p0_ HT_.out 10 28 fi115_89.d39 ?_
       refine p0_ HT_.out 11 29 fi115_89.d40 ?_
       refine p0_ HT_.out 12 30 fi115_89.d13 ?_
       refine p0_ HT_.out 13 31 fi115_89.d14 ?_
       refine p0_ HT_.out 14 32 fi115_89.d15 ?_
       refine p0_ HT_.out 15 33 fi115_89.d16 ?_
       refine p1_ HT_.out 16 34 fi115_89.d17 ?_
       refine done_ (done_of HT_.out (by kernel_rfl)) ?_
       try go_wp2
       go_roundg k2
       case measure => have := HK1.out; have := HK2.out; omega
       case rel => exact ⟨(x0_2), (wrap64 (x8_1 + 1)), (by first | rfl | (simp; done) | (simp [*]; done) | (simp [i64_w, i32_w]; done)), H', ⟨by have := HK1.out; have := HK2.out; omega⟩, ⟨by (with_reducible repeat (first | apply Kd.R_alloc | apply Kd.R_drewN | apply Kd.R_drew)); exact HO_0.out⟩, ⟨by repeat (first | (with_reducible first | exact HK.out | apply Kept.alloc | apply Kept.drewN | apply Kept.drew) | exact HK.out)⟩, ⟨by repeat (first | (with_reducible first | exact HB.out | apply below_alloc | apply pw_below_drewN | apply below_drew1) | exact HB.out)⟩⟩
     rw [if_pos c6] at H
     have c6b0 : decide (a1 < x9_2) = true := decide_eq_true c6
     clear c6
     by_cases c7 : 0 ≤ x9_2
     rotate_left
     · rw [if_neg c7] at H
       exact absurd H (by simp)
     rw [if_pos c7] at H
     have c7b0 : decide (0 ≤ x9_2) = true := decide_eq_true c7
     clear c7
     by_cases c8 : x9_2 < (x0_2.length : Int)
     rotate_left
     · rw [if_neg c8] at H
       exact absurd H (by simp)
     rw [if_pos c8] at H
     have c8b0 : decide (x9_2 < (x0_2.length : Int)) = true := decide_eq_true c8
     clear c8
     obtain ⟨ji9, hji9⟩ : ∃ j_ : Int, (wrap64 (x9_2 - 1)) = j_ := ⟨_, rfl⟩
     replace H : (if 0 ≤ (ji9) then (if (ji9) < (x0_2.length : Int) then ((impl_compareCells.f ((rd_T105 x0_2 x9_2).f0) ((rd_T105 x0_2 x9_2).f1) ((rd_T105 x0_2 (ji9)).f0) ((rd_T105 x0_2 (ji9)).f1)).bind fun t293 => (if t293 < 0 then (fi115_89.l1 k2 ((x0_2.set (x9_2 : Int).toNat (⟨(rd_T105 x0_2 (ji9)).f0, (rd_T105 x0_2 (ji9)).f1⟩ : S105)).set ((ji9) : Int).toNat (⟨(rd_T105 x0_2 x9_2).f0, (rd_T105 x0_2 x9_2).f1⟩ : S105)) a1 a2 x8_1 ji9) else (fi115_89.l0 k2 x0_2 a1 a2 (wrap64 (x8_1 + 1))))) else (none)) else (none)) = some r := by first | (rw [hji9] at H; exact H) | (simp only [hji9] at H ⊢; exact H)
     have hji9w : (IntKind.i64.wrap (x9_2 - 1)) = ji9 := (i64_w _).trans hji9
     by_cases c10 : 0 ≤ (ji9)
     rotate_left
     · rw [if_neg c10] at H
       exact absurd H (by simp)
     rw [if_pos c10] at H
     have c10b0 : decide (0 ≤ (ji9)) = true := decide_eq_true c10
     clear c10
     by_cases c11 : (ji9) < (x0_2.length : Int)
     rotate_left
     · rw [if_neg c11] at H
       exact absurd H (by simp)
     rw [if_pos c11] at H
     have c11b0 : decide ((ji9) < (x0_2.length : Int)) = true := decide_eq_true c11
     clear c11
     replace H := Option.bind_eq_some_iff.mp H
     obtain ⟨t293, A120, H⟩ := H
     replace H : (if t293 < 0 then (fi115_89.l1 k2 ((x0_2.set (x9_2 : Int).toNat (⟨(rd_T105 x0_2 (ji9)).f0, (rd_T105 x0_2 (ji9)).f1⟩ : S105)).set ((ji9) : Int).toNat (⟨(rd_T105 x0_2 x9_2).f0, (rd_T105 x0_2 x9_2).f1⟩ : S105)) a1 a2 x8_1 ji9) else (fi115_89.l0 k2 x0_2 a1 a2 (wrap64 (x8_1 + 1)))) = some r := H
     have A12 := mkA A120
     clear A120
     by_cases c13 : t293 < 0
     rotate_left
     · rw [if_neg c13] at H
       have c13b0 : decide (t293 < 0) = false := decide_eq_false c13
       clear c13
       have H' := mkA H
       clear H
       try go_wp2
       have n0_ := mkA (Kd.R_drew HO_0.out)
       have n1_ := mkA (Kept.drew HK.out)
       have n2_ := mkA (below_drew1 HB.out)
       clear HO_0
       clear HK
       clear HB
       have HO_0 := n0_
       have HK := n1_
       have HB := n2_
       clear n0_ n1_ n2_
       obtain ⟨Ao23, co23, eo23⟩ := Kd.R_slice HO_0.out
       (first | subst eo23 | (injection eo23 with f1_ f2_ f3_; have f4_ := f1_.symm; have f5_ := f3_.symm; clear f1_ f2_ f3_; subst f4_; subst f5_))
       have p291 : 0 ≤ (x9_2 : Int) := dt_
       have q291 : x9_2 < (x0_2.length : Int) := dt_
       obtain ⟨ad291, e291, hx291_0, hx291_1⟩ := at_T105 (Kd.R_reads' HO_0.out).2.2 x9_2 p291 q291
       cases e291
       replace p291 := eq_true p291
       replace q291 := eq_true q291
       have p292 : 0 ≤ ((ji9) : Int) := dt_
       have q292 : (ji9) < (x0_2.length : Int) := dt_
       obtain ⟨ad292, e292, hx292_0, hx292_1⟩ := at_T105 (Kd.R_reads' HO_0.out).2.2 (ji9) p292 q292
       obtain rfl : ad291 = ad292 := (by injection e292)
       replace p292 := eq_true p292
       replace q292 := eq_true q292
       refine start_ (n := 17) (S := fun w' => w'.cell? (ad291.add ((x9_2).toNat * 2)) = some (.int .i64 ((rd_T105 x0_2 x9_2).f0)) ∧ w'.cell? ⟨(ad291.add ((x9_2).toNat * 2)).block, (ad291.add ((x9_2).toNat * 2)).off + 1, none⟩ = some (.int .i64 ((rd_T105 x0_2 x9_2).f1)) ∧ w'.cell? (ad291.add (((ji9)).toNat * 2)) = some (.int .i64 ((rd_T105 x0_2 (ji9)).f0)) ∧ w'.cell? ⟨(ad291.add (((ji9)).toNat * 2)).block, (ad291.add (((ji9)).toNat * 2)).off + 1, none⟩ = some (.int .i64 ((rd_T105 x0_2 (ji9)).f1))) (ds := []) fi115_89.d0 (by kernel_rfl) rfl rfl ⟨hx291_0, hx291_1, hx292_0, hx292_1⟩ (fun hHeld => ?_); refine with_tabW fi115_89.tab4 fi115_89.bits4 (fun HT_ HW_ => ?_)
       generalize wr.drew = w22 at HO_0 HK HB hx291_0 hx291_1 hx292_0 hx292_1 hHeld ⊢
       refine p1_ HT_.out 0 18 fi115_89.d1 ?_
       refine p1_ HT_.out 1 19 fi115_89.d2 ?_
       refine p1_ HT_.out 2 20 fi115_89.d3 ?_
       refine p1_ HT_.out 3 21 fi115_89.d4 ?_
       refine p1_ HT_.out 4 22 fi115_89.d5 ?_
       refine p1_ HT_.out 5 23 fi115_89.d6 ?_
       refine p1_ HT_.out 6 24 fi115_89.d7 ?_
       refine p1_ HT_.out 7 25 fi115_89.d8 ?_
       refine p1_ HT_.out 9 27 fi115_89.d9 ?_
       refine p1_ HT_.out 10 28 fi115_89.d10 ?_
       refine p1_ HT_.out 11 29 fi115_89.d11 ?_
       refine p1_ HT_.out 12 30 fi115_89.d12 ?_
       refine take_ (i := 8) (N := some 26) (v := ?_) (a' := ?_) fi115_89.d13 rfl rfl (take_ofW HT_.out HW_.out (by kernel_rfl)) (fun _ _ _ h => h) (Or.inl ⟨by rfl, ?_⟩) hHeld ?_ ?_
       rotate_left
       · rintro w' ⟨s0, s1, s2, s3⟩
         go_simp
         with_reducible rfl
       rotate_left
       · simp only [Act.put, sA, sB, sC, i64_w, i32_w]
         rfl
       refine take_ (i := 13) (N := some 31) (v := ?_) (a' := ?_) fi115_89.d14 rfl rfl (take_ofW HT_.out HW_.out (by kernel_rfl)) (fun _ _ _ h => h) (Or.inl ⟨by rfl, ?_⟩) hHeld ?_ ?_
       rotate_left
       · rintro w' ⟨s0, s1, s2, s3⟩
         go_simp
         with_reducible rfl
       rotate_left
       · simp only [Act.put, sA, sB, sC, i64_w, i32_w]
         rfl
       refine one_ (i := 14) (N := some 32) fi115_89.d15 rfl rfl (one_of HT_.out (by kernel_rfl)) (by decide) (fun K hK => ?_)
       refine Go.Proofs.YtakagkflgkoiiaaX.goesVR_ Try.func89 (by kernel_rfl) rfl #[.agg #[.int .i64 ((rd_T105 x0_2 x9_2).f0), .int .i64 ((rd_T105 x0_2 x9_2).f1)], .agg #[.int .i64 ((rd_T105 x0_2 (ji9)).f0), .int .i64 ((rd_T105 x0_2 (ji9)).f1)]] (by rfl) rfl rfl (by rfl) (by (try simp only [List.map_toArray, List.map_cons, List.map_nil]); first | done | (simp only [hji9]; rfl) | rfl | (simp; done)) ?_
       with_reducible refine (impl_compareCells.calls ((rd_T105 x0_2 x9_2).f0) ((rd_T105 x0_2 x9_2).f1) ((rd_T105 x0_2 (ji9)).f0) ((rd_T105 x0_2 (ji9)).f1) t293 _ A12.out).mono ?_
       rintro e w24 ⟨rfl, hb⟩
       have HS0_ := (hb.cell (World.block_lt_of_cell? _ _ (hHeld.1))).trans (hHeld.1)
       have HS1_ := (hb.cell (World.block_lt_of_cell? _ _ (hHeld.2.1))).trans (hHeld.2.1)
       have HS2_ := (hb.cell (World.block_lt_of_cell? _ _ (hHeld.2.2.1))).trans (hHeld.2.2.1)
       have HS3_ := (hb.cell (World.block_lt_of_cell? _ _ (hHeld.2.2.2))).trans (hHeld.2.2.2)
       refine ⟨_, rfl, ?_⟩
       have n0_ := mkA (Kd.R_below (by (with_reducible repeat (first | apply Kd.R_alloc | apply Kd.R_drewN | apply Kd.R_drew)); exact HO_0.out) hb)
       have n1_ := mkA (Kept.below (S := (fun k_ => P0_ k_)) (by repeat (first | (with_reducible first | exact HK.out | apply Kept.alloc | apply Kept.drewN | apply Kept.drew) | exact HK.out)) hb)
       have n2_ := mkA (below_step (bs0_ HB.out) hb)
       clear HO_0
       clear HK
       clear HB
       have HO_0 := n0_
       have HK := n1_
       have HB := n2_
       clear n0_ n1_ n2_
       (try clear hb)
       (try clear hb2)
       (try clear hk)
       (try clear hi)
       refine hK.out _ _ ⟨HS0_, HS1_, HS2_, HS3_⟩ (fun hHeld => ?_)
       clear hK K
       refine norm_ (a' := ?_) ?_ ?_
       rotate_left
       · show Act.put _ (some 32) _ = _
         simp only [Act.put, sA, sB, sC, i64_w, i32_w]
         rfl
       refine p1_ HT_.out 15 33 fi115_89.d16 ?_
       refine p1_ HT_.out 16 34 fi115_89.d17 ?_
       refine done_ (done_of HT_.out (by kernel_rfl)) ?_
       try go_wp2
       go_roundg k2
       case measure => have := HK1.out; have := HK2.out; omega
       case rel => exact ⟨(x0_2), (wrap64 (x8_1 + 1)), (by first | rfl | (simp; done) | (simp [*]; done) | (simp [i64_w, i32_w]; done)), H', ⟨by have := HK1.out; have := HK2.out; omega⟩, ⟨by (with_reducible repeat (first | apply Kd.R_alloc | apply Kd.R_drewN | apply Kd.R_drew)); exact HO_0.out⟩, ⟨by repeat (first | (with_reducible first | exact HK.out | apply Kept.alloc | apply Kept.drewN | apply Kept.drew) | exact HK.out)⟩, ⟨by repeat (first | (with_reducible first | exact HB.out | apply below_alloc | apply pw_below_drewN | apply below_drew1) | exact HB.out)⟩⟩
     rw [if_pos c13] at H
     have c13b0 : decide (t293 < 0) = true := decide_eq_true c13
     clear c13
     obtain ⟨y296, hy296⟩ : ∃ y_ : List (S105), y_ = (x0_2.set (x9_2 : Int).toNat (⟨(rd_T105 x0_2 (ji9)).f0, (rd_T105 x0_2 (ji9)).f1⟩ : S105)) := ⟨_, rfl⟩
     replace H : (fi115_89.l1 k2 (y296.set ((ji9) : Int).toNat (⟨(rd_T105 x0_2 x9_2).f0, (rd_T105 x0_2 x9_2).f1⟩ : S105)) a1 a2 x8_1 ji9) = some r := by first | (rw [hy296]; with_reducible exact H) | (have H2_ := (Option.bind_some _ _).symm.trans H; rw [hy296]; with_reducible exact H2_) | (have H2_ := (Option.bind_some _ _).symm.trans H; with_reducible exact H2_) | with_reducible exact H | (rw [hy296]; exact H) | exact H
     have Ny296 := mkA hy296
     clear hy296
     obtain ⟨y297, hy297⟩ : ∃ y_ : List (S105), y_ = (y296.set ((ji9) : Int).toNat (⟨(rd_T105 x0_2 x9_2).f0, (rd_T105 x0_2 x9_2).f1⟩ : S105)) := ⟨_, rfl⟩
     replace H : (fi115_89.l1 k2 y297 a1 a2 x8_1 ji9) = some r := by first | (rw [hy297]; with_reducible exact H) | (have H2_ := (Option.bind_some _ _).symm.trans H; rw [hy297]; with_reducible exact H2_) | (have H2_ := (Option.bind_some _ _).symm.trans H; with_reducible exact H2_) | with_reducible exact H | (rw [hy297]; exact H) | exact H
     have Ny297 := mkA hy297
     clear hy297
     have H' := mkA H
     clear H
     try go_wp2
     have n0_ := mkA (Kd.R_drew HO_0.out)
     have n1_ := mkA (Kept.drew HK.out)
     have n2_ := mkA (below_drew1 HB.out)
     clear HO_0
     clear HK
     clear HB
     have HO_0 := n0_
     have HK := n1_
     have HB := n2_
     clear n0_ n1_ n2_
     obtain ⟨Ao17, co17, eo17⟩ := Kd.R_slice HO_0.out
     (first | subst eo17 | (injection eo17 with f1_ f2_ f3_; have f4_ := f1_.symm; have f5_ := f3_.symm; clear f1_ f2_ f3_; subst f4_; subst f5_))
     have p291 : 0 ≤ (x9_2 : Int) := dt_
     have q291 : x9_2 < (x0_2.length : Int) := dt_
     obtain ⟨ad291, e291, hx291_0, hx291_1⟩ := at_T105 (Kd.R_reads' HO_0.out).2.2 x9_2 p291 q291
     cases e291
     replace p291 := eq_true p291
     replace q291 := eq_true q291
     have p292 : 0 ≤ ((ji9) : Int) := dt_
     have q292 : (ji9) < (x0_2.length : Int) := dt_
     obtain ⟨ad292, e292, hx292_0, hx292_1⟩ := at_T105 (Kd.R_reads' HO_0.out).2.2 (ji9) p292 q292
     obtain rfl : ad291 = ad292 := (by injection e292)
     replace p292 := eq_true p292
     replace q292 := eq_true q292
     refine start_ (n := 17) (S := fun w' => w'.cell? (ad291.add ((x9_2).toNat * 2)) = some (.int .i64 ((rd_T105 x0_2 x9_2).f0)) ∧ w'.cell? ⟨(ad291.add ((x9_2).toNat * 2)).block, (ad291.add ((x9_2).toNat * 2)).off + 1, none⟩ = some (.int .i64 ((rd_T105 x0_2 x9_2).f1)) ∧ w'.cell? (ad291.add (((ji9)).toNat * 2)) = some (.int .i64 ((rd_T105 x0_2 (ji9)).f0)) ∧ w'.cell? ⟨(ad291.add (((ji9)).toNat * 2)).block, (ad291.add (((ji9)).toNat * 2)).off + 1, none⟩ = some (.int .i64 ((rd_T105 x0_2 (ji9)).f1))) (ds := []) fi115_89.d0 (by kernel_rfl) rfl rfl ⟨hx291_0, hx291_1, hx292_0, hx292_1⟩ (fun hHeld => ?_); refine with_tabW fi115_89.tab4 fi115_89.bits4 (fun HT_ HW_ => ?_)
     generalize wr.drew = w16 at HO_0 HK HB hx291_0 hx291_1 hx292_0 hx292_1 hHeld ⊢
     refine p1_ HT_.out 0 18 fi115_89.d1 ?_
     refine p1_ HT_.out 1 19 fi115_89.d2 ?_
     refine p1_ HT_.out 2 20 fi115_89.d3 ?_
     refine p1_ HT_.out 3 21 fi115_89.d4 ?_
     refine p1_ HT_.out 4 22 fi115_89.d5 ?_
     refine p1_ HT_.out 5 23 fi115_89.d6 ?_
     refine p1_ HT_.out 6 24 fi115_89.d7 ?_
     refine p1_ HT_.out 7 25 fi115_89.d8 ?_
     refine p1_ HT_.out 9 27 fi115_89.d9 ?_
     refine p1_ HT_.out 10 28 fi115_89.d10 ?_
     refine p1_ HT_.out 11 29 fi115_89.d11 ?_
     refine p1_ HT_.out 12 30 fi115_89.d12 ?_
     refine take_ (i := 8) (N := some 26) (v := ?_) (a' := ?_) fi115_89.d13 rfl rfl (take_ofW HT_.out HW_.out (by kernel_rfl)) (fun _ _ _ h => h) (Or.inl ⟨by rfl, ?_⟩) hHeld ?_ ?_
     rotate_left
     · rintro w' ⟨s0, s1, s2, s3⟩
       go_simp
       with_reducible rfl
     rotate_left
     · simp only [Act.put, sA, sB, sC, i64_w, i32_w]
       rfl
     refine take_ (i := 13) (N := some 31) (v := ?_) (a' := ?_) fi115_89.d14 rfl rfl (take_ofW HT_.out HW_.out (by kernel_rfl)) (fun _ _ _ h => h) (Or.inl ⟨by rfl, ?_⟩) hHeld ?_ ?_
     rotate_left
     · rintro w' ⟨s0, s1, s2, s3⟩
       go_simp
       with_reducible rfl
     rotate_left
     · simp only [Act.put, sA, sB, sC, i64_w, i32_w]
       rfl
     refine one_ (i := 14) (N := some 32) fi115_89.d15 rfl rfl (one_of HT_.out (by kernel_rfl)) (by decide) (fun K hK => ?_)
     refine Go.Proofs.YtakagkflgkoiiaaX.goesVR_ Try.func89 (by kernel_rfl) rfl #[.agg #[.int .i64 ((rd_T105 x0_2 x9_2).f0), .int .i64 ((rd_T105 x0_2 x9_2).f1)], .agg #[.int .i64 ((rd_T105 x0_2 (ji9)).f0), .int .i64 ((rd_T105 x0_2 (ji9)).f1)]] (by rfl) rfl rfl (by rfl) (by (try simp only [List.map_toArray, List.map_cons, List.map_nil]); first | done | (simp only [hji9]; rfl) | rfl | (simp; done)) ?_
     with_reducible refine (impl_compareCells.calls ((rd_T105 x0_2 x9_2).f0) ((rd_T105 x0_2 x9_2).f1) ((rd_T105 x0_2 (ji9)).f0) ((rd_T105 x0_2 (ji9)).f1) t293 _ A12.out).mono ?_
     rintro e w18 ⟨rfl, hb⟩
     have HS0_ := (hb.cell (World.block_lt_of_cell? _ _ (hHeld.1))).trans (hHeld.1)
     have HS1_ := (hb.cell (World.block_lt_of_cell? _ _ (hHeld.2.1))).trans (hHeld.2.1)
     have HS2_ := (hb.cell (World.block_lt_of_cell? _ _ (hHeld.2.2.1))).trans (hHeld.2.2.1)
     have HS3_ := (hb.cell (World.block_lt_of_cell? _ _ (hHeld.2.2.2))).trans (hHeld.2.2.2)
     refine ⟨_, rfl, ?_⟩
     have n0_ := mkA (Kd.R_below (by (with_reducible repeat (first | apply Kd.R_alloc | apply Kd.R_drewN | apply Kd.R_drew)); exact HO_0.out) hb)
     have n1_ := mkA (Kept.below (S := (fun k_ => P0_ k_)) (by repeat (first | (with_reducible first | exact HK.out | apply Kept.alloc | apply Kept.drewN | apply Kept.drew) | exact HK.out)) hb)
     have n2_ := mkA (below_step (bs0_ HB.out) hb)
     clear HO_0
     clear HK
     clear HB
     have HO_0 := n0_
     have HK := n1_
     have HB := n2_
     clear n0_ n1_ n2_
     (try clear hb)
     (try clear hb2)
     (try clear hk)
     (try clear hi)
     refine hK.out _ _ ⟨HS0_, HS1_, HS2_, HS3_⟩ (fun hHeld => ?_)
     clear hK K
     refine norm_ (a' := ?_) ?_ ?_
     rotate_left
     · show Act.put _ (some 32) _ = _
       simp only [Act.put, sA, sB, sC, i64_w, i32_w]
       rfl
     refine p1_ HT_.out 15 33 fi115_89.d16 ?_
     refine p1_ HT_.out 16 34 fi115_89.d17 ?_
     refine done_ (done_of HT_.out (by kernel_rfl)) ?_
     try go_wp2
     have n0_ := mkA (Kd.R_drew HO_0.out)
     have n1_ := mkA (Kept.drew HK.out)
     have n2_ := mkA (below_drew1 HB.out)
     clear HO_0
     clear HK
     clear HB
     have HO_0 := n0_
     have HK := n1_
     have HB := n2_
     clear n0_ n1_ n2_
     have p294 : 0 ≤ ((ji9) : Int) := dt_
     have q294 : (ji9) < (x0_2.length : Int) := dt_
     obtain ⟨ad294, e294, hx294_0, hx294_1⟩ := at_T105 (Kd.R_reads' HO_0.out).2.2 (ji9) p294 q294
     obtain rfl : ad291 = ad294 := (by injection e294)
     replace p294 := eq_true p294
     replace q294 := eq_true q294
     have p295 : 0 ≤ (x9_2 : Int) := dt_
     have q295 : x9_2 < (x0_2.length : Int) := dt_
     obtain ⟨ad295, e295, hx295_0, hx295_1⟩ := at_T105 (Kd.R_reads' HO_0.out).2.2 x9_2 p295 q295
     obtain rfl : ad291 = ad295 := (by injection e295)
     replace p295 := eq_true p295
     replace q295 := eq_true q295
     have p14 : 0 ≤ (x9_2 : Int) := dt_
     have q14 : (x9_2 : Int) < ((x0_2.length : Int) : Int) := dt_
     obtain ⟨go14, co14, eo14, gb14, gl14, cl14, HG14⟩ := Kd.R_form HO_0.out (by omega)
     (first | cases eo14 | (injection eo14 with ea_ en_ ec_; (first | subst ea_ | (injection ea_ with ea_; subst ea_)); subst ec_; clear en_))
     have GB14 := mkA gb14
     have GG14 := mkA HG14
     clear gb14 gl14 HG14
     have HMgo14 := mkA (show (P0_ go14 ∨ w.heap.size ≤ go14) from (HO_0.out.1 _ rfl))
     (first | simp only [add_plain] at hx291_0 | skip)
     (first | simp only [add_plain] at hx291_1 | skip)
     (first | simp only [add_plain] at hx292_0 | skip)
     (first | simp only [add_plain] at hx292_1 | skip)
     (first | simp only [add_plain] at hx294_0 | skip)
     (first | simp only [add_plain] at hx294_1 | skip)
     (first | simp only [add_plain] at hx295_0 | skip)
     (first | simp only [add_plain] at hx295_1 | skip)
     obtain ⟨ce14, hcl14, hM14, hcc14, hfr14⟩ := Kd.R_elem HO_0.out z105 (x9_2 : Int) p14 q14
     obtain rfl := k105_openM hM14
     have hx14_0 : World.cell? _ ⟨go14, (x9_2 : Int).toNat * 2, none⟩ = some (.int .i64 ((rd_T105 x0_2 x9_2).f0)) := hcc14 0 _ rfl
     have hx14_1 : World.cell? _ ⟨go14, (x9_2 : Int).toNat * 2 + 1, none⟩ = some (.int .i64 ((rd_T105 x0_2 x9_2).f1)) := hcc14 1 _ rfl
     have hf14_0 : World.frozen? _ ⟨go14, (x9_2 : Int).toNat * 2, none⟩ = false := hfr14 0
     have hf14_1 : World.frozen? _ ⟨go14, (x9_2 : Int).toNat * 2 + 1, none⟩ = false := hfr14 1
     clear hcl14 hcc14 hfr14 hM14
     replace p14 := eq_true p14
     replace q14 := eq_true q14
     obtain ⟨ce20, hcl20, hM20, hcc20, hfr20⟩ := Kd.R_elem HO_0.out z105 (x9_2 : Int) (dt_) (by have h_ : (x9_2 : Int) < ((x0_2.length : Int) : Int) := dt_; first | exact h_ | (have e_ := (Kd.R_reads' HO_0.out).1; omega) | simpa using h_)
     obtain rfl := k105_openM hM20
     have HP20 := (Kd.R_seg HO_0.out (x9_2 : Int) (dt_) (by have h_ : (x9_2 : Int) < ((x0_2.length : Int) : Int) := dt_; first | exact h_ | (have e_ := (Kd.R_reads' HO_0.out).1; omega) | simpa using h_) (seg := [.int .i64 ((rd_T105 x0_2 (ji9)).f0), .int .i64 ((rd_T105 x0_2 (ji9)).f1)]) (j := 0) hcl20 hcc20 (show 2 ≤ 2 from by decide) (x' := (⟨(rd_T105 x0_2 (ji9)).f0, (rd_T105 x0_2 (ji9)).f1⟩ : S105)) (k105_mkM _ _ _ (⟨(rd_T105 x0_2 (ji9)).f0, (rd_T105 x0_2 (ji9)).f1⟩ : S105) ) (fun _ hk => hk)).1
     rw [← Ny296.out] at HP20
     have HQ20 := mkA HP20
     clear hcl20 hcc20 hfr20 hM20 HP20
     have p15 : 0 ≤ ((ji9) : Int) := dt_
     have q15 : ((ji9) : Int) < ((x0_2.length : Int) : Int) := dt_
     obtain ⟨ce15, hcl15, hM15, hcc15, hfr15⟩ := Kd.R_elem HQ20.out z105 ((ji9) : Int) p15 q15
     obtain rfl := k105_openM hM15
     have hx15_0 : World.cell? _ ⟨go14, ((ji9) : Int).toNat * 2, none⟩ = some (.int .i64 ((rd_T105 y296 (ji9)).f0)) := hcc15 0 _ rfl
     have hx15_1 : World.cell? _ ⟨go14, ((ji9) : Int).toNat * 2 + 1, none⟩ = some (.int .i64 ((rd_T105 y296 (ji9)).f1)) := hcc15 1 _ rfl
     have hf15_0 : World.frozen? _ ⟨go14, ((ji9) : Int).toNat * 2, none⟩ = false := hfr15 0
     have hf15_1 : World.frozen? _ ⟨go14, ((ji9) : Int).toNat * 2 + 1, none⟩ = false := hfr15 1
     clear hcl15 hcc15 hfr15 hM15
     replace p15 := eq_true p15
     replace q15 := eq_true q15
     obtain ⟨ce21, hcl21, hM21, hcc21, hfr21⟩ := Kd.R_elem HQ20.out z105 ((ji9) : Int) (dt_) (by have h_ : ((ji9) : Int) < ((x0_2.length : Int) : Int) := dt_; first | exact h_ | (have e_ := (Kd.R_reads' HO_0.out).1; omega) | simpa using h_)
     obtain rfl := k105_openM hM21
     have HP21 := (Kd.R_seg HQ20.out ((ji9) : Int) (dt_) (by have h_ : ((ji9) : Int) < ((x0_2.length : Int) : Int) := dt_; first | exact h_ | (have e_ := (Kd.R_reads' HO_0.out).1; omega) | simpa using h_) (seg := [.int .i64 ((rd_T105 x0_2 x9_2).f0), .int .i64 ((rd_T105 x0_2 x9_2).f1)]) (j := 0) hcl21 hcc21 (show 2 ≤ 2 from by decide) (x' := (⟨(rd_T105 x0_2 x9_2).f0, (rd_T105 x0_2 x9_2).f1⟩ : S105)) (k105_mkM _ _ _ (⟨(rd_T105 x0_2 x9_2).f0, (rd_T105 x0_2 x9_2).f1⟩ : S105) ) (fun _ hk => hk)).1
     rw [← Ny297.out] at HP21
     have HQ21 := mkA HP21
     clear hcl21 hcc21 hfr21 hM21 HP21
     have hu_ : ¬ (x9_2 = ji9) := by (have h_ := hji9; unfold Go.RowKit.wrap64 at h_; omega)
     have hp1_ : 0 ≤ (x9_2 : Int) := dt_
     have hp2_ : 0 ≤ (ji9 : Int) := dt_
     have hn1_ : ¬ (x9_2.toNat = ji9.toNat) := by omega
     have hn2_ : ¬ (ji9.toNat = x9_2.toNat) := by omega
     have hn00_ : ¬ (x9_2.toNat * 2 = ji9.toNat * 2) := by omega
     have ho00_ : ¬ (ji9.toNat * 2 = x9_2.toNat * 2) := by omega
     have hn01_ : ¬ (x9_2.toNat * 2 = ji9.toNat * 2 + 1) := by omega
     have ho01_ : ¬ (ji9.toNat * 2 + 1 = x9_2.toNat * 2) := by omega
     have hn10_ : ¬ (x9_2.toNat * 2 + 1 = ji9.toNat * 2) := by omega
     have ho10_ : ¬ (ji9.toNat * 2 = x9_2.toNat * 2 + 1) := by omega
     have hn11_ : ¬ (x9_2.toNat * 2 + 1 = ji9.toNat * 2 + 1) := by omega
     have ho11_ : ¬ (ji9.toNat * 2 + 1 = x9_2.toNat * 2 + 1) := by omega
     clear hp1_ hp2_ hu_
     refine start_ (n := 18) (S := fun w' => w'.cell? ⟨go14, (((ji9)).toNat * 2), none⟩ = some (.int .i64 ((rd_T105 x0_2 (ji9)).f0)) ∧ w'.cell? ⟨go14, (((ji9)).toNat * 2) + 1, none⟩ = some (.int .i64 ((rd_T105 x0_2 (ji9)).f1)) ∧ w'.cell? ⟨go14, ((x9_2).toNat * 2), none⟩ = some (.int .i64 ((rd_T105 x0_2 x9_2).f0)) ∧ w'.cell? ⟨go14, ((x9_2).toNat * 2) + 1, none⟩ = some (.int .i64 ((rd_T105 x0_2 x9_2).f1))) (ds := [15, 17]) fi115_89.d18 (by kernel_rfl) rfl rfl ⟨hx294_0, hx294_1, hx295_0, hx295_1⟩ (fun hHeld => ?_); refine with_tabW fi115_89.tab6 fi115_89.bits6 (fun HT_ HW_ => ?_)
     generalize w18.drew = w19 at HO_0 HK HB GG14 HQ20 HQ21 hf14_0 hf14_1 hf15_0 hf15_1 hx14_0 hx14_1 hx15_0 hx15_1 hx291_0 hx291_1 hx292_0 hx292_1 hx294_0 hx294_1 hx295_0 hx295_1 hHeld ⊢
     obtain ⟨ceh_, _, _, _, hfh_⟩ := Kd.R_elem HO_0.out z105 ((ji9) : Int) dt_ dt_
     have hfh0_ : w19.frozen? ⟨go14, ji9.toNat * 2, none⟩ = false := hfh_ 0
     have hfh1_ : w19.frozen? ⟨go14, ji9.toNat * 2 + 1, none⟩ = false := hfh_ 1
     clear hfh_
     refine p1_ HT_.out 0 37 fi115_89.d19 ?_
     refine p1_ HT_.out 1 38 fi115_89.d20 ?_
     refine p1_ HT_.out 2 39 fi115_89.d21 ?_
     refine p1_ HT_.out 3 40 fi115_89.d22 ?_
     refine p1_ HT_.out 4 41 fi115_89.d23 ?_
     refine p1_ HT_.out 5 42 fi115_89.d24 ?_
     refine p1_ HT_.out 6 43 fi115_89.d25 ?_
     refine p1_ HT_.out 7 44 fi115_89.d26 ?_
     refine p1_ HT_.out 8 45 fi115_89.d27 ?_
     refine p1_ HT_.out 10 47 fi115_89.d28 ?_
     refine p1_ HT_.out 11 48 fi115_89.d29 ?_
     refine p1_ HT_.out 12 49 fi115_89.d30 ?_
     refine take_ (i := 9) (N := some 46) (v := ?_) (a' := ?_) fi115_89.d31 rfl rfl (take_ofW HT_.out HW_.out (by kernel_rfl)) (fun _ _ _ h => h) (Or.inl ⟨by rfl, ?_⟩) hHeld ?_ ?_
     rotate_left
     · rintro w' ⟨s0, s1, s2, s3⟩
       go_simp
       with_reducible rfl
     rotate_left
     · simp only [Act.put, sA, sB, sC, i64_w, i32_w]
       rfl
     refine take_ (i := 13) (N := some 50) (v := ?_) (a' := ?_) fi115_89.d32 rfl rfl (take_ofW HT_.out HW_.out (by kernel_rfl)) (fun _ _ _ h => h) (Or.inl ⟨by rfl, ?_⟩) hHeld ?_ ?_
     rotate_left
     · rintro w' ⟨s0, s1, s2, s3⟩
       go_simp
       with_reducible rfl
     rotate_left
     · simp only [Act.put, sA, sB, sC, i64_w, i32_w]
       rfl
     refine p1_ HT_.out 14 51 fi115_89.d33 ?_
     refine last_ (i := 15) (N := none) fi115_89.d34 rfl rfl (one_of HT_.out (by kernel_rfl)) (by decide) (fun K hK => ?_)
     refine skip_ (w1 := ?_) (by rfl) rfl ?_ ?_
     rotate_left
     · go_simp
       rfl
     refine hK.out _ _ ?_
     clear hK K
     refine p1_ HT_.out 16 52 fi115_89.d35 ?_
     refine last_ (i := 17) (N := none) fi115_89.d36 rfl rfl (one_of HT_.out (by kernel_rfl)) (by decide) (fun K hK => ?_)
     refine skip_ (w1 := ?_) (by rfl) rfl ?_ ?_
     rotate_left
     · go_simp
       rfl
     refine hK.out _ _ ?_
     clear hK K
     refine done_ (done_of HT_.out (by kernel_rfl)) ?_
     try go_wp2
     go_roundg k2
     case measure => have := HK1.out; have := HK2.out; omega
     case rel => exact ⟨(y297), (ji9), (by first | rfl | (simp; done) | (simp only [← hji9] <;> (first | rfl | simp)) | (simp [*]; done)), H', ⟨by have := HK1.out; have := HK2.out; omega⟩, ⟨by (with_reducible repeat (first | apply Kd.R_alloc | apply Kd.R_drewN | apply Kd.R_drew)); exact HQ21.out⟩, ⟨by repeat (first | (with_reducible first | exact HK.out | apply Kept.alloc | apply Kept.drewN | apply Kept.drew | refine Kept.setCell ?_ HMgo14.out _ | refine Kept.setCell ?_ HMgo14.out _ | refine Kept.setCell ?_ HMgo14.out _ | refine Kept.setCell ?_ HMgo14.out _) | exact HK.out)⟩, ⟨by repeat (first | (with_reducible first | exact HB.out | apply below_alloc | apply pw_below_drewN | apply below_drew1 | refine below_set ?_ GB14.out | refine below_set ?_ GB14.out | refine below_set ?_ GB14.out | refine below_set ?_ GB14.out) | exact HB.out)⟩⟩
-- NOT PRINTED: function 100004 (fi125_89)

-- NOT PRINTED: function 100003 (fi116_89)

-- NOT PRINTED: function 100005 (fi117_89)

-- NOT PRINTED: function 100009 (fi130_89)

-- NOT PRINTED: function 100008 (fi129_89)

-- NOT PRINTED: function 100007 (fi128_89)

-- NOT PRINTED: function 100006 (fi118_89)

-- NOT PRINTED: function 100010 (fi119_89)

-- NOT PRINTED: function 100011 (fi120_89)

-- NOT PRINTED: function 100012 (fi121_89)

-- NOT PRINTED: function 100013 (fi122_89)

/-! ### fi112_89: function 100001 -/
def fi112_89.l0 : Nat → List (S105) → Int → Int → Int → Bool → Option ((List (S105)))
  | 0, _, _, _, _, _ => none
  | k + 1, x0, x1, x2, x3, x10 => if (wrap64 (x2 - x1)) ≤ 12 then ((fi115_89.f k x0 x1 x2).bind fun t298 => (some t298)) else (if x3 = 0 then (none) else (if x10 = true then (none) else (none)))
def fi112_89.f (k : Nat) (l0 : List (S105)) (a1 : Int) (a2 : Int) (a3 : Int)  : Option ((List (S105))) := fi112_89.l0 k l0 a1 a2 a3 true
set_option maxHeartbeats 8000000 in
set_option maxRecDepth 100000 in
theorem fi112_89.calls (k : Nat) (P0_ : Nat → Prop) (u9000_ : Value) (l0 : List (S105)) (a1 : Int) (a2 : Int) (a3 : Int)  (r : List (S105)) (w0 w : World) (hB : Below w0.heap.size w0 w) (ho0 : Kd.R k105 105 w w0.heap.size P0_ u9000_ l0) (h : fi112_89.f k l0 a1 a2 a3 = some r) :
    Calls Try.prog 112 #[u9000_, .int .i64 a1, .int .i64 a2, .int .i64 a3, .func (.func 89) #[] #[]] w fun e w' => e = .returned (.tuple #[]) ∧ Kd.R k105 105 w' w0.heap.size (fun k_ => (P0_ k_ ∨ w.heap.size ≤ k_)) u9000_ r ∧ Below w0.heap.size w0 w' ∧ Kept w w' (fun k_ => P0_ k_) := by
  have hu105 := Try.underlying105
  have HO0 := Aside0.mk (show Kd.R k105 105 w w0.heap.size (fun k_ => (P0_ k_ ∨ w.heap.size ≤ k_)) u9000_ l0 from Kd.R_mono ho0 (fun k_ hk => (.inl hk)))
  have HK := Aside0.mk (Kept.refl w (fun k_ => P0_ k_))
  have HW0 := Aside0.mk hB.size
  have HB := Aside0.mk hB
  clear hB
  have H : (fi112_89.l0 k l0 a1 a2 a3 true) = some r := h
  clear h
  have H' := Aside0.mk H
  clear H
  go_enter Try.func112, Try.ntmps112
  go_wp2
  go_loopg [1, 2, 3, 10] k (fun kq v1 v2 v3 v10 w' => ∃ (x1_1 : Int) (x2_1 : Int) (x3_1 : Int) (x10_1 : Bool), v1 = .int .i64 x1_1 ∧ v2 = .int .i64 x2_1 ∧ v3 = .int .i64 x3_1 ∧ v10 = .bool x10_1 ∧ Aside0 (fi112_89.l0 kq l0 x1_1 x2_1 x3_1 x10_1 = some r) ∧ Aside0 (kq ≤ k) ∧ Aside0 (Kd.R k105 105 w' w0.heap.size (fun k_ => (P0_ k_ ∨ w.heap.size ≤ k_)) u9000_ l0) ∧ Aside0 (Kept w w' (fun k_ => P0_ k_)) ∧ Aside0 (Below w0.heap.size w0 w'))
  case atStart => exact ⟨(a1), (a2), (a3), (true), (by first | rfl | (simp; done) | (simp [*]; done) | (simp [i64_w, i32_w]; done)), (by first | rfl | (simp; done) | (simp [*]; done) | (simp [i64_w, i32_w]; done)), (by first | rfl | (simp; done) | (simp [*]; done) | (simp [i64_w, i32_w]; done)), (by first | rfl | (simp; done) | (simp [*]; done) | (simp [i64_w, i32_w]; done)), H', ⟨Nat.le_refl _⟩, ⟨by (with_reducible repeat (first | apply Kd.R_alloc | apply Kd.R_drewN | apply Kd.R_drew)); exact HO0.out⟩, ⟨by repeat (first | (with_reducible first | exact HK.out | apply Kept.alloc | apply Kept.drewN | apply Kept.drew) | exact HK.out)⟩, ⟨by repeat (first | (with_reducible first | exact HB.out | apply below_alloc | apply pw_below_drewN | apply below_drew1) | exact HB.out)⟩⟩
  case round =>
    clear H'
    try clear c1
    try clear p2
    obtain ⟨x1_1, x2_1, x3_1, x10_1, rfl, rfl, rfl, rfl, HA, HK1, HO_0, HK, HB⟩ := hrel
    cases gk with
    | zero => exact absurd HA.out (by simp [fi112_89.l0])
    | succ k1 =>
      have H := HA.out
      clear HA
      simp only [fi112_89.l0] at H
      by_cases c6 : (wrap64 (x2_1 - x1_1)) ≤ 12
      · rw [if_pos c6] at H
        have c6b0 : decide ((wrap64 (x2_1 - x1_1)) ≤ 12) = true := decide_eq_true c6
        clear c6
        replace H := Option.bind_eq_some_iff.mp H
        obtain ⟨t298, A70, H⟩ := H
        replace H : (some t298) = some r := H
        have A7 := Aside0.mk A70
        clear A70
        obtain rfl := Option.some.inj H
        obtain ⟨Ao8, co8, eo8⟩ := Kd.R_slice HO_0.out
        subst eo8
        go_wp2_with (first | ((with_reducible refine gate_callee (f := 115) rfl ?_); refine goesL_ (some 30) rfl rfl Try.func115 (by kernel_rfl) rfl #[.slice Ao8 l0.length co8, .int .i64 x1_1, .int .i64 x2_1, .func (.func 89) #[] #[]] rfl (by (try simp only [List.map_toArray, List.map_cons, List.map_nil]); first | done | rfl | (simp only [List.length_drop, List.length_take]; rfl)) ?_; (with_reducible refine (fi115_89.calls k1 (fun k_ => some k_ = (.slice Ao8 l0.length co8 : Value).ownBlock) (.slice Ao8 l0.length co8) l0 x1_1 x2_1  t298 w0 _ ?side1 ?side2 A7.out).mono ?_); (case side1 => repeat (first | (with_reducible first | exact HB.out | apply below_alloc | apply pw_below_drewN | apply below_drew1) | exact HB.out)); (case side2 => exact Kd.R_tight rfl HO_0.out); rintro e w9 ⟨rfl, hy0, hb, hkp⟩; refine ⟨_, rfl, ?_⟩; have n0_ := Aside0.mk (Kd.R_reok rfl hy0 (fun k_ e_ => HO_0.out.1 k_ e_)); have n1_ := Aside0.mk (Kept.then_ (S := (fun k_ => P0_ k_)) (by repeat (first | (with_reducible first | exact HK.out | apply Kept.alloc | apply Kept.drewN | apply Kept.drew) | exact HK.out)) hkp (fun k_ hs_ => (fun e_ => (HO_0.out.1 k_ e_.symm)) hs_)); have n2_ := Aside0.mk (hb); clear HO_0; clear HK; clear HB; have HO_0 := n0_; have HK := n1_; have HB := n2_; clear n0_ n1_ n2_; (try clear hb); (try clear hkp); (try clear hy0)))
        first | go_end0 | ((try simp only [Exit.inBlock, Exit.then]); refine bodyPost_ret (results_none rfl _ _ _) rfl ?_)
        exact ⟨by first | rfl | (simp [errW_none, errW_some] <;> rfl) | (simp [*, errW_none, errW_some] <;> rfl), by (with_reducible repeat (first | apply Kd.R_alloc | apply Kd.R_drewN | apply Kd.R_drew)); exact HO_0.out, by repeat (first | (with_reducible first | exact HB.out | apply below_alloc | apply pw_below_drewN | apply below_drew1) | exact HB.out), by repeat (first | (with_reducible first | exact HK.out | apply Kept.alloc | apply Kept.drewN | apply Kept.drew) | exact HK.out)⟩
      · rw [if_neg c6] at H
        have c6b0 : decide ((wrap64 (x2_1 - x1_1)) ≤ 12) = false := decide_eq_false c6
        clear c6
        by_cases c10 : x3_1 = 0
        · rw [if_pos c10] at H
          exact absurd H (by simp)
        · rw [if_neg c10] at H
          have c10b0 : (x3_1 == 0) = false := beq_eq_false_iff_ne.mpr c10
          have c10b1 : (x3_1 != 0) = true := bne_iff_ne.mpr c10
          by_cases c11 : x10_1 = true
          · subst c11
            have H1 : (none) = some r := by rw [if_pos rfl] at H; exact H
            clear H
            have H := H1
            clear H1
            exact absurd H (by simp)
          · replace c11 := Bool.eq_false_iff.mpr c11
            subst c11
            have H1 : (none) = some r := by rw [if_neg (show ¬ (false = true) by decide)] at H; exact H
            clear H
            have H := H1
            clear H1
            exact absurd H (by simp)

/-! ### fi102_89: function 100000 -/
def fi102_89.f (k : Nat) (l0 : List (S105))  : Option ((List (S105))) := (Go.Proofs.YtakagkflgkoiiaaX.bits_Len.f (IntKind.u64.wrap ((l0.length : Int)))).bind fun t299 => ((fi112_89.f k l0 0 (l0.length : Int) t299).bind fun t300 => (some t300))
set_option maxHeartbeats 8000000 in
set_option maxRecDepth 100000 in
theorem fi102_89.calls (k : Nat) (P0_ : Nat → Prop) (u9000_ : Value) (l0 : List (S105))  (r : List (S105)) (w0 w : World) (hB : Below w0.heap.size w0 w) (ho0 : Kd.R k105 105 w w0.heap.size P0_ u9000_ l0) (h : fi102_89.f k l0 = some r) :
    Calls Try.prog 102 #[u9000_, .func (.func 89) #[] #[]] w fun e w' => e = .returned (.tuple #[]) ∧ Kd.R k105 105 w' w0.heap.size (fun k_ => (P0_ k_ ∨ w.heap.size ≤ k_)) u9000_ r ∧ Below w0.heap.size w0 w' ∧ Kept w w' (fun k_ => P0_ k_) := by
  have HO0 := Aside0.mk (show Kd.R k105 105 w w0.heap.size (fun k_ => (P0_ k_ ∨ w.heap.size ≤ k_)) u9000_ l0 from Kd.R_mono ho0 (fun k_ hk => (.inl hk)))
  have HK := Aside0.mk (Kept.refl w (fun k_ => P0_ k_))
  have HW0 := Aside0.mk hB.size
  have HB := Aside0.mk hB
  clear hB
  have H : ((Go.Proofs.YtakagkflgkoiiaaX.bits_Len.f (IntKind.u64.wrap ((l0.length : Int)))).bind fun t299 => ((fi112_89.f k l0 0 (l0.length : Int) t299).bind fun t300 => (some t300))) = some r := h
  clear h
  replace H := Option.bind_eq_some_iff.mp H
  obtain ⟨t299, A30, H⟩ := H
  replace H : ((fi112_89.f k l0 0 (l0.length : Int) t299).bind fun t300 => (some t300)) = some r := H
  have A3 := Aside0.mk A30
  clear A30
  replace H := Option.bind_eq_some_iff.mp H
  obtain ⟨t300, A40, H⟩ := H
  replace H : (some t300) = some r := H
  have A4 := Aside0.mk A40
  clear A40
  obtain rfl := Option.some.inj H
  obtain ⟨Ao5, co5, eo5⟩ := Kd.R_slice HO0.out
  subst eo5
  go_enter Try.func102, Try.ntmps102
  go_wp2_with (first | ((with_reducible refine gate_callee (f := 113) rfl ?_); refine goesL_ (some 11) rfl rfl Try.func113 (by kernel_rfl) rfl #[.int .u64 (IntKind.u64.wrap ((l0.length : Int)))] rfl (by (try simp only [List.map_toArray, List.map_cons, List.map_nil]); first | done | rfl | (simp only [List.length_drop, List.length_take]; rfl)) ?_; (with_reducible refine (Go.Proofs.YtakagkflgkoiiaaX.bits_Len.calls (IntKind.u64.wrap ((l0.length : Int))) t299 _ A3.out).mono ?_); rintro e w' ⟨rfl, ⟨nd, rfl⟩⟩; refine ⟨_, rfl, ?_⟩) | ((with_reducible refine gate_callee (f := 112) rfl ?_); refine goesL_ (some 13) rfl rfl Try.func112 (by kernel_rfl) rfl #[.slice Ao5 l0.length co5, .int .i64 0, .int .i64 (l0.length : Int), .int .i64 t299, .func (.func 89) #[] #[]] rfl (by (try simp only [List.map_toArray, List.map_cons, List.map_nil]); first | done | rfl | (simp only [List.length_drop, List.length_take]; rfl)) ?_; (with_reducible refine (fi112_89.calls k (fun k_ => some k_ = (.slice Ao5 l0.length co5 : Value).ownBlock) (.slice Ao5 l0.length co5) l0 0 (l0.length : Int) t299  t300 w0 _ ?side1 ?side2 A4.out).mono ?_); (case side1 => repeat (first | (with_reducible first | exact HB.out | apply below_alloc | apply pw_below_drewN | apply below_drew1) | exact HB.out)); (case side2 => exact Kd.R_tight rfl HO0.out); rintro e w6 ⟨rfl, hy0, hb, hkp⟩; refine ⟨_, rfl, ?_⟩; have n0_ := Aside0.mk (Kd.R_reok rfl hy0 (fun k_ e_ => HO0.out.1 k_ e_)); have n1_ := Aside0.mk (Kept.then_ (S := (fun k_ => P0_ k_)) (by repeat (first | (with_reducible first | exact HK.out | apply Kept.alloc | apply Kept.drewN | apply Kept.drew) | exact HK.out)) hkp (fun k_ hs_ => (fun e_ => (HO0.out.1 k_ e_.symm)) hs_)); have n2_ := Aside0.mk (hb); clear HO0; clear HK; clear HB; have HO0 := n0_; have HK := n1_; have HB := n2_; clear n0_ n1_ n2_; (try clear hb); (try clear hkp); (try clear hy0)))
  first | go_end0 | ((try simp only [Exit.inBlock, Exit.then]); refine bodyPost_ret (results_none rfl _ _ _) rfl ?_)
  exact ⟨by first | rfl | (simp [errW_none, errW_some] <;> rfl) | (simp [*, errW_none, errW_some] <;> rfl), by (with_reducible repeat (first | apply Kd.R_alloc | apply Kd.R_drewN | apply Kd.R_drew)); exact HO0.out, by repeat (first | (with_reducible first | exact HB.out | apply below_alloc | apply pw_below_drewN | apply below_drew1) | exact HB.out), by repeat (first | (with_reducible first | exact HK.out | apply Kept.alloc | apply Kept.drewN | apply Kept.drew) | exact HK.out)⟩

end Go.Proofs.Ytakagkflgkoiiaa.GFnExactTurnsOfPiece

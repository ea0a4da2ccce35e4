-- Written by the session's own program (gen.py) out of the translation's print. Lean checks it.
import Derived.Test.YtakagkflgkoiiaaQ
import Derived.Test.YtakagkflgkoiiaaGFnExactIsCoverx0
import Derived.Test.YtakagkflgkoiiaaGFnExactIsCoverx16
import Derived.Test.YtakagkflgkoiiaaGFnExactIsCoverx19
import Derived.Test.YtakagkflgkoiiaaGFnExactIsCoverx22
import Derived.Test.YtakagkflgkoiiaaGFnExactIsCoverx23
namespace Go.Proofs.Ytakagkflgkoiiaa.GFnExactIsCover
open Go.RowKit Go.Proofs.YtakagkflgkoiiaaW.PrintWords Go.Proofs.YtakagkflgkoiiaaW.PrintLast Go.Proofs.YtakagkflgkoiiaaW.PrintMore
open List renaming setIfInBounds_toArray → sA, set_cons_zero → sB, set_cons_succ → sC
open Go.Proofs.YtakagkflgkoiiaaW.PrintWords.Aside0 renaming mk → mkA
open Go.Proofs.YtakagkflgkoiiaaX (dt_ bc_ p0_ p1_ bl_ cb_ bs0_ bs1_ bs2_ bs3_ bs4_ bs5_ bs6_ bs7_ bs8_ bs9_ bs10_ bs11_ bs12_)
open Go.Proofs.YtakagkflgkoiiaaQ
attribute [local go_sem] max2_int min2_int max_two min_two max_three min_three max_four min_four 
set_option linter.unusedVariables false
set_option linter.unusedSimpArgs false

/-! ### impl_coverCounts: function 84 -/
mutual
def impl_coverCounts.l0 : Nat → List (S53) → List Int → List Int → List (S109) → Int → Int → Int → Int → List Int → Option (List Int × Bool)
  | 0, _, _, _, _, _, _, _, _, _ => none
  | k + 1, x1, x8, x9, x23, x24, x25, x512000, x512001, x512002 => if x25 < x24 then (if 0 ≤ x25 then (if x25 < (x23.length : Int) then ((impl_within.f ((rd_T109 x23 x25).f0) 0 (wrap64 ((x1.length : Int) - 1))).bind fun t520 => (if t520 = true then ((impl_within.f ((rd_T109 x23 x25).f1) 0 (wrap64 (x512000 - 1))).bind fun t521 => (if t521 = true then ((impl_within.f ((rd_T109 x23 x25).f2) 0 (wrap64 (x512001 - 1))).bind fun t522 => (impl_coverCounts.j1 k x1 x8 x9 x23 x24 x25 (!t522) x512000 x512001 x512002 ((rd_T109 x23 x25).f0) ((rd_T109 x23 x25).f1) ((rd_T109 x23 x25).f2) ((rd_T109 x23 x25).f3))) else (impl_coverCounts.j1 k x1 x8 x9 x23 x24 x25 true x512000 x512001 x512002 ((rd_T109 x23 x25).f0) ((rd_T109 x23 x25).f1) ((rd_T109 x23 x25).f2) ((rd_T109 x23 x25).f3)))) else (impl_coverCounts.j1 k x1 x8 x9 x23 x24 x25 true x512000 x512001 x512002 ((rd_T109 x23 x25).f0) ((rd_T109 x23 x25).f1) ((rd_T109 x23 x25).f2) ((rd_T109 x23 x25).f3)))) else (none)) else (none)) else (some (x8, true))
def impl_coverCounts.j1 : Nat → List (S53) → List Int → List Int → List (S109) → Int → Int → Bool → Int → Int → List Int → Int → Int → Int → Int → Option (List Int × Bool)
  | 0, _, _, _, _, _, _, _, _, _, _, _, _, _, _ => none
  | k + 1, x1, x8, x9, x23, x24, x25, x53, x512000, x512001, x512002, x520000, x520001, x520002, x520003 => if x53 = true then (some (([] : List Int), false)) else (if 0 ≤ x520000 then (if x520000 < (x1.length : Int) then ((impl_pieceTurns.f k ((rd_T53 x1 x520000).f0) ((rd_T53 x1 x520000).f1) ((rd_T53 x1 x520000).f2) ((rd_T53 x1 x520000).f3)).bind fun bt524 => (if x520000 < (x9.length : Int) then ((some (x9.set (x520000 : Int).toNat (wrap64 ((rd x9 x520000) + 1)) : List Int)).bind fun y531 => ((slices_Contains_int64_int64.f k bt524.1 x520003).bind fun t532 => (if t532 = true then (impl_coverCounts.j2 k x1 x8 y531 x23 x24 x25 (decide ((rd y531 x520000) > ((rd_T53 x1 x520000).f2))) x512000 x512001 x512002 x520000 x520001 x520002 x520003) else (impl_coverCounts.j2 k x1 x8 y531 x23 x24 x25 true x512000 x512001 x512002 x520000 x520001 x520002 x520003)))) else (none))) else (none)) else (none))
def impl_coverCounts.j2 : Nat → List (S53) → List Int → List Int → List (S109) → Int → Int → Bool → Int → Int → List Int → Int → Int → Int → Int → Option (List Int × Bool)
  | 0, _, _, _, _, _, _, _, _, _, _, _, _, _, _ => none
  | k + 1, x1, x8, x9, x23, x24, x25, x88, x512000, x512001, x512002, x520000, x520001, x520002, x520003 => if x88 = true then (some (([] : List Int), false)) else (if 0 ≤ x520000 then (if x520000 < (x1.length : Int) then ((impl_turnedCells.f k ((rd_T53 x1 x520000).f0) ((rd_T53 x1 x520000).f1) ((rd_T53 x1 x520000).f2) ((rd_T53 x1 x520000).f3) x520003).bind fun t536 => ((impl_shifted.f k t536 x520001 x520002).bind fun t539 => (impl_coverCounts.l1 k x1 x8 x9 x23 x24 x25 t539 (t539.length : Int) 0 x512000 x512001 x512002))) else (none)) else (none))
def impl_coverCounts.l1 : Nat → List (S53) → List Int → List Int → List (S109) → Int → Int → List (S105) → Int → Int → Int → Int → List Int → Option (List Int × Bool)
  | 0, _, _, _, _, _, _, _, _, _, _, _, _ => none
  | k + 1, x1, x8, x9, x23, x24, x25, x101, x102, x103, x512000, x512001, x512002 => if x103 < x102 then (if 0 ≤ x103 then (if x103 < (x101.length : Int) then (if ((rd_T105 x101 x103).f0) ≥ x512000 then (some (([] : List Int), false)) else (if ((rd_T105 x101 x103).f1) ≥ x512001 then (some (([] : List Int), false)) else (if 0 ≤ (wrap64 ((wrap64 (((rd_T105 x101 x103).f1) * x512000)) + ((rd_T105 x101 x103).f0))) then (if (wrap64 ((wrap64 (((rd_T105 x101 x103).f1) * x512000)) + ((rd_T105 x101 x103).f0))) < (x8.length : Int) then (impl_coverCounts.l1 k x1 (x8.set ((wrap64 ((wrap64 (((rd_T105 x101 x103).f1) * x512000)) + ((rd_T105 x101 x103).f0))) : Int).toNat (wrap64 ((rd x8 (wrap64 ((wrap64 (((rd_T105 x101 x103).f1) * x512000)) + ((rd_T105 x101 x103).f0)))) + 1))) x9 x23 x24 x25 x101 x102 (wrap64 (x103 + 1)) x512000 x512001 x512002) else (none)) else (none)))) else (none)) else (none)) else (impl_coverCounts.l0 k x1 x8 x9 x23 x24 (wrap64 (x25 + 1)) x512000 x512001 x512002)
end
def impl_coverCounts.f (k : Nat) (a0_0 : Int) (a0_1 : Int) (l0_2 : List Int) (l1 : List (S53)) (l2 : List (S109)) : Option (List Int × Bool) := if 0 ≤ (l0_2.length : Int) then (if ((l0_2.length : Int) : Int).toNat ≤ 35184372088832 then (if 0 ≤ (l1.length : Int) then (if ((l1.length : Int) : Int).toNat ≤ 35184372088832 then (impl_coverCounts.l0 k l1 (List.replicate ((l0_2.length : Int) : Int).toNat 0) (List.replicate ((l1.length : Int) : Int).toNat 0) l2 (l2.length : Int) 0 a0_0 a0_1 l0_2) else (none)) else (none)) else (none)) else (none)
def impl_coverCounts.T1 : Bool × List (List Nat × List Nat) := (true, [([], []), ([0], [0]), ([1], [1]), ([2, 2], [2]), ([], []), ([4], [4]), ([5, 5], [5]), ([3, 0, 1, 2, 3], [3]), ([6, 7, 0, 1, 2, 3, 4, 5, 6, 7], [6])])
def impl_coverCounts.B1 : List Nat := [0, 1, 3, 7, 0, 16, 48, 15, 255]
theorem impl_coverCounts.tab1 : rtab .any (opsOf Try.f84 1) = impl_coverCounts.T1 := by kernel_rfl
theorem impl_coverCounts.bits1 : waitsOk impl_coverCounts.T1.2 impl_coverCounts.B1 = true := by kernel_rfl
def impl_coverCounts.T9 : Bool × List (List Nat × List Nat) := (true, [([], []), ([], []), ([1], [1]), ([0, 2], [0, 2]), ([3], [3]), ([4, 3], [4]), ([5], [5]), ([5], [5]), ([7, 5], [5, 7]), ([6, 8, 5], [5, 6, 8]), ([9, 5], [5, 9]), ([5], [5]), ([5], [5]), ([12, 5], [5, 12]), ([11, 13, 5], [5, 11, 13]), ([14, 5], [5, 14]), ([15, 5], [5, 15]), ([10, 16, 5], [5, 10, 16]), ([5, 17], [5, 17])])
def impl_coverCounts.B9 : List Nat := [0, 0, 2, 7, 15, 31, 63, 63, 191, 511, 1023, 63, 63, 4159, 14399, 30783, 63551, 131071, 262143]
theorem impl_coverCounts.tab9 : rtab .any (opsOf Try.f84 9) = impl_coverCounts.T9 := by kernel_rfl
theorem impl_coverCounts.bits9 : waitsOk impl_coverCounts.T9.2 impl_coverCounts.B9 = true := by kernel_rfl
def impl_coverCounts.T11 : Bool × List (List Nat × List Nat) := (true, [([], []), ([], []), ([1], [1]), ([0, 2], [0, 2]), ([3], [3]), ([], []), ([5], [5]), ([4, 6], [4, 6]), ([], []), ([8], [8]), ([], []), ([10], [10]), ([7, 9, 11, 7], [7, 9, 11]), ([12], [12]), ([], [])])
def impl_coverCounts.B11 : List Nat := [0, 0, 2, 7, 15, 0, 32, 127, 0, 256, 0, 1024, 4095, 8191, 0]
theorem impl_coverCounts.tab11 : rtab .any (opsOf Try.f84 11) = impl_coverCounts.T11 := by kernel_rfl
theorem impl_coverCounts.bits11 : waitsOk impl_coverCounts.T11.2 impl_coverCounts.B11 = true := by kernel_rfl
set_option maxHeartbeats 8000000 in
set_option maxRecDepth 100000 in
theorem impl_coverCounts.calls (k : Nat) (a0_0 : Int) (a0_1 : Int) (A0_2 : Option Addr) (c0_2 : Nat) (l0_2 : List Int) (A1 : Option Addr) (c1 : Nat) (l1 : List (S53)) (A2 : Option Addr) (c2 : Nat) (l2 : List (S109)) (r1 : List Int) (r2 : Bool) (w : World) (hr0_2 : Kd.C (Kd.int .i64) w A0_2 l0_2.length l0_2) (hc0_2 : l0_2.length ≤ c0_2) (hr1 : Kd.C k53 w A1 l1.length l1) (hc1 : l1.length ≤ c1) (hr2 : Kd.C k109 w A2 l2.length l2) (hc2 : l2.length ≤ c2) (h : impl_coverCounts.f k a0_0 a0_1 l0_2 l1 l2 = some (r1, r2)) :
 Calls Try.prog 84 #[.agg #[.int .i64 a0_0, .int .i64 a0_1, .slice A0_2 l0_2.length c0_2], .slice A1 l1.length c1, .slice A2 l2.length c2] w fun e w' => ∃ v0_ : Value, e = .returned (.tuple #[v0_, .bool r2]) ∧ Kd.R (Kd.int .i64) 2 w' w.heap.size (fun _ => True) v0_ r1 ∧ Below w.heap.size w w' := by
 have hu27 := Try.underlying27
 have hu109 := Try.underlying109
 have hu53 := Try.underlying53
 have hu105 := Try.underlying105
 have HR0_2 := mkA hr0_2
 have HC0_2 := mkA hc0_2
 clear hr0_2 hc0_2
 have HR1 := mkA hr1
 have HC1 := mkA hc1
 clear hr1 hc1
 have HR2 := mkA hr2
 have HC2 := mkA hc2
 clear hr2 hc2
 have HB := mkA (Below.refl w.heap.size w)
 unfold impl_coverCounts.f at h
 have H := h
 clear h
 revert H
 refine ng_ fun c4 => ng_ fun c5 => ?_
 intro H
 have c4b0 := eq_true c4
 have c4b1 := decide_eq_true c4
 clear c4
 have c5b0 := eq_true c5
 have c5b1 := decide_eq_true c5
 clear c5
 obtain ⟨y512, hy512⟩ := gy_ (List.replicate ((l0_2.length : Int) : Int).toNat 0 : List Int)
 rw [← hy512] at H
 (try with_reducible replace H := bso_ H)
 have Ny512 := mkA hy512
 clear hy512
 revert H
 refine ng_ fun c6 => ng_ fun c7 => ?_
 intro H
 have c6b0 := eq_true c6
 have c6b1 := decide_eq_true c6
 clear c6
 have c7b0 := eq_true c7
 have c7b1 := decide_eq_true c7
 clear c7
 obtain ⟨y515, hy515⟩ := gy_ (List.replicate ((l1.length : Int) : Int).toNat 0 : List Int)
 rw [← hy515] at H
 (try with_reducible replace H := bso_ H)
 have Ny515 := mkA hy515
 clear hy515
 have H' := mkA H
 clear H
 go_enter Try.func84, Try.ntmps84
 try go_wp2_with (first | ((with_reducible refine gt_ 3 ?_); refine bx_ 3 #[.int .i64 a0_0, .int .i64 a0_1, .slice A0_2 l0_2.length c0_2] 27 fun gb511 hg w8 hbox hb => ?_; have BK511 := mkA (hbox); have GW511 := gs_ hg (bs0_ HB.out); have GE511 := GW511; replace HB := mkA (below_step (bs0_ HB.out) hb); clear hb hbox hg))
 replace BK511 := mkA (blk_drew BK511.out)
 replace HB := mkA (below_drew1 HB.out)
 refine st_ 9 (fun w' => w'.cell? ⟨gb511, 0, none⟩ = some (.int .i64 a0_0) ∧ w'.cell? ⟨gb511, 1, none⟩ = some (.int .i64 a0_1) ∧ w'.cell? ⟨gb511, 2, none⟩ = some (.slice A0_2 l0_2.length c0_2)) [] impl_coverCounts.tab1 impl_coverCounts.bits1 sp_ fun hHeld HT_ HW_ => ?_
 generalize w8.drew = w9 at BK511 HB hHeld ⊢
 refine a1_ 0 16 (h := a1_ 4 20 (h := a1_ 5 21 (h := tk_ 1 17 (h := a1_ 2 18 (h := ?_)))))
 refine join_ (σ := Value × Value) 1 (fA 9 255) (fun s_ => [(19, s_.1), (22, s_.2), (8, s_.1)]) (fun s_ w' => (w'.cell? ⟨gb511, 0, none⟩ = some (.int .i64 a0_0) ∧ w'.cell? ⟨gb511, 1, none⟩ = some (.int .i64 a0_1) ∧ w'.cell? ⟨gb511, 2, none⟩ = some (.slice A0_2 l0_2.length c0_2)) ∧ (Kd.R (Kd.int .i64) 2 w' w.heap.size (fun k_ => some k_ ≠ (s_.2 : Value).ownBlock) s_.1 y512) ∧ (Kd.R (Kd.int .i64) 2 w' w.heap.size (fun k_ => some k_ ≠ (s_.1 : Value).ownBlock) s_.2 y515) ∧ (w'.heap[gb511]? = some (.cells #[.int .i64 a0_0, .int .i64 a0_1, .slice A0_2 l0_2.length c0_2] 27 (0, 0))) ∧ (Below w.heap.size w w')) ?_ ?_
 rotate_left
 · intro hCont
   refine two_ (i := 3) (j := 6) (Ni := some 19) (Nj := some 22) (fA 9 63) (fA 9 119) rfl rfl rfl rfl (two_of HT_.out (by kernel_rfl)) (by decide) (by decide) (fun K hK => ?_) (fun K hK => ?_)
   · skip
     refine Kd.R_make_step (Kd.int .i64) _ 2 (by rfl) (N := 19) rfl 22 _ _ rfl (l0_2.length : Int) rfl rfl Try.underlying22 (.int .i64 0) 8 info2 rfl (by decide) (by omega) 0 (ok := fun _ => True) (okp := fun _ => True) rfl (fun _ hk => hk) trivial (dt_) (Nat.le_trans (Nat.mul_le_mul_right _ (dt_ : (l0_2.length : Int).toNat ≤ 35184372088832)) (by omega)) (Below.refl _ _) (Nat.le_refl _) ?_
     intro v513 w10 ho11 hb hg_ hnew_
     clear hg_ hnew_
     (first | rw [← Ny512.out] at ho11 | (simp only [Int.reduceToNat] at ho11; rw [← Ny512.out] at ho11))
     have HO514 := mkA (Kd.R_lower ho11 (below_size (bs1_ HB.out GE511.out)))
     replace BK511 := mkA (blk_below (bl_ BK511.out) hb)
     replace HB := mkA (below_step (bs1_ HB.out GE511.out) hb)
     clear hb ho11
     refine hK.out _ _ sp_ fun hHeld => ?_
     clear hK K
     refine nm_ 19 ?_
     refine a1_ 7 8 (h := ?_)
     refine on_ 6 22 fun K hK => ?_
     refine Kd.R_make_step (Kd.int .i64) _ 2 (by rfl) (N := 22) rfl 22 _ _ rfl (l1.length : Int) rfl rfl Try.underlying22 (.int .i64 0) 8 info2 rfl (by decide) (by omega) 0 (ok := fun _ => True) (okp := fun _ => True) rfl (fun _ hk => hk) trivial (dt_) (Nat.le_trans (Nat.mul_le_mul_right _ (dt_ : (l1.length : Int).toNat ≤ 35184372088832)) (by omega)) (Below.refl _ _) (Nat.le_refl _) ?_
     intro v516 w12 ho13 hb hg_ hnew_
     clear hg_ hnew_
     (first | rw [← Ny515.out] at ho13 | (simp only [Int.reduceToNat] at ho13; rw [← Ny515.out] at ho13))
     have HO517 := mkA (Kd.R_lower (Kd.R_new' ho13 (Kd.R_lt (r_ HO514.out))) (below_size (bs1_ HB.out GE511.out)))
     replace HO514 := mkA (Kd.R_elder' (r_ HO514.out) (Kd.R_base ho13) hb)
     replace BK511 := mkA (blk_below (bl_ BK511.out) hb)
     replace HB := mkA (below_step (bs1_ HB.out GE511.out) hb)
     clear hb ho13
     refine hK.out _ _ sp_ fun hHeld => ?_
     clear hK K
     refine nm_ 22 ?_
     exact norm_ (by simp only [putAll, Act.put, sA, sB, sC]) (hCont (v513, v516) _ ⟨hHeld, (by refine r_ ?_; exact Kd.R_mono HO514.out (fun _ hk => hk.2)), (by refine r_ ?_; exact Kd.R_mono HO517.out (fun _ hk => hk.2)), (bl_ BK511.out), (bs1_ HB.out GE511.out)⟩)
   · skip
     refine Kd.R_make_step (Kd.int .i64) _ 2 (by rfl) (N := 22) rfl 22 _ _ rfl (l1.length : Int) rfl rfl Try.underlying22 (.int .i64 0) 8 info2 rfl (by decide) (by omega) 0 (ok := fun _ => True) (okp := fun _ => True) rfl (fun _ hk => hk) trivial (dt_) (Nat.le_trans (Nat.mul_le_mul_right _ (dt_ : (l1.length : Int).toNat ≤ 35184372088832)) (by omega)) (Below.refl _ _) (Nat.le_refl _) ?_
     intro v516 w10 ho11 hb hg_ hnew_
     clear hg_ hnew_
     (first | rw [← Ny515.out] at ho11 | (simp only [Int.reduceToNat] at ho11; rw [← Ny515.out] at ho11))
     have HO517 := mkA (Kd.R_lower ho11 (below_size (bs1_ HB.out GE511.out)))
     replace BK511 := mkA (blk_below (bl_ BK511.out) hb)
     replace HB := mkA (below_step (bs1_ HB.out GE511.out) hb)
     clear hb ho11
     refine hK.out _ _ sp_ fun hHeld => ?_
     clear hK K
     refine nm_ 22 ?_
     refine on_ 3 19 fun K hK => ?_
     refine Kd.R_make_step (Kd.int .i64) _ 2 (by rfl) (N := 19) rfl 22 _ _ rfl (l0_2.length : Int) rfl rfl Try.underlying22 (.int .i64 0) 8 info2 rfl (by decide) (by omega) 0 (ok := fun _ => True) (okp := fun _ => True) rfl (fun _ hk => hk) trivial (dt_) (Nat.le_trans (Nat.mul_le_mul_right _ (dt_ : (l0_2.length : Int).toNat ≤ 35184372088832)) (by omega)) (Below.refl _ _) (Nat.le_refl _) ?_
     intro v513 w12 ho13 hb hg_ hnew_
     clear hg_ hnew_
     (first | rw [← Ny512.out] at ho13 | (simp only [Int.reduceToNat] at ho13; rw [← Ny512.out] at ho13))
     have HO514 := mkA (Kd.R_lower (Kd.R_new' ho13 (Kd.R_lt (r_ HO517.out))) (below_size (bs1_ HB.out GE511.out)))
     replace HO517 := mkA (Kd.R_elder' (r_ HO517.out) (Kd.R_base ho13) hb)
     replace BK511 := mkA (blk_below (bl_ BK511.out) hb)
     replace HB := mkA (below_step (bs1_ HB.out GE511.out) hb)
     clear hb ho13
     refine hK.out _ _ sp_ fun hHeld => ?_
     clear hK K
     refine nm_ 19 ?_
     refine a1_ 7 8 (h := ?_)
     exact norm_ (by simp only [putAll, Act.put, sA, sB, sC]) (hCont (v513, v516) _ ⟨hHeld, (by refine r_ ?_; exact Kd.R_mono HO514.out (fun _ hk => hk.2)), (by refine r_ ?_; exact Kd.R_mono HO517.out (fun _ hk => hk.2)), (bl_ BK511.out), (bs1_ HB.out GE511.out)⟩)
 rintro ⟨v513, v516⟩ w14 ⟨hS_, h0_, h1_, h2_, h3_⟩
 have HO514 : Aside0 (Kd.R (Kd.int .i64) 2 w14 w.heap.size (fun k_ => some k_ ≠ (v516 : Value).ownBlock) v513 y512) := ⟨h0_⟩
 have HO517 : Aside0 (Kd.R (Kd.int .i64) 2 w14 w.heap.size (fun k_ => some k_ ≠ (v513 : Value).ownBlock) v516 y515) := ⟨h1_⟩
 replace BK511 : Aside0 (w14.heap[gb511]? = some (.cells #[.int .i64 a0_0, .int .i64 a0_1, .slice A0_2 l0_2.length c0_2] 27 (0, 0))) := ⟨h2_⟩
 replace HB : Aside0 (Below w.heap.size w w14) := ⟨h3_⟩
 clear h0_ h1_ h2_ h3_
 have hHeld : w14.cell? ⟨gb511, 0, none⟩ = some (.int .i64 a0_0) ∧ w14.cell? ⟨gb511, 1, none⟩ = some (.int .i64 a0_1) ∧ w14.cell? ⟨gb511, 2, none⟩ = some (.slice A0_2 l0_2.length c0_2) := hS_
 refine norm_ (a' := ?_) ?_ ?_
 rotate_left
 · simp only [putAll, Act.put, sA, sB, sC]
   rfl
 refine a1_ 8 9 (h := ?_)
 refine dn_ ?_
 try go_wp2
 go_loopg [25] k (fun kq v25 w' => ∃ (x8_1 : List Int) (x9_1 : List Int) (x25_1 : Int), v25 = .int .i64 x25_1 ∧ Aside0 (impl_coverCounts.l0 kq l1 x8_1 x9_1 l2 (l2.length : Int) x25_1 a0_0 a0_1 l0_2 = some (r1, r2)) ∧ Aside0 (kq ≤ k) ∧ Aside0 (Kd.R (Kd.int .i64) 2 w' w.heap.size (fun k_ => some k_ ≠ (v516 : Value).ownBlock) v513 x8_1) ∧ Aside0 (Kd.R (Kd.int .i64) 2 w' w.heap.size (fun k_ => some k_ ≠ (v513 : Value).ownBlock) v516 x9_1) ∧ Aside0 (w'.heap[gb511]? = some (.cells #[.int .i64 a0_0, .int .i64 a0_1, (.slice A0_2 l0_2.length c0_2)] 27 (0, 0))) ∧ Aside0 (Below w.heap.size w w'))
 case atStart => exact ⟨(y512), (y515), (0), rf_, H', ⟨Nat.le_refl _⟩, ⟨r_ HO514.out⟩, ⟨r_ HO517.out⟩, ⟨bl_ BK511.out⟩, ⟨bs1_ HB.out GE511.out⟩⟩
 case round =>
  clear H'
  try clear c4 c4b0 c4b1 c5 c5b0 c5b1 c6 c6b0 c6b1 c7 c7b0 c7b1
  obtain ⟨x8_1, x9_1, x25_1, rfl, HA, HK1, HO_8, HO_9, BK511, HB⟩ := hrel
  cases gk with
  | zero => exact absurd HA.out (by simp [impl_coverCounts.l0])
  | succ k1 =>
   have H := HA.out
   clear HA
   simp only [impl_coverCounts.l0] at H
   by_cases c15 : x25_1 < (l2.length : Int)
   rotate_left
   · rw [if_neg c15] at H
     have c15b0 := decide_eq_false c15
     (try simp only [hl9_40] at c15b0)
     clear c15
     simp only [Option.some.injEq, Prod.mk.injEq] at H
     obtain ⟨rfl, rfl⟩ := H
     go_wp2
     go_ret2
     exact ⟨_, re_, by refine r_ ?_; exact Kd.R_mono HO_8.out (fun _ hk => trivial), bs1_ HB.out GE511.out⟩
   rw [if_pos c15] at H
   have c15b0 := decide_eq_true c15
   clear c15
   revert H
   refine ng_ fun c16 => ng_ fun c17 => ?_
   intro H
   have c16b0 := decide_eq_true c16
   clear c16
   have c17b0 := decide_eq_true c17
   clear c17
   have HC18 := mkA H
   clear H
   obtain ⟨ad518, e518, hx518_0, hx518_1, hx518_2, hx518_3⟩ := at_T109 HR2.out x25_1 dt_ dt_
   cases e518
   obtain ⟨hx518_0, hx518_1, hx518_2, hx518_3⟩ := b4_ HB.out hx518_0 hx518_1 hx518_2 hx518_3
   have p518 : (0 ≤ (x25_1 : Int)) = True := eq_true dt_
   have q518 : (x25_1 < (l2.length : Int)) = True := eq_true dt_
   go_upto_region 5 with (first | ((with_reducible refine gt_ 11 ?_); refine bx_ 11 #[.int .i64 0, .int .i64 0, .int .i64 0, .int .i64 0] 109 fun gb519 hg w19 hbox hb => ?_; replace HO_8 := mkA (Kd.R_below (r_ HO_8.out) hb); replace HO_9 := mkA (Kd.R_below (r_ HO_9.out) hb); have BK519 := mkA (hbox); have GW519 := gs_ hg (bs1_ HB.out GE511.out); have GE519 := GW519; replace HB := mkA (below_step (bs1_ HB.out GE511.out) hb); have NB511_519 := nl_ hg (bl_ BK511.out); have NB519_511 := nr_ hg (bl_ BK511.out); replace BK511 := mkA (blk_below (bl_ BK511.out) hb); clear hb hbox hg; have hnb20 := NB519_511.out; have hnc20 := NB511_519.out; obtain ⟨hcz21_0, hcz21_1, hcz21_2, hcz21_3, hfz21_0, hfz21_1, hfz21_2, hfz21_3⟩ := z4_ BK519.out))
   (try simp only [Act.put, sA, sB, sC])
   go_cut [53] (fun v53 wc => ∃ (kq : Nat) (x53_17 : Bool), v53 = .bool x53_17 ∧ Aside0 (impl_coverCounts.j1 kq l1 x8_1 x9_1 l2 (l2.length : Int) x25_1 x53_17 a0_0 a0_1 l0_2 ((rd_T109 l2 x25_1).f0) ((rd_T109 l2 x25_1).f1) ((rd_T109 l2 x25_1).f2) ((rd_T109 l2 x25_1).f3) = some (r1, r2)) ∧ Aside0 (kq ≤ k1) ∧ Aside0 (Kd.R (Kd.int .i64) 2 wc w.heap.size (fun k_ => some k_ ≠ (v516 : Value).ownBlock) v513 x8_1) ∧ Aside0 (Kd.R (Kd.int .i64) 2 wc w.heap.size (fun k_ => some k_ ≠ (v513 : Value).ownBlock) v516 x9_1) ∧ Aside0 (wc.heap[gb511]? = some (.cells #[.int .i64 a0_0, .int .i64 a0_1, (.slice A0_2 l0_2.length c0_2)] 27 (0, 0))) ∧ Aside0 (wc.heap[gb519]? = some (.cells #[.int .i64 ((rd_T109 l2 x25_1).f0), .int .i64 ((rd_T109 l2 x25_1).f1), .int .i64 ((rd_T109 l2 x25_1).f2), .int .i64 ((rd_T109 l2 x25_1).f3)] 109 (0, 0))) ∧ Aside0 (Below w.heap.size w wc))
   case first =>
    have H := HC18.out
    clear HC18
    revert H
    refine ob_ fun t520 A22 => ?_
    intro H
    by_cases c23 : t520 = true
    rotate_left
    · replace c23 := Bool.eq_false_iff.mpr c23
      subst c23
      rw [if_neg Bool.false_ne_true] at H
      have H' := mkA H
      clear H
      have hnb33 := NB519_511.out
      have hnc33 := NB511_519.out
      obtain ⟨hcz34_0, hcz34_1, hcz34_2, hcz34_3, hfz34_0, hfz34_1, hfz34_2, hfz34_3⟩ := z4_ BK519.out
      go_wp2_with (first | ((with_reducible refine gk_ 57 ?_); refine gl_ (some 34) Try.func57 #[.int .i64 ((rd_T109 l2 x25_1).f0), .int .i64 0, .int .i64 (wrap64 ((l1.length : Int) - 1))] ?_; (with_reducible refine (impl_within.calls ((rd_T109 l2 x25_1).f0) 0 (wrap64 ((l1.length : Int) - 1)) false _ A22.out).mono ?_); rintro e w' ⟨rfl, ⟨nd, rfl⟩⟩; refine ⟨_, rfl, ?_⟩))
      go_meet
      case rel => exact ⟨_, (true), rf_, H', ⟨om_ HK1.out⟩, ⟨by refine r_ ?_; exact Kd.R_mono (Kd.R_far (p := ⟨gb519, 3, none⟩) (Kd.R_far (p := ⟨gb519, 2, none⟩) (Kd.R_far (p := ⟨gb519, 1, none⟩) (Kd.R_far (p := ⟨gb519, 0, none⟩) (Kd.R_types HO_8.out BK519.out (by decide)) (fun _ hk => hk.2) (.int .i64 ((rd_T109 l2 x25_1).f0))) (fun _ hk => hk.2) (.int .i64 ((rd_T109 l2 x25_1).f1))) (fun _ hk => hk.2) (.int .i64 ((rd_T109 l2 x25_1).f2))) (fun _ hk => hk.2) (.int .i64 ((rd_T109 l2 x25_1).f3))) (fun _ hk => hk.1)⟩, ⟨by refine r_ ?_; exact Kd.R_mono (Kd.R_far (p := ⟨gb519, 3, none⟩) (Kd.R_far (p := ⟨gb519, 2, none⟩) (Kd.R_far (p := ⟨gb519, 1, none⟩) (Kd.R_far (p := ⟨gb519, 0, none⟩) (Kd.R_types HO_9.out BK519.out (by decide)) (fun _ hk => hk.2) (.int .i64 ((rd_T109 l2 x25_1).f0))) (fun _ hk => hk.2) (.int .i64 ((rd_T109 l2 x25_1).f1))) (fun _ hk => hk.2) (.int .i64 ((rd_T109 l2 x25_1).f2))) (fun _ hk => hk.2) (.int .i64 ((rd_T109 l2 x25_1).f3))) (fun _ hk => hk.1)⟩, ⟨by refine bl_ ?_; refine blk_far ?_ NB511_519.out _; refine bl_ ?_; refine blk_far ?_ NB511_519.out _; refine bl_ ?_; refine blk_far ?_ NB511_519.out _; refine bl_ ?_; refine blk_far ?_ NB511_519.out _; refine bl_ ?_; exact BK511.out⟩, ⟨by refine bl_ ?_; refine blk_put (cs := #[.int .i64 ((rd_T109 l2 x25_1).f0), .int .i64 ((rd_T109 l2 x25_1).f1), .int .i64 ((rd_T109 l2 x25_1).f2), .int .i64 0]) ?_ 3 _ rfl; refine bl_ ?_; refine blk_put (cs := #[.int .i64 ((rd_T109 l2 x25_1).f0), .int .i64 ((rd_T109 l2 x25_1).f1), .int .i64 0, .int .i64 0]) ?_ 2 _ rfl; refine bl_ ?_; refine blk_put (cs := #[.int .i64 ((rd_T109 l2 x25_1).f0), .int .i64 0, .int .i64 0, .int .i64 0]) ?_ 1 _ rfl; refine bl_ ?_; refine blk_put (cs := #[.int .i64 0, .int .i64 0, .int .i64 0, .int .i64 0]) ?_ 0 _ rfl; refine bl_ ?_; exact BK519.out⟩, ⟨bs2_ HB.out GE511.out GE519.out⟩⟩
    subst c23
    rw [if_pos rfl] at H
    revert H
    refine ob_ fun t521 A24 => ?_
    intro H
    by_cases c25 : t521 = true
    rotate_left
    · replace c25 := Bool.eq_false_iff.mpr c25
      subst c25
      rw [if_neg Bool.false_ne_true] at H
      have H' := mkA H
      clear H
      have hnb30 := NB519_511.out
      have hnc30 := NB511_519.out
      obtain ⟨hcz31_0, hcz31_1, hcz31_2, hcz31_3, hfz31_0, hfz31_1, hfz31_2, hfz31_3⟩ := z4_ BK519.out
      go_wp2_with (first | ((with_reducible refine gk_ 57 ?_); refine gl_ (some 34) Try.func57 #[.int .i64 ((rd_T109 l2 x25_1).f0), .int .i64 0, .int .i64 (wrap64 ((l1.length : Int) - 1))] ?_; (with_reducible refine (impl_within.calls ((rd_T109 l2 x25_1).f0) 0 (wrap64 ((l1.length : Int) - 1)) true _ A22.out).mono ?_); rintro e w' ⟨rfl, ⟨nd, rfl⟩⟩; refine ⟨_, rfl, ?_⟩; obtain ⟨hcz32_0, hcz32_1, hcz32_2, hfz32_0, hfz32_1, hfz32_2⟩ := z3_ BK511.out) | (go_at_call 57; (with_reducible refine (impl_within.calls ((rd_T109 l2 x25_1).f1) 0 (wrap64 (a0_0 - 1)) false _ A24.out).mono ?_); rintro e w' ⟨rfl, ⟨nd, rfl⟩⟩))
      go_meet
      case rel => exact ⟨_, (true), rf_, H', ⟨om_ HK1.out⟩, ⟨by refine r_ ?_; exact Kd.R_mono (Kd.R_far (p := ⟨gb519, 3, none⟩) (Kd.R_far (p := ⟨gb519, 2, none⟩) (Kd.R_far (p := ⟨gb519, 1, none⟩) (Kd.R_far (p := ⟨gb519, 0, none⟩) (Kd.R_types HO_8.out BK519.out (by decide)) (fun _ hk => hk.2) (.int .i64 ((rd_T109 l2 x25_1).f0))) (fun _ hk => hk.2) (.int .i64 ((rd_T109 l2 x25_1).f1))) (fun _ hk => hk.2) (.int .i64 ((rd_T109 l2 x25_1).f2))) (fun _ hk => hk.2) (.int .i64 ((rd_T109 l2 x25_1).f3))) (fun _ hk => hk.1)⟩, ⟨by refine r_ ?_; exact Kd.R_mono (Kd.R_far (p := ⟨gb519, 3, none⟩) (Kd.R_far (p := ⟨gb519, 2, none⟩) (Kd.R_far (p := ⟨gb519, 1, none⟩) (Kd.R_far (p := ⟨gb519, 0, none⟩) (Kd.R_types HO_9.out BK519.out (by decide)) (fun _ hk => hk.2) (.int .i64 ((rd_T109 l2 x25_1).f0))) (fun _ hk => hk.2) (.int .i64 ((rd_T109 l2 x25_1).f1))) (fun _ hk => hk.2) (.int .i64 ((rd_T109 l2 x25_1).f2))) (fun _ hk => hk.2) (.int .i64 ((rd_T109 l2 x25_1).f3))) (fun _ hk => hk.1)⟩, ⟨by refine bl_ ?_; refine blk_far ?_ NB511_519.out _; refine bl_ ?_; refine blk_far ?_ NB511_519.out _; refine bl_ ?_; refine blk_far ?_ NB511_519.out _; refine bl_ ?_; refine blk_far ?_ NB511_519.out _; refine bl_ ?_; exact BK511.out⟩, ⟨by refine bl_ ?_; refine blk_put (cs := #[.int .i64 ((rd_T109 l2 x25_1).f0), .int .i64 ((rd_T109 l2 x25_1).f1), .int .i64 ((rd_T109 l2 x25_1).f2), .int .i64 0]) ?_ 3 _ rfl; refine bl_ ?_; refine blk_put (cs := #[.int .i64 ((rd_T109 l2 x25_1).f0), .int .i64 ((rd_T109 l2 x25_1).f1), .int .i64 0, .int .i64 0]) ?_ 2 _ rfl; refine bl_ ?_; refine blk_put (cs := #[.int .i64 ((rd_T109 l2 x25_1).f0), .int .i64 0, .int .i64 0, .int .i64 0]) ?_ 1 _ rfl; refine bl_ ?_; refine blk_put (cs := #[.int .i64 0, .int .i64 0, .int .i64 0, .int .i64 0]) ?_ 0 _ rfl; refine bl_ ?_; exact BK519.out⟩, ⟨bs2_ HB.out GE511.out GE519.out⟩⟩
    subst c25
    rw [if_pos rfl] at H
    revert H
    refine ob_ fun t522 A26 => ?_
    intro H
    have H' := mkA H
    clear H
    have hnb27 := NB519_511.out
    have hnc27 := NB511_519.out
    obtain ⟨hcz28_0, hcz28_1, hcz28_2, hcz28_3, hfz28_0, hfz28_1, hfz28_2, hfz28_3⟩ := z4_ BK519.out
    go_wp2_with (first | ((with_reducible refine gk_ 57 ?_); refine gl_ (some 34) Try.func57 #[.int .i64 ((rd_T109 l2 x25_1).f0), .int .i64 0, .int .i64 (wrap64 ((l1.length : Int) - 1))] ?_; (with_reducible refine (impl_within.calls ((rd_T109 l2 x25_1).f0) 0 (wrap64 ((l1.length : Int) - 1)) true _ A22.out).mono ?_); rintro e w' ⟨rfl, ⟨nd, rfl⟩⟩; refine ⟨_, rfl, ?_⟩; obtain ⟨hcz29_0, hcz29_1, hcz29_2, hfz29_0, hfz29_1, hfz29_2⟩ := z3_ BK511.out) | (go_at_call 57; (with_reducible refine (impl_within.calls ((rd_T109 l2 x25_1).f1) 0 (wrap64 (a0_0 - 1)) true _ A24.out).mono ?_); rintro e w' ⟨rfl, ⟨nd, rfl⟩⟩) | (go_at_call 57; (with_reducible refine (impl_within.calls ((rd_T109 l2 x25_1).f2) 0 (wrap64 (a0_1 - 1)) t522 _ A26.out).mono ?_); rintro e w' ⟨rfl, ⟨nd, rfl⟩⟩))
    go_meet
    case rel => exact ⟨_, (!t522), rf_, H', ⟨om_ HK1.out⟩, ⟨by refine r_ ?_; exact Kd.R_mono (Kd.R_far (p := ⟨gb519, 3, none⟩) (Kd.R_far (p := ⟨gb519, 2, none⟩) (Kd.R_far (p := ⟨gb519, 1, none⟩) (Kd.R_far (p := ⟨gb519, 0, none⟩) (Kd.R_types HO_8.out BK519.out (by decide)) (fun _ hk => hk.2) (.int .i64 ((rd_T109 l2 x25_1).f0))) (fun _ hk => hk.2) (.int .i64 ((rd_T109 l2 x25_1).f1))) (fun _ hk => hk.2) (.int .i64 ((rd_T109 l2 x25_1).f2))) (fun _ hk => hk.2) (.int .i64 ((rd_T109 l2 x25_1).f3))) (fun _ hk => hk.1)⟩, ⟨by refine r_ ?_; exact Kd.R_mono (Kd.R_far (p := ⟨gb519, 3, none⟩) (Kd.R_far (p := ⟨gb519, 2, none⟩) (Kd.R_far (p := ⟨gb519, 1, none⟩) (Kd.R_far (p := ⟨gb519, 0, none⟩) (Kd.R_types HO_9.out BK519.out (by decide)) (fun _ hk => hk.2) (.int .i64 ((rd_T109 l2 x25_1).f0))) (fun _ hk => hk.2) (.int .i64 ((rd_T109 l2 x25_1).f1))) (fun _ hk => hk.2) (.int .i64 ((rd_T109 l2 x25_1).f2))) (fun _ hk => hk.2) (.int .i64 ((rd_T109 l2 x25_1).f3))) (fun _ hk => hk.1)⟩, ⟨by refine bl_ ?_; refine blk_far ?_ NB511_519.out _; refine bl_ ?_; refine blk_far ?_ NB511_519.out _; refine bl_ ?_; refine blk_far ?_ NB511_519.out _; refine bl_ ?_; refine blk_far ?_ NB511_519.out _; refine bl_ ?_; exact BK511.out⟩, ⟨by refine bl_ ?_; refine blk_put (cs := #[.int .i64 ((rd_T109 l2 x25_1).f0), .int .i64 ((rd_T109 l2 x25_1).f1), .int .i64 ((rd_T109 l2 x25_1).f2), .int .i64 0]) ?_ 3 _ rfl; refine bl_ ?_; refine blk_put (cs := #[.int .i64 ((rd_T109 l2 x25_1).f0), .int .i64 ((rd_T109 l2 x25_1).f1), .int .i64 0, .int .i64 0]) ?_ 2 _ rfl; refine bl_ ?_; refine blk_put (cs := #[.int .i64 ((rd_T109 l2 x25_1).f0), .int .i64 0, .int .i64 0, .int .i64 0]) ?_ 1 _ rfl; refine bl_ ?_; refine blk_put (cs := #[.int .i64 0, .int .i64 0, .int .i64 0, .int .i64 0]) ?_ 0 _ rfl; refine bl_ ?_; exact BK519.out⟩, ⟨bs2_ HB.out GE511.out GE519.out⟩⟩
   case rest =>
    clear HC18
    try clear c4 c4b0 c4b1 c5 c5b0 c5b1 c6 c6b0 c6b1 c7 c7b0 c7b1 c15 c15b0 c16 c16b0 c17 c17b0 c23 c25
    try clear hcz21_0 hcz21_1 hcz21_2 hcz21_3 hcz28_0 hcz28_1 hcz28_2 hcz28_3 hcz29_0 hcz29_1 hcz29_2 hcz31_0 hcz31_1 hcz31_2 hcz31_3 hcz32_0 hcz32_1 hcz32_2 hcz34_0 hcz34_1 hcz34_2 hcz34_3
    try clear hfz21_0 hfz21_1 hfz21_2 hfz21_3 hfz28_0 hfz28_1 hfz28_2 hfz28_3 hfz29_0 hfz29_1 hfz29_2 hfz31_0 hfz31_1 hfz31_2 hfz31_3 hfz32_0 hfz32_1 hfz32_2 hfz34_0 hfz34_1 hfz34_2 hfz34_3
    try clear hx518_0 hx518_1 hx518_2 hx518_3
    try clear p518
    try clear q518
    obtain ⟨kq, x53_17, rfl, HA, HJ17, HO_8, HO_9, BK511, BK519, HB⟩ := hcut
    cases kq with
    | zero => exact absurd HA.out (by simp [impl_coverCounts.j1])
    | succ kj17 =>
     have H := HA.out
     clear HA
     simp only [impl_coverCounts.j1] at H
     by_cases c35 : x53_17 = true
     · subst c35
       rw [if_pos rfl] at H
       simp only [Option.some.injEq, Prod.mk.injEq] at H
       obtain ⟨rfl, rfl⟩ := H
       go_wp2
       go_ret2
       exact ⟨_, re_, by first | exact Kd.R_nil _ _ _ _ _ | exact Kd.N_nil _ _ _ _ _ | exact Kd.V_nil _ _ _ _ _ | exact Kd.Q_nil _ _ _ _ _ | exact Kd.S_nil _ _ _ _ _, bs2_ HB.out GE511.out GE519.out⟩
     · replace c35 := Bool.eq_false_iff.mpr c35
       subst c35
       rw [if_neg Bool.false_ne_true] at H
       revert H
       refine ng_ fun c36 => ng_ fun c37 => ob_ fun t_ A38 => ?_
       intro H
       have c36b0 := decide_eq_true c36
       clear c36
       have c37b0 := decide_eq_true c37
       clear c37
       obtain ⟨t524, t527⟩ := t_
       try dsimp only at H
       revert H
       refine ng_ fun c39 => ?_
       intro H
       have c39b0 := decide_eq_true c39
       clear c39
       obtain ⟨y531, hy531⟩ := gy_ (x9_1.set (((rd_T109 l2 x25_1).f0) : Int).toNat (wrap64 ((rd x9_1 ((rd_T109 l2 x25_1).f0)) + 1)) : List Int)
       rw [← hy531] at H
       (try with_reducible replace H := bso_ H)
       have Ny531 := mkA hy531
       clear hy531
       have HC41 := mkA H
       clear H
       have hnb42 := NB519_511.out
       have hnc42 := NB511_519.out
       obtain ⟨hcz43_0, hcz43_1, hcz43_2, hcz43_3, hfz43_0, hfz43_1, hfz43_2, hfz43_3⟩ := z4_ BK519.out
       obtain ⟨ad523, A523_1, c523_1, e523, hx523_0, hx523_1, hx523_2, hx523_3, hl523_1, hi523_1⟩ := at_T53 HR1.out ((rd_T109 l2 x25_1).f0) dt_ dt_
       cases e523
       have HR523_1 := mkA hi523_1
       have HC523_1 := mkA hl523_1
       clear hi523_1 hl523_1
       obtain ⟨hx523_0, hx523_1, hx523_2, hx523_3⟩ := b4_ HB.out hx523_0 hx523_1 hx523_2 hx523_3
       have p523 : (0 ≤ (((rd_T109 l2 x25_1).f0) : Int)) = True := eq_true dt_
       have q523 : (((rd_T109 l2 x25_1).f0) < (l1.length : Int)) = True := eq_true dt_
       go_upto_region 9 with (first | ((with_reducible refine gk_ 75 ?_); refine gl_ (some 60) Try.func75 #[.agg #[.string ((rd_T53 l1 ((rd_T109 l2 x25_1).f0)).f0), .slice A523_1 ((rd_T53 l1 ((rd_T109 l2 x25_1).f0)).f1).length c523_1, .int .i64 ((rd_T53 l1 ((rd_T109 l2 x25_1).f0)).f2), .bool ((rd_T53 l1 ((rd_T109 l2 x25_1).f0)).f3)]] ?_; (with_reducible refine (impl_pieceTurns.calls kj17 ((rd_T53 l1 ((rd_T109 l2 x25_1).f0)).f0) _ _ ((rd_T53 l1 ((rd_T109 l2 x25_1).f0)).f1) ((rd_T53 l1 ((rd_T109 l2 x25_1).f0)).f2) ((rd_T53 l1 ((rd_T109 l2 x25_1).f0)).f3) t524 t527 _ ?side1 ?side2 A38.out).mono ?_); (case side1 => exact cb_ HR523_1.out HB.out); (case side2 => exact HC523_1.out); rintro e w44 ⟨v525, v528, rfl, ho0, ho1, hb⟩; refine ⟨_, rfl, ?_⟩; have HO526 := mkA (Kd.R_lower (Kd.R_new' (Kd.R_new' (Kd.R_mono (ok' := fun k_ => True) ho0 (fun _ hk_ => trivial)) (Kd.R_lt (r_ HO_8.out))) (Kd.R_lt (r_ HO_9.out))) (below_size (bs2_ HB.out GE511.out GE519.out))); have HO529 := mkA (Kd.N_lower (Kd.N_mono (ok' := fun k_ => some k_ ≠ (v525 : Value).ownBlock ∧ some k_ ≠ (v513 : Value).ownBlock ∧ some k_ ≠ (v516 : Value).ownBlock ∧ k_ ≠ gb511 ∧ k_ ≠ gb519) ho1 (fun k_ hk_ => ⟨hk_.2, (Kd.fresh' (Kd.R_lt (r_ HO_8.out)) k_ hk_.1), (Kd.fresh' (Kd.R_lt (r_ HO_9.out)) k_ hk_.1), (Kd.freshB (g := gb511) (o := .cells #[.int .i64 a0_0, .int .i64 a0_1, .slice A0_2 l0_2.length c0_2] 27 (0, 0)) (bl_ BK511.out) k_ hk_.1), (Kd.freshB (g := gb519) (o := .cells #[.int .i64 ((rd_T109 l2 x25_1).f0), .int .i64 ((rd_T109 l2 x25_1).f1), .int .i64 ((rd_T109 l2 x25_1).f2), .int .i64 ((rd_T109 l2 x25_1).f3)] 109 (0, 0)) (bl_ BK519.out) k_ hk_.1)⟩)) (below_size (bs2_ HB.out GE511.out GE519.out))); replace HO_8 := mkA (Kd.R_elder' (r_ HO_8.out) (Kd.R_base ho0) hb); replace HO_9 := mkA (Kd.R_elder' (r_ HO_9.out) (Kd.R_base ho0) hb); replace BK511 := mkA (blk_below (bl_ BK511.out) hb); replace BK519 := mkA (blk_below (bl_ BK519.out) hb); replace HB := mkA (below_step (bs2_ HB.out GE511.out GE519.out) hb); (try clear hb); (try clear hb2); (try clear hk); (try clear hi); (try clear ho0); (try clear ho1); obtain ⟨hcz45_0, hcz45_1, hcz45_2, hcz45_3, hfz45_0, hfz45_1, hfz45_2, hfz45_3⟩ := z4_ BK519.out; obtain ⟨Ao46, co46, eo46⟩ := Kd.R_slice HO_9.out; subst eo46; have p530 : 0 ≤ (((rd_T109 l2 x25_1).f0) : Int) := dt_; have q530 : ((rd_T109 l2 x25_1).f0) < (x9_1.length : Int) := dt_; obtain ⟨ad530, e530, hx530_0⟩ := Kd.at_int (Kd.R_reads' HO_9.out).2.2 ((rd_T109 l2 x25_1).f0) p530 q530; cases e530; replace p530 := eq_true p530; replace q530 := eq_true q530; have p40 : 0 ≤ (((rd_T109 l2 x25_1).f0) : Int) := dt_; have q40 : (((rd_T109 l2 x25_1).f0) : Int) < ((x9_1.length : Int) : Int) := dt_; obtain ⟨go40, co40, eo40, gb40, gl40, cl40, HG40⟩ := Kd.R_form HO_9.out (by omega); (first | cases eo40 | (injection eo40 with ea_ en_ ec_; (first | subst ea_ | (injection ea_ with ea_; subst ea_)); subst ec_; clear en_)); have GB40 := mkA gb40; have GG40 := mkA HG40; clear gb40 gl40 HG40; (first | simp only [add_plain] at hx530_0 | skip); obtain ⟨hx40_0, hf40_0⟩ := Kd.R_celln 0 HO_9.out (((rd_T109 l2 x25_1).f0) : Int) p40 q40; replace p40 := eq_true p40; replace q40 := eq_true q40; obtain ⟨hy47_, hz47_⟩ := Kd.R_celln 0 HO_9.out (((rd_T109 l2 x25_1).f0) : Int) (dt_) (dt_); have HP47 := Kd.R_putg HO_9.out (((rd_T109 l2 x25_1).f0) : Int) (wrap64 ((rd x9_1 ((rd_T109 l2 x25_1).f0)) + 1))) | ((with_reducible refine gate_store (t := 2) (p := 69) rfl ?_); refine store_event (t := 2) (p := 69) (v := ?vo_w48) (w1 := (w44.setCell ⟨go40, (((rd_T109 l2 x25_1).f0) : Int).toNat, none⟩ (.int .i64 (wrap64 ((rd x9_1 ((rd_T109 l2 x25_1).f0)) + 1))))) ?hg ?ho ?hn ?hr ?_; (case ho => rfl); (case hg => rfl); (case hn => rfl); (case hr => first | (go_simp; done) | (go_simp; rfl)); intro w48 hw; have hg : w44.grownBy w48 (some go40) := (by rw [hw]; exact HP47.2); have hp_ : Kd.R (Kd.int .i64) 2 w48 w.heap.size (fun k_ => some k_ ≠ (v513 : Value).ownBlock ∧ some k_ ≠ (v525 : Value).ownBlock) (.slice (some ⟨go40, 0, none⟩) x9_1.length co46) y531 := (by rw [hw, Ny531.out]; exact HP47.1); clear HP47; replace HO_8 := mkA (Kd.R_after (v := (.slice (some ⟨go40, 0, none⟩) x9_1.length co46)) (v1 := (.slice (some ⟨go40, 0, none⟩) x9_1.length co46)) (ok := (fun k_ => some k_ ≠ (v525 : Value).ownBlock)) (by refine r_ ?_; exact Kd.R_mono HO_8.out (fun _ hk => ⟨hk.2, hk.1⟩)) hg (.inl rfl)); replace BK511 := mkA (blk_grown (g := gb511) (o := .cells #[.int .i64 a0_0, .int .i64 a0_1, .slice A0_2 l0_2.length c0_2] 27 (0, 0)) (bl_ BK511.out) hg (Kd.R_ne HO_9.out BK511.out (by decide))); replace BK519 := mkA (blk_grown (g := gb519) (o := .cells #[.int .i64 ((rd_T109 l2 x25_1).f0), .int .i64 ((rd_T109 l2 x25_1).f1), .int .i64 ((rd_T109 l2 x25_1).f2), .int .i64 ((rd_T109 l2 x25_1).f3)] 109 (0, 0)) (bl_ BK519.out) hg (Kd.R_ne HO_9.out BK519.out (by decide))); replace HO_9 := mkA (hp_); replace HO526 := mkA (Kd.R_after (v := (.slice (some ⟨go40, 0, none⟩) x9_1.length co46)) (v1 := (.slice (some ⟨go40, 0, none⟩) x9_1.length co46)) (ok := (fun k_ => some k_ ≠ (v513 : Value).ownBlock)) (by refine r_ ?_; exact Kd.R_mono HO526.out (fun _ hk => ⟨hk.1.2, hk.2⟩)) hg (.inl rfl)); replace HO529 := mkA (Kd.N_afterv (v := (.slice (some ⟨go40, 0, none⟩) x9_1.length co46)) (v1 := (.slice (some ⟨go40, 0, none⟩) x9_1.length co46)) (ok := (fun k_ => some k_ ≠ (v513 : Value).ownBlock ∧ some k_ ≠ (v525 : Value).ownBlock ∧ k_ ≠ gb511 ∧ k_ ≠ gb519)) (by refine n_ ?_; exact Kd.N_mono HO529.out (fun _ hk => ⟨⟨hk.2.1, ⟨hk.1, ⟨hk.2.2.2.1, hk.2.2.2.2⟩⟩⟩, hk.2.2.1⟩)) hg (.inl rfl)); replace HB := mkA ((by rw [hw]; exact below_set (HB.out) GB40.out : Below w.heap.size w w48)); clear hg hw hp_))
       (try simp only [Act.put, sA, sB, sC])
       go_cut [88] (fun v88 wc => ∃ (kq : Nat) (x88_40 : Bool), v88 = .bool x88_40 ∧ Aside0 (impl_coverCounts.j2 kq l1 x8_1 y531 l2 (l2.length : Int) x25_1 x88_40 a0_0 a0_1 l0_2 ((rd_T109 l2 x25_1).f0) ((rd_T109 l2 x25_1).f1) ((rd_T109 l2 x25_1).f2) ((rd_T109 l2 x25_1).f3) = some (r1, r2)) ∧ Aside0 (kq ≤ kj17) ∧ Aside0 (Kd.R (Kd.int .i64) 2 wc w.heap.size (fun k_ => some k_ ≠ ((.slice (some ⟨go40, 0, none⟩) x9_1.length co46) : Value).ownBlock) v513 x8_1) ∧ Aside0 (Kd.R (Kd.int .i64) 2 wc w.heap.size (fun k_ => some k_ ≠ (v513 : Value).ownBlock) (.slice (some ⟨go40, 0, none⟩) x9_1.length co46) y531) ∧ Aside0 (wc.heap[gb511]? = some (.cells #[.int .i64 a0_0, .int .i64 a0_1, (.slice A0_2 l0_2.length c0_2)] 27 (0, 0))) ∧ Aside0 (wc.heap[gb519]? = some (.cells #[.int .i64 ((rd_T109 l2 x25_1).f0), .int .i64 ((rd_T109 l2 x25_1).f1), .int .i64 ((rd_T109 l2 x25_1).f2), .int .i64 ((rd_T109 l2 x25_1).f3)] 109 (0, 0))) ∧ Aside0 (Below w.heap.size w wc))
       case first =>
        have H := HC41.out
        clear HC41
        revert H
        refine ob_ fun t532 A49 => ?_
        intro H
        by_cases c50 : t532 = true
        rotate_left
        · replace c50 := Bool.eq_false_iff.mpr c50
          subst c50
          rw [if_neg Bool.false_ne_true] at H
          have H' := mkA H
          clear H
          try go_wp2
          replace HO_8 := mkA (Kd.R_drew HO_8.out)
          replace HO_9 := mkA (Kd.R_drew HO_9.out)
          replace HO526 := mkA (Kd.R_drew HO526.out)
          replace HO529 := mkA (Kd.N_drew HO529.out)
          replace BK511 := mkA (blk_drew BK511.out)
          replace BK519 := mkA (blk_drew BK519.out)
          replace HB := mkA (below_drew1 HB.out)
          obtain ⟨Ao54, co54, eo54⟩ := Kd.R_slice HO526.out
          (first | subst eo54 | (injection eo54 with f1_ f2_ f3_; have f4_ := f1_.symm; have f5_ := f3_.symm; clear f1_ f2_ f3_; subst f4_; subst f5_))
          refine st_ 19 (fun w' => w'.cell? ⟨gb519, 0, none⟩ = some (.int .i64 ((rd_T109 l2 x25_1).f0)) ∧ w'.cell? ⟨gb519, 1, none⟩ = some (.int .i64 ((rd_T109 l2 x25_1).f1)) ∧ w'.cell? ⟨gb519, 2, none⟩ = some (.int .i64 ((rd_T109 l2 x25_1).f2)) ∧ w'.cell? ⟨gb519, 3, none⟩ = some (.int .i64 ((rd_T109 l2 x25_1).f3))) [] impl_coverCounts.tab9 impl_coverCounts.bits9 sp_ fun hHeld HT_ HW_ => ?_
          generalize w48.drew = w53 at HO_8 HO_9 HO526 HO529 BK511 BK519 HB hHeld ⊢
          refine a1_ 0 70 (h := a1_ 1 71 (h := tk_ 2 72 (h := ?_)))
          refine on_ 3 73 fun K hK => ?_
          refine go_ Try.func104 #[.slice Ao54 t524.length co54, .int .i64 ((rd_T109 l2 x25_1).f3)] ?_
          with_reducible refine (slices_Contains_int64_int64.calls kj17 _ _ t524 ((rd_T109 l2 x25_1).f3) false _ ?side1 ?side2 A49.out).mono ?_
          (case side1 => repeat (first | exact (Kd.R_reads' HO526.out).2.2 | (with_reducible refine Kd.C_alloc ?_ _) | (with_reducible refine Kd.C_drewN ?_ _) | (with_reducible refine Kd.C_drew ?_)))
          (case side2 => exact (Kd.R_reads' HO526.out).2.1)
          rintro e w' ⟨rfl, ⟨nd, rfl⟩⟩
          refine ⟨_, rfl, ?_⟩
          refine hK.out _ _ sp_ fun hHeld => ?_
          clear hK K
          refine nm_ 73 ?_
          refine a1_ 4 74 (h := a1_ 5 75 (h := a0_ 6 76 (h := a0_ 7 77 (h := a0_ 8 78 (h := a0_ 9 79 (h := a0_ 10 80 (h := a0_ 11 81 (h := a0_ 12 82 (h := a0_ 13 83 (h := a0_ 14 84 (h := a0_ 15 85 (h := a0_ 16 86 (h := a0_ 17 87 (h := a1_ 18 88 (h := ?_)))))))))))))))
          refine dn_ ?_
          try go_wp2
          go_meet
          case rel => exact ⟨_, (true), rf_, H', ⟨by have := HK1.out; have := HJ17.out; first | omega | exact Nat.le_refl _⟩, ⟨by refine r_ ?_; exact Kd.R_mono HO_8.out (fun _ hk => hk.2)⟩, ⟨by refine r_ ?_; exact Kd.R_mono HO_9.out (fun _ hk => hk.1)⟩, ⟨bl_ BK511.out⟩, ⟨bl_ BK519.out⟩, ⟨bs2_ HB.out GE511.out GE519.out⟩⟩
        subst c50
        rw [if_pos rfl] at H
        have H' := mkA H
        clear H
        try go_wp2
        replace HO_8 := mkA (Kd.R_drew HO_8.out)
        replace HO_9 := mkA (Kd.R_drew HO_9.out)
        replace HO526 := mkA (Kd.R_drew HO526.out)
        replace HO529 := mkA (Kd.N_drew HO529.out)
        replace BK511 := mkA (blk_drew BK511.out)
        replace BK519 := mkA (blk_drew BK519.out)
        replace HB := mkA (below_drew1 HB.out)
        obtain ⟨Ao52, co52, eo52⟩ := Kd.R_slice HO526.out
        (first | subst eo52 | (injection eo52 with f1_ f2_ f3_; have f4_ := f1_.symm; have f5_ := f3_.symm; clear f1_ f2_ f3_; subst f4_; subst f5_))
        have p533 : 0 ≤ (((rd_T109 l2 x25_1).f0) : Int) := dt_
        have q533 : ((rd_T109 l2 x25_1).f0) < (y531.length : Int) := (by have h_ : (((rd_T109 l2 x25_1).f0) : Int) < ((x9_1.length : Int) : Int) := dt_; first | (have e_ := (Kd.R_reads' HO_9.out).1; omega) | simpa only [Ny531.out, List.length_set] using h_)
        have ql533 : ((((rd_T109 l2 x25_1).f0) : Int) < ((x9_1.length : Int) : Int)) = True := eq_true (dt_)
        obtain ⟨ad533, e533, hx533_0⟩ := Kd.at_int (Kd.R_reads' HO_9.out).2.2 ((rd_T109 l2 x25_1).f0) p533 q533
        obtain rfl : (⟨go40, 0, none⟩ : Addr) = ad533 := (by injection e533)
        (first | simp only [add_plain] at hx533_0 | simp only [add_at] at hx533_0 | simp only [Addr.add, Nat.zero_add] at hx533_0 | skip)
        replace p533 := eq_true p533
        replace q533 := eq_true q533
        obtain ⟨ad534, A534_1, c534_1, e534, hw534_0, hw534_1, hw534_2, hw534_3, hl534_1, hi534_1⟩ := at_T53 HR1.out ((rd_T109 l2 x25_1).f0) dt_ dt_
        obtain rfl : ad523 = ad534 := (by injection e534)
        have HR534_1 := mkA hi534_1
        have HC534_1 := mkA hl534_1
        clear hi534_1 hl534_1
        obtain ⟨hx534_0, hx534_1, hx534_2, hx534_3⟩ := b4_ HB.out hw534_0 hw534_1 hw534_2 hw534_3
        have p534 : (0 ≤ (((rd_T109 l2 x25_1).f0) : Int)) = True := eq_true dt_
        have q534 : (((rd_T109 l2 x25_1).f0) < (l1.length : Int)) = True := eq_true dt_
        refine st_ 19 (fun w' => w'.cell? ⟨gb519, 0, none⟩ = some (.int .i64 ((rd_T109 l2 x25_1).f0)) ∧ w'.cell? ⟨gb519, 1, none⟩ = some (.int .i64 ((rd_T109 l2 x25_1).f1)) ∧ w'.cell? ⟨gb519, 2, none⟩ = some (.int .i64 ((rd_T109 l2 x25_1).f2)) ∧ w'.cell? ⟨gb519, 3, none⟩ = some (.int .i64 ((rd_T109 l2 x25_1).f3)) ∧ C_ hx533_0 w' ∧ C_ hw534_0 w' ∧ C_ hw534_1 w' ∧ C_ hw534_2 w' ∧ C_ hw534_3 w') [] impl_coverCounts.tab9 impl_coverCounts.bits9 sp_ fun hHeld HT_ HW_ => ?_
        generalize w48.drew = w51 at HO_8 HO_9 HO526 HO529 BK511 BK519 HB HR534_1 hx533_0 hx534_0 hx534_1 hx534_2 hx534_3 hHeld ⊢
        refine a1_ 0 70 (h := a1_ 1 71 (h := tk_ 2 72 (h := ?_)))
        refine on_ 3 73 fun K hK => ?_
        refine go_ Try.func104 #[.slice Ao52 t524.length co52, .int .i64 ((rd_T109 l2 x25_1).f3)] ?_
        with_reducible refine (slices_Contains_int64_int64.calls kj17 _ _ t524 ((rd_T109 l2 x25_1).f3) true _ ?side1 ?side2 A49.out).mono ?_
        (case side1 => repeat (first | exact (Kd.R_reads' HO526.out).2.2 | (with_reducible refine Kd.C_alloc ?_ _) | (with_reducible refine Kd.C_drewN ?_ _) | (with_reducible refine Kd.C_drew ?_)))
        (case side2 => exact (Kd.R_reads' HO526.out).2.1)
        rintro e w' ⟨rfl, ⟨nd, rfl⟩⟩
        refine ⟨_, rfl, ?_⟩
        refine hK.out _ _ ⟨(blk_cell BK519.out 0).trans rfl, (blk_cell BK519.out 1).trans rfl, (blk_cell BK519.out 2).trans rfl, (blk_cell BK519.out 3).trans rfl, hHeld.2.2.2.2.1, (bc_ HB.out hw534_0 :), (bc_ HB.out hw534_1 :), (bc_ HB.out hw534_2 :), (bc_ HB.out hw534_3 :)⟩ (fun hHeld => ?_)
        clear hK K
        refine nm_ 73 ?_
        refine a1_ 4 74 (h := a1_ 5 75 (h := a1_ 6 76 (h := a1_ 7 77 (h := a1_ 11 81 (h := a1_ 12 82 (h := tk_ 8 78 (h := a1_ 9 79 (h := tk_ 10 80 (h := tk_ 13 83 (h := a1_ 14 84 (h := a1_ 15 85 (h := tk_ 16 86 (h := a1_ 17 87 (h := a1_ 18 88 (h := ?_)))))))))))))))
        refine dn_ ?_
        try go_wp2
        go_meet
        case rel => exact ⟨_, (decide ((rd y531 ((rd_T109 l2 x25_1).f0)) > ((rd_T53 l1 ((rd_T109 l2 x25_1).f0)).f2))), rf_, H', ⟨by have := HK1.out; have := HJ17.out; first | omega | exact Nat.le_refl _⟩, ⟨by refine r_ ?_; exact Kd.R_mono HO_8.out (fun _ hk => hk.2)⟩, ⟨by refine r_ ?_; exact Kd.R_mono HO_9.out (fun _ hk => hk.1)⟩, ⟨bl_ BK511.out⟩, ⟨bl_ BK519.out⟩, ⟨bs2_ HB.out GE511.out GE519.out⟩⟩
       case rest =>
        clear HC41
        try clear c4 c4b0 c4b1 c5 c5b0 c5b1 c6 c6b0 c6b1 c7 c7b0 c7b1 c15 c15b0 c16 c16b0 c17 c17b0 c23 c25 c35 c36 c36b0 c37 c37b0 c39 c39b0 c50
        try clear p40 p518 p523 p530 p533 p534
        try clear q40 q518 q523 q530 q533 q534
        try clear hcz21_0 hcz21_1 hcz21_2 hcz21_3 hcz28_0 hcz28_1 hcz28_2 hcz28_3 hcz29_0 hcz29_1 hcz29_2 hcz31_0 hcz31_1 hcz31_2 hcz31_3 hcz32_0 hcz32_1 hcz32_2 hcz34_0 hcz34_1 hcz34_2 hcz34_3 hcz43_0 hcz43_1 hcz43_2 hcz43_3 hcz45_0 hcz45_1 hcz45_2 hcz45_3
        try clear hfz21_0 hfz21_1 hfz21_2 hfz21_3 hfz28_0 hfz28_1 hfz28_2 hfz28_3 hfz29_0 hfz29_1 hfz29_2 hfz31_0 hfz31_1 hfz31_2 hfz31_3 hfz32_0 hfz32_1 hfz32_2 hfz34_0 hfz34_1 hfz34_2 hfz34_3 hfz43_0 hfz43_1 hfz43_2 hfz43_3 hfz45_0 hfz45_1 hfz45_2 hfz45_3
        try clear hx40_0 hx518_0 hx518_1 hx518_2 hx518_3 hx523_0 hx523_1 hx523_2 hx523_3 hx530_0 hx533_0 hx534_0 hx534_1 hx534_2 hx534_3
        obtain ⟨kq, x88_40, rfl, HA, HJ40, HO_8, HO_9, BK511, BK519, HB⟩ := hcut
        have hl9_40 := (Kd.R_reads' HO_9.out).1
        rw [hl9_40] at HO_9
        (try simp only [hl9_40])
        (try simp only [hl9_40] at BK511)
        (try simp only [hl9_40] at BK519)
        (try simp only [hl9_40] at HO_8)
        cases kq with
        | zero => exact absurd HA.out (by simp [impl_coverCounts.j2])
        | succ kj40 =>
         have H := HA.out
         clear HA
         simp only [impl_coverCounts.j2] at H
         by_cases c55 : x88_40 = true
         · subst c55
           rw [if_pos rfl] at H
           simp only [Option.some.injEq, Prod.mk.injEq] at H
           obtain ⟨rfl, rfl⟩ := H
           go_wp2
           go_ret2
           exact ⟨_, re_, by first | exact Kd.R_nil _ _ _ _ _ | exact Kd.N_nil _ _ _ _ _ | exact Kd.V_nil _ _ _ _ _ | exact Kd.Q_nil _ _ _ _ _ | exact Kd.S_nil _ _ _ _ _, bs2_ HB.out GE511.out GE519.out⟩
         · replace c55 := Bool.eq_false_iff.mpr c55
           subst c55
           rw [if_neg Bool.false_ne_true] at H
           revert H
           refine ng_ fun c56 => ng_ fun c57 => ?_
           intro H
           have c56b0 := decide_eq_true c56
           clear c56
           have c57b0 := decide_eq_true c57
           (try simp only [hl9_40] at c57b0)
           clear c57
           revert H
           refine ob_ fun t536 A58 => ob_ fun t539 A59 => ?_
           intro H
           have H' := mkA H
           clear H
           try go_wp2
           replace HO_8 := mkA (Kd.R_drew HO_8.out)
           replace HO_9 := mkA (Kd.R_drew HO_9.out)
           replace BK511 := mkA (blk_drew BK511.out)
           replace BK519 := mkA (blk_drew BK519.out)
           replace HB := mkA (below_drew1 HB.out)
           obtain ⟨ad535, A535_1, c535_1, e535, hw535_0, hw535_1, hw535_2, hw535_3, hl535_1, hi535_1⟩ := at_T53 HR1.out ((rd_T109 l2 x25_1).f0) dt_ dt_
           obtain rfl : ad523 = ad535 := (by injection e535)
           have HR535_1 := mkA hi535_1
           have HC535_1 := mkA hl535_1
           clear hi535_1 hl535_1
           obtain ⟨hx535_0, hx535_1, hx535_2, hx535_3⟩ := b4_ HB.out hw535_0 hw535_1 hw535_2 hw535_3
           have p535 : (0 ≤ (((rd_T109 l2 x25_1).f0) : Int)) = True := eq_true dt_
           have q535 : (((rd_T109 l2 x25_1).f0) < (l1.length : Int)) = True := eq_true dt_
           refine st_ 15 (fun w' => w'.cell? ⟨gb519, 0, none⟩ = some (.int .i64 ((rd_T109 l2 x25_1).f0)) ∧ w'.cell? ⟨gb519, 1, none⟩ = some (.int .i64 ((rd_T109 l2 x25_1).f1)) ∧ w'.cell? ⟨gb519, 2, none⟩ = some (.int .i64 ((rd_T109 l2 x25_1).f2)) ∧ w'.cell? ⟨gb519, 3, none⟩ = some (.int .i64 ((rd_T109 l2 x25_1).f3)) ∧ C_ hw535_0 w' ∧ C_ hw535_1 w' ∧ C_ hw535_2 w' ∧ C_ hw535_3 w') [] impl_coverCounts.tab11 impl_coverCounts.bits11 sp_ fun hHeld HT_ HW_ => ?_
           generalize wc.drew = w60 at HO_8 HO_9 BK511 BK519 HB HR535_1 hx535_0 hx535_1 hx535_2 hx535_3 hHeld ⊢
           refine a1_ 0 89 (h := a1_ 1 90 (h := a1_ 5 94 (h := a1_ 8 97 (h := a1_ 10 99 (h := a1_ 14 103 (h := tk_ 2 91 (h := a1_ 3 92 (h := tk_ 4 93 (h := tk_ 6 95 (h := tk_ 9 98 (h := tk_ 11 100 (h := ?_))))))))))))
           refine on_ 7 96 fun K hK => ?_
           refine go_ Try.func79 #[.agg #[.string ((rd_T53 l1 ((rd_T109 l2 x25_1).f0)).f0), .slice A535_1 ((rd_T53 l1 ((rd_T109 l2 x25_1).f0)).f1).length c535_1, .int .i64 ((rd_T53 l1 ((rd_T109 l2 x25_1).f0)).f2), .bool ((rd_T53 l1 ((rd_T109 l2 x25_1).f0)).f3)], .int .i64 ((rd_T109 l2 x25_1).f3)] ?_
           with_reducible refine (impl_turnedCells.calls kj40 ((rd_T53 l1 ((rd_T109 l2 x25_1).f0)).f0) _ _ ((rd_T53 l1 ((rd_T109 l2 x25_1).f0)).f1) ((rd_T53 l1 ((rd_T109 l2 x25_1).f0)).f2) ((rd_T53 l1 ((rd_T109 l2 x25_1).f0)).f3) ((rd_T109 l2 x25_1).f3) t536 _ ?side1 ?side2 A58.out).mono ?_
           (case side1 => exact cb_ HR535_1.out HB.out)
           (case side2 => exact HC535_1.out)
           rintro e w61 ⟨v537, rfl, ho0, hb⟩
           refine ⟨_, rfl, ?_⟩
           replace HO_8 := mkA (Kd.R_below (r_ HO_8.out) hb)
           replace HO_9 := mkA (Kd.R_below (r_ HO_9.out) hb)
           have HO538 := mkA (Kd.R_lower ho0 (below_size (bs2_ HB.out GE511.out GE519.out)))
           replace BK511 := mkA (blk_below (bl_ BK511.out) hb)
           replace BK519 := mkA (blk_below (bl_ BK519.out) hb)
           replace HB := mkA (below_step (bs2_ HB.out GE511.out GE519.out) hb)
           (try clear hb)
           (try clear hb2)
           (try clear hk)
           (try clear hi)
           (try clear ho0)
           obtain ⟨Ao62, co62, eo62⟩ := Kd.R_slice HO538.out
           (first | subst eo62 | (injection eo62 with f1_ f2_ f3_; have f4_ := f1_.symm; have f5_ := f3_.symm; clear f1_ f2_ f3_; subst f4_; subst f5_))
           refine hK.out _ _ sp_ fun hHeld => ?_
           clear hK K
           refine nm_ 96 ?_
           refine on_ 12 101 fun K hK => ?_
           refine go_ Try.func78 #[.slice Ao62 t536.length co62, .int .i64 ((rd_T109 l2 x25_1).f1), .int .i64 ((rd_T109 l2 x25_1).f2)] ?_
           with_reducible refine (impl_shifted.calls kj40 _ _ t536 ((rd_T109 l2 x25_1).f1) ((rd_T109 l2 x25_1).f2) t539 _ ?side1 ?side2 A59.out).mono ?_
           (case side1 => repeat (first | exact (Kd.R_reads' HO538.out).2.2 | (with_reducible refine Kd.C_alloc ?_ _) | (with_reducible refine Kd.C_drewN ?_ _) | (with_reducible refine Kd.C_drew ?_)))
           (case side2 => exact (Kd.R_reads' HO538.out).2.1)
           rintro e w63 ⟨v540, rfl, ho0, hb⟩
           refine ⟨_, rfl, ?_⟩
           replace HO_8 := mkA (Kd.R_below (r_ HO_8.out) hb)
           replace HO_9 := mkA (Kd.R_below (r_ HO_9.out) hb)
           have HO541 := mkA (Kd.R_lower (Kd.R_new' ho0 (Kd.R_lt (r_ HO538.out))) (below_size (bs2_ HB.out GE511.out GE519.out)))
           replace HO538 := mkA (Kd.R_elder' (r_ HO538.out) (Kd.R_base ho0) hb)
           replace BK511 := mkA (blk_below (bl_ BK511.out) hb)
           replace BK519 := mkA (blk_below (bl_ BK519.out) hb)
           replace HB := mkA (below_step (bs2_ HB.out GE511.out GE519.out) hb)
           (try clear hb)
           (try clear hb2)
           (try clear hk)
           (try clear hi)
           (try clear ho0)
           obtain ⟨Ao64, co64, eo64⟩ := Kd.R_slice HO541.out
           (first | subst eo64 | (injection eo64 with f1_ f2_ f3_; have f4_ := f1_.symm; have f5_ := f3_.symm; clear f1_ f2_ f3_; subst f4_; subst f5_))
           refine hK.out _ _ sp_ fun hHeld => ?_
           clear hK K
           refine nm_ 101 ?_
           refine a1_ 13 102 (h := ?_)
           refine dn_ ?_
           try go_wp2
           go_loopg [103] kj40 (fun kq v103 w' => ∃ (x8_4 : List Int) (x103_4 : Int), v103 = .int .i64 x103_4 ∧ Aside0 (impl_coverCounts.l1 kq l1 x8_4 y531 l2 (l2.length : Int) x25_1 t539 (t539.length : Int) x103_4 a0_0 a0_1 l0_2 = some (r1, r2)) ∧ Aside0 (kq ≤ kj40) ∧ Aside0 (Kd.R (Kd.int .i64) 2 w' w.heap.size (fun k_ => some k_ ≠ ((.slice (some ⟨go40, 0, none⟩) y531.length co46) : Value).ownBlock) v513 x8_4) ∧ Aside0 (Kd.R (Kd.int .i64) 2 w' w.heap.size (fun k_ => some k_ ≠ (v513 : Value).ownBlock) (.slice (some ⟨go40, 0, none⟩) y531.length co46) y531) ∧ Aside0 (Kd.R k105 105 w' w.heap.size (fun _ => True) (.slice Ao64 t539.length co64) t539) ∧ Aside0 (w'.heap[gb511]? = some (.cells #[.int .i64 a0_0, .int .i64 a0_1, (.slice A0_2 l0_2.length c0_2)] 27 (0, 0))) ∧ Aside0 (w'.heap[gb519]? = some (.cells #[.int .i64 ((rd_T109 l2 x25_1).f0), .int .i64 ((rd_T109 l2 x25_1).f1), .int .i64 ((rd_T109 l2 x25_1).f2), .int .i64 ((rd_T109 l2 x25_1).f3)] 109 (0, 0))) ∧ Aside0 (Below w.heap.size w w'))
           case atStart => exact ⟨(x8_1), (0), rf_, H', ⟨Nat.le_refl _⟩, ⟨by (try simp only [hl9_40]); refine r_ ?_; exact HO_8.out⟩, ⟨by (try simp only [hl9_40]); refine r_ ?_; exact HO_9.out⟩, ⟨by (try simp only [hl9_40]); refine r_ ?_; exact Kd.R_mono HO541.out (fun _ hk => trivial)⟩, ⟨by (try simp only [hl9_40]); refine bl_ ?_; exact BK511.out⟩, ⟨by (try simp only [hl9_40]); refine bl_ ?_; exact BK519.out⟩, ⟨bs2_ HB.out GE511.out GE519.out⟩⟩
           case round =>
            clear H'
            try clear c4 c4b0 c4b1 c5 c5b0 c5b1 c6 c6b0 c6b1 c7 c7b0 c7b1 c15 c15b0 c16 c16b0 c17 c17b0 c23 c25 c35 c36 c36b0 c37 c37b0 c39 c39b0 c50 c55 c56 c56b0 c57 c57b0
            try clear p40 p518 p523 p530 p533 p534 p535
            try clear q40 q518 q523 q530 q533 q534 q535
            try clear hcz21_0 hcz21_1 hcz21_2 hcz21_3 hcz28_0 hcz28_1 hcz28_2 hcz28_3 hcz29_0 hcz29_1 hcz29_2 hcz31_0 hcz31_1 hcz31_2 hcz31_3 hcz32_0 hcz32_1 hcz32_2 hcz34_0 hcz34_1 hcz34_2 hcz34_3 hcz43_0 hcz43_1 hcz43_2 hcz43_3 hcz45_0 hcz45_1 hcz45_2 hcz45_3
            try clear hfz21_0 hfz21_1 hfz21_2 hfz21_3 hfz28_0 hfz28_1 hfz28_2 hfz28_3 hfz29_0 hfz29_1 hfz29_2 hfz31_0 hfz31_1 hfz31_2 hfz31_3 hfz32_0 hfz32_1 hfz32_2 hfz34_0 hfz34_1 hfz34_2 hfz34_3 hfz43_0 hfz43_1 hfz43_2 hfz43_3 hfz45_0 hfz45_1 hfz45_2 hfz45_3
            try clear hx40_0 hx518_0 hx518_1 hx518_2 hx518_3 hx523_0 hx523_1 hx523_2 hx523_3 hx530_0 hx533_0 hx534_0 hx534_1 hx534_2 hx534_3 hx535_0 hx535_1 hx535_2 hx535_3
            obtain ⟨x8_4, x103_4, rfl, HA, HK4, HO_8, HO_9, HO_101, BK511, BK519, HB⟩ := hrel
            cases gk with
            | zero => exact absurd HA.out (by simp [impl_coverCounts.l1])
            | succ k4 =>
             have H := HA.out
             clear HA
             simp only [impl_coverCounts.l1] at H
             by_cases c65 : x103_4 < (t539.length : Int)
             rotate_left
             · rw [if_neg c65] at H
               have c65b0 := decide_eq_false c65
               (try simp only [hl9_40] at c65b0)
               clear c65
               have H' := mkA H
               clear H
               go_wp2
               (try simp only [← hl9_40])
               go_roundg k4
               case measure => have := HK1.out; have := HJ17.out; have := HJ40.out; have := HK4.out; omega
               case rel => exact ⟨(x8_4), (y531), (wrap64 (x25_1 + 1)), rf_, H', ⟨by have := HK1.out; have := HJ17.out; have := HJ40.out; have := HK4.out; omega⟩, ⟨by (try simp only [hl9_40]); refine r_ ?_; exact HO_8.out⟩, ⟨by (try simp only [hl9_40]); refine r_ ?_; exact HO_9.out⟩, ⟨by (try simp only [hl9_40]); refine bl_ ?_; exact BK511.out⟩, ⟨bs2_ HB.out GE511.out GE519.out⟩⟩
             rw [if_pos c65] at H
             have c65b0 := decide_eq_true c65
             (try simp only [hl9_40] at c65b0)
             clear c65
             revert H
             refine ng_ fun c66 => ng_ fun c67 => ?_
             intro H
             have c66b0 := decide_eq_true c66
             clear c66
             have c67b0 := decide_eq_true c67
             (try simp only [hl9_40] at c67b0)
             clear c67
             by_cases c68 : ((rd_T105 t539 x103_4).f0) ≥ a0_0
             · rw [if_pos c68] at H
               have c68b0 := decide_eq_true c68
               clear c68
               simp only [Option.some.injEq, Prod.mk.injEq] at H
               obtain ⟨rfl, rfl⟩ := H
               obtain ⟨ad542, e542, hx542_0, hx542_1⟩ := at_T105 (Kd.R_reads' HO_101.out).2.2 x103_4 dt_ dt_
               cases e542
               have p542 : (0 ≤ (x103_4 : Int)) = True := eq_true dt_
               have q542 : (x103_4 < (t539.length : Int)) = True := eq_true dt_
               go_wp2_with (first | ((with_reducible refine gt_ 15 ?_); refine bx_ 15 #[.int .i64 0, .int .i64 0] 105 fun gb543 hg w69 hbox hb => ?_; replace HO_8 := mkA (Kd.R_below (r_ HO_8.out) hb); replace HO_9 := mkA (Kd.R_below (r_ HO_9.out) hb); replace HO_101 := mkA (Kd.R_below (Kd.R_elderB (r_ HO_101.out) gb543 (Nat.le_of_eq hg.symm)) hb); have BK543 := mkA (hbox); have GW543 := gs_ hg (bs2_ HB.out GE511.out GE519.out); have GE543 := GW543; replace HB := mkA (below_step (bs2_ HB.out GE511.out GE519.out) hb); have NB511_543 := nl_ hg (bl_ BK511.out); have NB543_511 := nr_ hg (bl_ BK511.out); replace BK511 := mkA (blk_below (bl_ BK511.out) hb); have NB519_543 := nl_ hg (bl_ BK519.out); have NB543_519 := nr_ hg (bl_ BK519.out); replace BK519 := mkA (blk_below (bl_ BK519.out) hb); clear hb hbox hg; have hnb70 := NB543_511.out; have hnc70 := NB511_543.out; have hnb71 := NB543_519.out; have hnc71 := NB519_543.out; obtain ⟨hcz72_0, hcz72_1, hfz72_0, hfz72_1⟩ := z2_ BK543.out; have hnb73 := NB511_519.out; have hnc73 := NB519_511.out; obtain ⟨hcz74_0, hcz74_1, hcz74_2, hfz74_0, hfz74_1, hfz74_2⟩ := z3_ BK511.out))
               go_ret2
               exact ⟨_, re_, by first | exact Kd.R_nil _ _ _ _ _ | exact Kd.N_nil _ _ _ _ _ | exact Kd.V_nil _ _ _ _ _ | exact Kd.Q_nil _ _ _ _ _ | exact Kd.S_nil _ _ _ _ _, bs3_ HB.out GE511.out GE519.out GE543.out⟩
             · rw [if_neg c68] at H
               have c68b0 := decide_eq_false c68
               clear c68
               by_cases c75 : ((rd_T105 t539 x103_4).f1) ≥ a0_1
               · rw [if_pos c75] at H
                 have c75b0 := decide_eq_true c75
                 clear c75
                 simp only [Option.some.injEq, Prod.mk.injEq] at H
                 obtain ⟨rfl, rfl⟩ := H
                 obtain ⟨ad542, e542, hx542_0, hx542_1⟩ := at_T105 (Kd.R_reads' HO_101.out).2.2 x103_4 dt_ dt_
                 cases e542
                 have p542 : (0 ≤ (x103_4 : Int)) = True := eq_true dt_
                 have q542 : (x103_4 < (t539.length : Int)) = True := eq_true dt_
                 go_wp2_with (first | ((with_reducible refine gt_ 15 ?_); refine bx_ 15 #[.int .i64 0, .int .i64 0] 105 fun gb543 hg w76 hbox hb => ?_; replace HO_8 := mkA (Kd.R_below (r_ HO_8.out) hb); replace HO_9 := mkA (Kd.R_below (r_ HO_9.out) hb); replace HO_101 := mkA (Kd.R_below (Kd.R_elderB (r_ HO_101.out) gb543 (Nat.le_of_eq hg.symm)) hb); have BK543 := mkA (hbox); have GW543 := gs_ hg (bs2_ HB.out GE511.out GE519.out); have GE543 := GW543; replace HB := mkA (below_step (bs2_ HB.out GE511.out GE519.out) hb); have NB511_543 := nl_ hg (bl_ BK511.out); have NB543_511 := nr_ hg (bl_ BK511.out); replace BK511 := mkA (blk_below (bl_ BK511.out) hb); have NB519_543 := nl_ hg (bl_ BK519.out); have NB543_519 := nr_ hg (bl_ BK519.out); replace BK519 := mkA (blk_below (bl_ BK519.out) hb); clear hb hbox hg; have hnb77 := NB543_511.out; have hnc77 := NB511_543.out; have hnb78 := NB543_519.out; have hnc78 := NB519_543.out; obtain ⟨hcz79_0, hcz79_1, hfz79_0, hfz79_1⟩ := z2_ BK543.out; have hnb80 := NB511_519.out; have hnc80 := NB519_511.out; obtain ⟨hcz81_0, hcz81_1, hcz81_2, hfz81_0, hfz81_1, hfz81_2⟩ := z3_ BK511.out))
                 go_ret2
                 exact ⟨_, re_, by first | exact Kd.R_nil _ _ _ _ _ | exact Kd.N_nil _ _ _ _ _ | exact Kd.V_nil _ _ _ _ _ | exact Kd.Q_nil _ _ _ _ _ | exact Kd.S_nil _ _ _ _ _, bs3_ HB.out GE511.out GE519.out GE543.out⟩
               · rw [if_neg c75] at H
                 have c75b0 := decide_eq_false c75
                 clear c75
                 obtain ⟨ji82, hji82⟩ : ∃ j_ : Int, (wrap64 ((wrap64 (((rd_T105 t539 x103_4).f1) * a0_0)) + ((rd_T105 t539 x103_4).f0))) = j_ := ⟨_, rfl⟩
                 replace H : (if 0 ≤ (ji82) then (if (ji82) < (x8_4.length : Int) then (impl_coverCounts.l1 k4 l1 (x8_4.set ((ji82) : Int).toNat (wrap64 ((rd x8_4 (ji82)) + 1))) y531 l2 (l2.length : Int) x25_1 t539 (t539.length : Int) (wrap64 (x103_4 + 1)) a0_0 a0_1 l0_2) else (none)) else (none)) = some (r1, r2) := by first | (rw [hji82] at H; exact H) | (simp only [hji82] at H ⊢; exact H)
                 have hji82w : (IntKind.i64.wrap ((wrap64 (((rd_T105 t539 x103_4).f1) * a0_0)) + ((rd_T105 t539 x103_4).f0))) = ji82 := (i64_w _).trans hji82
                 revert H
                 refine ng_ fun c83 => ng_ fun c84 => ?_
                 intro H
                 have c83b0 := decide_eq_true c83
                 clear c83
                 have c84b0 := decide_eq_true c84
                 (try simp only [hl9_40] at c84b0)
                 clear c84
                 obtain ⟨y545, hy545⟩ := gy_ (x8_4.set ((ji82) : Int).toNat (wrap64 ((rd x8_4 (ji82)) + 1)) : List Int)
                 rw [← hy545] at H
                 (try with_reducible replace H := bso_ H)
                 have Ny545 := mkA hy545
                 clear hy545
                 have H' := mkA H
                 clear H
                 obtain ⟨ad542, e542, hx542_0, hx542_1⟩ := at_T105 (Kd.R_reads' HO_101.out).2.2 x103_4 dt_ dt_
                 cases e542
                 have p542 : (0 ≤ (x103_4 : Int)) = True := eq_true dt_
                 have q542 : (x103_4 < (t539.length : Int)) = True := eq_true dt_
                 go_wp2_with (first | ((with_reducible refine gt_ 15 ?_); refine bx_ 15 #[.int .i64 0, .int .i64 0] 105 fun gb543 hg w86 hbox hb => ?_; replace HO_8 := mkA (Kd.R_below (r_ HO_8.out) hb); replace HO_9 := mkA (Kd.R_below (r_ HO_9.out) hb); replace HO_101 := mkA (Kd.R_below (Kd.R_elderB (r_ HO_101.out) gb543 (Nat.le_of_eq hg.symm)) hb); have BK543 := mkA (hbox); have GW543 := gs_ hg (bs2_ HB.out GE511.out GE519.out); have GE543 := GW543; replace HB := mkA (below_step (bs2_ HB.out GE511.out GE519.out) hb); have NB511_543 := nl_ hg (bl_ BK511.out); have NB543_511 := nr_ hg (bl_ BK511.out); replace BK511 := mkA (blk_below (bl_ BK511.out) hb); have NB519_543 := nl_ hg (bl_ BK519.out); have NB543_519 := nr_ hg (bl_ BK519.out); replace BK519 := mkA (blk_below (bl_ BK519.out) hb); clear hb hbox hg; have hnb87 := NB543_511.out; have hnc87 := NB511_543.out; have hnb88 := NB543_519.out; have hnc88 := NB519_543.out; obtain ⟨hcz89_0, hcz89_1, hfz89_0, hfz89_1⟩ := z2_ BK543.out) | ((with_reducible refine gate_store (t := 105) (p := 15) rfl ?_); refine store_event (t := 105) (p := 15) (v := ?vo_w90) (w1 := ((w86.setCell ⟨gb543, 0, none⟩ (.int .i64 ((rd_T105 t539 x103_4).f0))).setCell ⟨gb543, 1, none⟩ (.int .i64 ((rd_T105 t539 x103_4).f1)))) ?hg ?ho ?hn ?hr ?_; (case ho => rfl); (case hg => rfl); (case hn => rfl); (case hr => first | (go_simp; done) | (go_simp; rfl)); intro w90 hw; replace HO_8 : Aside0 (Kd.R (Kd.int .i64) 2 w90 w.heap.size (fun k_ => some k_ ≠ (.slice (some ⟨go40, 0, none⟩) y531.length co46 : Value).ownBlock) v513 x8_4) := ⟨(by rw [hw]; exact (by refine r_ ?_; exact Kd.R_mono (Kd.R_far (p := ⟨gb543, 1, none⟩) (Kd.R_far (p := ⟨gb543, 0, none⟩) (Kd.R_types HO_8.out BK543.out (by decide)) (fun _ hk => hk.2) (.int .i64 ((rd_T105 t539 x103_4).f0))) (fun _ hk => hk.2) (.int .i64 ((rd_T105 t539 x103_4).f1))) (fun _ hk => hk.1)))⟩; replace HO_9 : Aside0 (Kd.R (Kd.int .i64) 2 w90 w.heap.size (fun k_ => some k_ ≠ (v513 : Value).ownBlock) (.slice (some ⟨go40, 0, none⟩) y531.length co46) y531) := ⟨(by rw [hw]; exact (by refine r_ ?_; exact Kd.R_mono (Kd.R_far (p := ⟨gb543, 1, none⟩) (Kd.R_far (p := ⟨gb543, 0, none⟩) (Kd.R_types HO_9.out BK543.out (by decide)) (fun _ hk => hk.2) (.int .i64 ((rd_T105 t539 x103_4).f0))) (fun _ hk => hk.2) (.int .i64 ((rd_T105 t539 x103_4).f1))) (fun _ hk => hk.1)))⟩; replace HO_101 : Aside0 (Kd.R k105 105 w90 w.heap.size (fun k_ => k_ ≠ gb543) (.slice (some ad542) t539.length co64) t539) := ⟨(by rw [hw]; exact (by refine r_ ?_; exact Kd.R_mono (Kd.R_far (p := ⟨gb543, 1, none⟩) (Kd.R_far (p := ⟨gb543, 0, none⟩) (Kd.R_mono HO_101.out (fun k_ hk => (⟨hk, hk.2⟩ : _ ∧ k_ ≠ gb543))) (fun _ hk => hk.2) (.int .i64 ((rd_T105 t539 x103_4).f0))) (fun _ hk => hk.2) (.int .i64 ((rd_T105 t539 x103_4).f1))) (fun _ hk => hk.1.2)))⟩; replace BK511 : Aside0 (w90.heap[gb511]? = some (.cells #[.int .i64 a0_0, .int .i64 a0_1, .slice A0_2 l0_2.length c0_2] 27 (0, 0))) := ⟨(by rw [hw]; exact (by refine bl_ ?_; refine blk_far ?_ NB511_543.out _; refine bl_ ?_; refine blk_far ?_ NB511_543.out _; refine bl_ ?_; exact BK511.out))⟩; replace BK519 : Aside0 (w90.heap[gb519]? = some (.cells #[.int .i64 ((rd_T109 l2 x25_1).f0), .int .i64 ((rd_T109 l2 x25_1).f1), .int .i64 ((rd_T109 l2 x25_1).f2), .int .i64 ((rd_T109 l2 x25_1).f3)] 109 (0, 0))) := ⟨(by rw [hw]; exact (by refine bl_ ?_; refine blk_far ?_ NB519_543.out _; refine bl_ ?_; refine blk_far ?_ NB519_543.out _; refine bl_ ?_; exact BK519.out))⟩; replace BK543 : Aside0 (w90.heap[gb543]? = some (.cells #[.int .i64 ((rd_T105 t539 x103_4).f0), .int .i64 ((rd_T105 t539 x103_4).f1)] 105 (0, 0))) := ⟨(by rw [hw]; exact (by refine bl_ ?_; refine blk_put (cs := #[.int .i64 ((rd_T105 t539 x103_4).f0), .int .i64 0]) ?_ 1 _ rfl; refine bl_ ?_; refine blk_put (cs := #[.int .i64 0, .int .i64 0]) ?_ 0 _ rfl; refine bl_ ?_; exact BK543.out))⟩; replace HB : Aside0 (Below w.heap.size w w90) := ⟨(by rw [hw]; exact (bs3_ HB.out GE511.out GE519.out GE543.out))⟩; clear hw; obtain ⟨hcz91_0, hcz91_1, hfz91_0, hfz91_1⟩ := z2_ BK543.out; have hnb92 := NB511_519.out; have hnc92 := NB519_511.out; obtain ⟨hcz93_0, hcz93_1, hcz93_2, hfz93_0, hfz93_1, hfz93_2⟩ := z3_ BK511.out; obtain ⟨Ao94, co94, eo94⟩ := Kd.R_slice HO_8.out; subst eo94; have p544 : 0 ≤ ((ji82) : Int) := dt_; have q544 : (ji82) < (x8_4.length : Int) := dt_; obtain ⟨ad544, e544, hx544_0⟩ := Kd.at_int (Kd.R_reads' HO_8.out).2.2 (ji82) p544 q544; cases e544; replace p544 := eq_true p544; replace q544 := eq_true q544; have p85 : 0 ≤ ((ji82) : Int) := dt_; have q85 : ((ji82) : Int) < ((x8_4.length : Int) : Int) := dt_; obtain ⟨go85, co85, eo85, gb85, gl85, cl85, HG85⟩ := Kd.R_form HO_8.out (by omega); (first | cases eo85 | (injection eo85 with ea_ en_ ec_; (first | subst ea_ | (injection ea_ with ea_; subst ea_)); subst ec_; clear en_)); have GB85 := mkA gb85; have GG85 := mkA HG85; clear gb85 gl85 HG85; (first | simp only [add_plain] at hx544_0 | skip); obtain ⟨hx85_0, hf85_0⟩ := Kd.R_celln 0 HO_8.out ((ji82) : Int) p85 q85; replace p85 := eq_true p85; replace q85 := eq_true q85; obtain ⟨hy95_, hz95_⟩ := Kd.R_celln 0 HO_8.out ((ji82) : Int) (dt_) (dt_); have HP95 := Kd.R_putg HO_8.out ((ji82) : Int) (wrap64 ((rd x8_4 (ji82)) + 1))) | ((with_reducible refine gate_store (t := 2) (p := 131) rfl ?_); refine store_event (t := 2) (p := 131) (v := ?vo_w96) (w1 := (w90.setCell ⟨go85, ((ji82) : Int).toNat, none⟩ (.int .i64 (wrap64 ((rd x8_4 (ji82)) + 1))))) ?hg ?ho ?hn ?hr ?_; (case ho => rfl); (case hg => rfl); (case hn => rfl); (case hr => first | (go_simp; done) | (go_simp; rfl)); intro w96 hw; have hg : w90.grownBy w96 (some go85) := (by rw [hw]; exact HP95.2); have hp_ : Kd.R (Kd.int .i64) 2 w96 w.heap.size (fun k_ => some k_ ≠ (.slice (some ⟨go40, 0, none⟩) y531.length co46 : Value).ownBlock) (.slice (some ⟨go85, 0, none⟩) x8_4.length co94) y545 := (by rw [hw, Ny545.out]; exact HP95.1); clear HP95; replace HO_9 := mkA (Kd.R_after (v := (.slice (some ⟨go85, 0, none⟩) x8_4.length co94)) (v1 := (.slice (some ⟨go85, 0, none⟩) x8_4.length co94)) (ok := (fun _ => True)) (by refine r_ ?_; exact Kd.R_mono HO_9.out (fun _ hk => ⟨trivial, hk⟩)) hg (.inl rfl)); replace HO_101 := mkA (Kd.R_over' (v := (.slice (some ⟨go85, 0, none⟩) x8_4.length co94)) (r_ HO_101.out) (Kd.R_typed HO_8.out) (by decide) hg); replace BK511 := mkA (blk_grown (g := gb511) (o := .cells #[.int .i64 a0_0, .int .i64 a0_1, .slice A0_2 l0_2.length c0_2] 27 (0, 0)) (bl_ BK511.out) hg (Kd.R_ne HO_8.out BK511.out (by decide))); replace BK519 := mkA (blk_grown (g := gb519) (o := .cells #[.int .i64 ((rd_T109 l2 x25_1).f0), .int .i64 ((rd_T109 l2 x25_1).f1), .int .i64 ((rd_T109 l2 x25_1).f2), .int .i64 ((rd_T109 l2 x25_1).f3)] 109 (0, 0)) (bl_ BK519.out) hg (Kd.R_ne HO_8.out BK519.out (by decide))); replace BK543 := mkA (blk_grown (g := gb543) (o := .cells #[.int .i64 ((rd_T105 t539 x103_4).f0), .int .i64 ((rd_T105 t539 x103_4).f1)] 105 (0, 0)) (bl_ BK543.out) hg (Kd.R_ne HO_8.out BK543.out (by decide))); replace HO_8 := mkA (hp_); replace HB := mkA ((by rw [hw]; exact below_set (HB.out) GB85.out : Below w.heap.size w w96)); clear hg hw hp_))
                 go_roundg k4
                 case measure => have := HK1.out; have := HJ17.out; have := HJ40.out; have := HK4.out; omega
                 case rel => exact ⟨(y545), (wrap64 (x103_4 + 1)), rf_, H', ⟨by have := HK1.out; have := HJ17.out; have := HJ40.out; have := HK4.out; omega⟩, ⟨by (try simp only [hl9_40]); refine r_ ?_; exact HO_8.out⟩, ⟨by (try simp only [hl9_40]); refine r_ ?_; exact Kd.R_mono HO_9.out (fun _ hk => hk.2)⟩, ⟨by (try simp only [hl9_40]); refine r_ ?_; exact Kd.R_mono HO_101.out (fun _ hk => trivial)⟩, ⟨by (try simp only [hl9_40]); refine bl_ ?_; exact BK511.out⟩, ⟨by (try simp only [hl9_40]); refine bl_ ?_; exact BK519.out⟩, ⟨bs3_ HB.out GE511.out GE519.out GE543.out⟩⟩
end Go.Proofs.Ytakagkflgkoiiaa.GFnExactIsCover

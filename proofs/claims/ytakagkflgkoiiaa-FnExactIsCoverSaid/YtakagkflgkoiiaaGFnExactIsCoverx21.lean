-- Written by the session's own program (gen.py) out of the translation's print. Lean checks it.
import Derived.Test.YtakagkflgkoiiaaQ
import Derived.Test.YtakagkflgkoiiaaGFnExactIsCoverx0
import Derived.Test.YtakagkflgkoiiaaGFnExactIsCoverx17
namespace Go.Proofs.Ytakagkflgkoiiaa.GFnExactIsCover
open Go.RowKit Go.Proofs.YtakagkflgkoiiaaW.PrintWords Go.Proofs.YtakagkflgkoiiaaW.PrintLast Go.Proofs.YtakagkflgkoiiaaW.PrintMore
open List renaming setIfInBounds_toArray → sA, set_cons_zero → sB, set_cons_succ → sC
open Go.Proofs.YtakagkflgkoiiaaW.PrintWords.Aside0 renaming mk → mkA
open Go.Proofs.YtakagkflgkoiiaaX (dt_ bc_ p0_ p1_ bl_ cb_ bs0_ bs1_ bs2_ bs3_ bs4_ bs5_ bs6_ bs7_ bs8_ bs9_ bs10_ bs11_ bs12_)
open Go.Proofs.YtakagkflgkoiiaaQ
attribute [local go_sem] max2_int min2_int max_two min_two max_three min_three max_four min_four 
set_option linter.unusedVariables false
set_option linter.unusedSimpArgs false

/-! ### fi115_89: function 100004 -/
mutual
def fi115_89.l0 : Nat → List (S105) → Int → Int → Int → Option ((List (S105)))
  | 0, _, _, _, _ => none
  | k + 1, x0, x1, x2, x8 => if x8 < x2 then (fi115_89.l1 k x0 x1 x2 x8 x8) else (some x0)
def fi115_89.l1 : Nat → List (S105) → Int → Int → Int → Int → Option ((List (S105)))
  | 0, _, _, _, _, _ => none
  | k + 1, x0, x1, x2, x8, x9 => if x9 > x1 then (if 0 ≤ x9 then (if x9 < (x0.length : Int) then (if 0 ≤ (wrap64 (x9 - 1)) then (if (wrap64 (x9 - 1)) < (x0.length : Int) then ((impl_compareCells.f ((rd_T105 x0 x9).f0) ((rd_T105 x0 x9).f1) ((rd_T105 x0 (wrap64 (x9 - 1))).f0) ((rd_T105 x0 (wrap64 (x9 - 1))).f1)).bind fun t446 => (if t446 < 0 then (fi115_89.l1 k ((x0.set (x9 : Int).toNat (⟨(rd_T105 x0 (wrap64 (x9 - 1))).f0, (rd_T105 x0 (wrap64 (x9 - 1))).f1⟩ : S105)).set ((wrap64 (x9 - 1)) : Int).toNat (⟨(rd_T105 x0 x9).f0, (rd_T105 x0 x9).f1⟩ : S105)) x1 x2 x8 (wrap64 (x9 - 1))) else (fi115_89.l0 k x0 x1 x2 (wrap64 (x8 + 1))))) else (none)) else (none)) else (none)) else (none)) else (fi115_89.l0 k x0 x1 x2 (wrap64 (x8 + 1)))
end
def fi115_89.f (k : Nat) (l0 : List (S105)) (a1 : Int) (a2 : Int)  : Option ((List (S105))) := fi115_89.l0 k l0 a1 a2 (wrap64 (a1 + 1))
def fi115_89.T4 : Bool × List (List Nat × List Nat) := (true, [([], []), ([], []), ([0, 1], [0, 1]), ([2], [2]), ([3], [3]), ([3], [3]), ([3], [3]), ([5, 6, 3], [3, 5, 6]), ([7, 3], [3, 7]), ([3], [3]), ([3], [3]), ([10, 3], [3, 10]), ([9, 11, 3], [3, 9, 11]), ([12, 3], [3, 12]), ([4, 8, 13, 3, 3], [3, 4, 8, 13]), ([14, 3], [3, 14]), ([3, 15], [3, 15])])
def fi115_89.B4 : List Nat := [0, 0, 3, 7, 15, 15, 15, 111, 239, 15, 15, 1039, 3599, 7695, 16383, 32767, 65535]
theorem fi115_89.tab4 : rtab .any (opsOf Try.f115 4) = fi115_89.T4 := by kernel_rfl
theorem fi115_89.bits4 : waitsOk fi115_89.T4.2 fi115_89.B4 = true := by kernel_rfl
def fi115_89.T6 : Bool × List (List Nat × List Nat) := (true, [([], []), ([], []), ([], []), ([], []), ([3], [3]), ([], []), ([], []), ([6], [6]), ([5, 7], [5, 7]), ([8], [8]), ([], []), ([], []), ([10, 11], [10, 11]), ([12], [12]), ([0, 1, 0, 1, 5, 6, 7, 8, 9, 13], [0, 1]), ([14, 9, 0, 1, 5, 6, 7, 8, 9, 13], [9, 14]), ([2, 4, 0, 1, 2, 3, 4, 5, 6, 7, 8, 9, 10, 11, 12, 13, 14, 15], [2, 4]), ([16, 13, 15, 0, 1, 2, 3, 4, 5, 6, 7, 8, 9, 10, 11, 12, 13, 14, 15], [13, 16])])
def fi115_89.B6 : List Nat := [0, 0, 0, 0, 8, 0, 0, 64, 224, 480, 0, 0, 3072, 7168, 16355, 32739, 65535, 131071]
theorem fi115_89.tab6 : rtab .any (opsOf Try.f115 6) = fi115_89.T6 := by kernel_rfl
theorem fi115_89.bits6 : waitsOk fi115_89.T6.2 fi115_89.B6 = true := by kernel_rfl
set_option maxHeartbeats 8000000 in
set_option maxRecDepth 100000 in
theorem fi115_89.calls (k : Nat) (P0_ : Nat → Prop) (u9000_ : Value) (l0 : List (S105)) (a1 : Int) (a2 : Int)  (r : List (S105)) (w0 w : World) (hB : Below w0.heap.size w0 w) (ho0 : Kd.R k105 105 w w0.heap.size P0_ u9000_ l0) (h : fi115_89.f k l0 a1 a2 = some r) :
 Calls Try.prog 115 #[u9000_, .int .i64 a1, .int .i64 a2, .func (.func 89) #[] #[]] w fun e w' => e = .returned (.tuple #[]) ∧ Kd.R k105 105 w' w0.heap.size (fun k_ => (P0_ k_ ∨ w.heap.size ≤ k_)) u9000_ r ∧ Below w0.heap.size w0 w' ∧ Kept w w' (fun k_ => P0_ k_) := by
 have hu105 := Try.underlying105
 have HO0 := mkA (show Kd.R k105 105 w w0.heap.size (fun k_ => (P0_ k_ ∨ w.heap.size ≤ k_)) u9000_ l0 from Kd.R_mono ho0 (fun k_ hk => (.inl hk)))
 have HK := mkA (Kept.refl w (fun k_ => P0_ k_))
 have HW0 := mkA hB.size
 have HB := mkA hB
 clear hB
 unfold fi115_89.f at h
 have H := h
 clear h
 have H' := mkA H
 clear H
 go_enter Try.func115, Try.ntmps115
 go_wp2
 go_loopg [8] k (fun kq v8 w' => ∃ (x0_1 : List (S105)) (x8_1 : Int), v8 = .int .i64 x8_1 ∧ Aside0 (fi115_89.l0 kq x0_1 a1 a2 x8_1 = some r) ∧ Aside0 (kq ≤ k) ∧ Aside0 (Kd.R k105 105 w' w0.heap.size (fun k_ => (P0_ k_ ∨ w.heap.size ≤ k_)) u9000_ x0_1) ∧ Aside0 (Kept w w' (fun k_ => P0_ k_)) ∧ Aside0 (Below w0.heap.size w0 w'))
 case atStart => exact ⟨(l0), (wrap64 (a1 + 1)), rf_, H', ⟨Nat.le_refl _⟩, ⟨r_ HO0.out⟩, ⟨by repeat (first | (with_reducible first | exact HK.out | apply Kept.alloc | apply Kept.drewN | apply Kept.drew) | exact HK.out)⟩, ⟨bs0_ HB.out⟩⟩
 case round =>
  clear H'
  obtain ⟨x0_1, x8_1, rfl, HA, HK1, HO_0, HK, HB⟩ := hrel
  cases gk with
  | zero => exact absurd HA.out (by simp [fi115_89.l0])
  | succ k1 =>
   have H := HA.out
   clear HA
   simp only [fi115_89.l0] at H
   by_cases c5 : x8_1 < a2
   rotate_left
   · rw [if_neg c5] at H
     have c5b0 := decide_eq_false c5
     clear c5
     obtain rfl := Option.some.inj H
     go_wp2
     first | go_end0 | ((try simp only [Exit.inBlock, Exit.then]); refine bodyPost_ret (results_none rfl _ _ _) rfl ?_)
     exact ⟨re_, r_ HO_0.out, bs0_ HB.out, by repeat (first | (with_reducible first | exact HK.out | apply Kept.alloc | apply Kept.drewN | apply Kept.drew) | exact HK.out)⟩
   rw [if_pos c5] at H
   have c5b0 := decide_eq_true c5
   clear c5
   have H' := mkA H
   clear H
   go_wp2
   go_loopg [9] k1 (fun kq v9 w' => ∃ (x0_2 : List (S105)) (x9_2 : Int), v9 = .int .i64 x9_2 ∧ Aside0 (fi115_89.l1 kq x0_2 a1 a2 x8_1 x9_2 = some r) ∧ Aside0 (kq ≤ k1) ∧ Aside0 (Kd.R k105 105 w' w0.heap.size (fun k_ => (P0_ k_ ∨ w.heap.size ≤ k_)) u9000_ x0_2) ∧ Aside0 (Kept w w' (fun k_ => P0_ k_)) ∧ Aside0 (Below w0.heap.size w0 w'))
   case atStart => exact ⟨(x0_1), (x8_1), rf_, H', ⟨Nat.le_refl _⟩, ⟨r_ HO_0.out⟩, ⟨by repeat (first | (with_reducible first | exact HK.out | apply Kept.alloc | apply Kept.drewN | apply Kept.drew) | exact HK.out)⟩, ⟨bs0_ HB.out⟩⟩
   case round =>
    clear H'
    try clear c5 c5b0
    obtain ⟨x0_2, x9_2, rfl, HA, HK2, HO_0, HK, HB⟩ := hrel
    cases gk with
    | zero => exact absurd HA.out (by simp [fi115_89.l1])
    | succ k2 =>
     have H := HA.out
     clear HA
     simp only [fi115_89.l1] at H
     by_cases c6 : x9_2 > a1
     rotate_left
     · rw [if_neg c6] at H
       have c6b0 := decide_eq_false c6
       clear c6
       have H' := mkA H
       clear H
       try go_wp2
       replace HO_0 := mkA (Kd.R_drew HO_0.out)
       replace HK := mkA (Kept.drew HK.out)
       replace HB := mkA (below_drew1 HB.out)
       refine st_ 17 (fun w' => True) [] fi115_89.tab4 fi115_89.bits4 trivial fun hHeld HT_ HW_ => ?_
       generalize wr.drew = w25 at HO_0 HK HB hHeld ⊢
       refine a1_ 0 18 (h := a1_ 1 19 (h := a1_ 2 20 (h := a1_ 3 21 (h := a0_ 4 22 (h := a0_ 5 23 (h := a0_ 6 24 (h := a0_ 7 25 (h := a0_ 8 26 (h := a0_ 9 27 (h := a0_ 10 28 (h := a0_ 11 29 (h := a0_ 12 30 (h := a0_ 13 31 (h := a0_ 14 32 (h := a0_ 15 33 (h := a1_ 16 34 (h := ?_)))))))))))))))))
       refine dn_ ?_
       try go_wp2
       go_roundg k2
       case measure => have := HK1.out; have := HK2.out; omega
       case rel => exact ⟨(x0_2), (wrap64 (x8_1 + 1)), rf_, H', ⟨on2_ HK1.out HK2.out⟩, ⟨r_ HO_0.out⟩, ⟨by repeat (first | (with_reducible first | exact HK.out | apply Kept.alloc | apply Kept.drewN | apply Kept.drew) | exact HK.out)⟩, ⟨bs0_ HB.out⟩⟩
     rw [if_pos c6] at H
     have c6b0 := decide_eq_true c6
     clear c6
     revert H
     refine ng_ fun c7 => ng_ fun c8 => ?_
     intro H
     have c7b0 := decide_eq_true c7
     clear c7
     have c8b0 := decide_eq_true c8
     clear c8
     obtain ⟨ji9, hji9⟩ : ∃ j_ : Int, (wrap64 (x9_2 - 1)) = j_ := ⟨_, rfl⟩
     replace H : (if 0 ≤ (ji9) then (if (ji9) < (x0_2.length : Int) then ((impl_compareCells.f ((rd_T105 x0_2 x9_2).f0) ((rd_T105 x0_2 x9_2).f1) ((rd_T105 x0_2 (ji9)).f0) ((rd_T105 x0_2 (ji9)).f1)).bind fun t446 => (if t446 < 0 then (fi115_89.l1 k2 ((x0_2.set (x9_2 : Int).toNat (⟨(rd_T105 x0_2 (ji9)).f0, (rd_T105 x0_2 (ji9)).f1⟩ : S105)).set ((ji9) : Int).toNat (⟨(rd_T105 x0_2 x9_2).f0, (rd_T105 x0_2 x9_2).f1⟩ : S105)) a1 a2 x8_1 ji9) else (fi115_89.l0 k2 x0_2 a1 a2 (wrap64 (x8_1 + 1))))) else (none)) else (none)) = some r := by first | (rw [hji9] at H; exact H) | (simp only [hji9] at H ⊢; exact H)
     have hji9w : (IntKind.i64.wrap (x9_2 - 1)) = ji9 := (i64_w _).trans hji9
     revert H
     refine ng_ fun c10 => ng_ fun c11 => ob_ fun t446 A12 => ?_
     intro H
     have c10b0 := decide_eq_true c10
     clear c10
     have c11b0 := decide_eq_true c11
     clear c11
     by_cases c13 : t446 < 0
     rotate_left
     · rw [if_neg c13] at H
       have c13b0 := decide_eq_false c13
       clear c13
       have H' := mkA H
       clear H
       try go_wp2
       replace HO_0 := mkA (Kd.R_drew HO_0.out)
       replace HK := mkA (Kept.drew HK.out)
       replace HB := mkA (below_drew1 HB.out)
       obtain ⟨Ao23, co23, eo23⟩ := Kd.R_slice HO_0.out
       (first | subst eo23 | (injection eo23 with f1_ f2_ f3_; have f4_ := f1_.symm; have f5_ := f3_.symm; clear f1_ f2_ f3_; subst f4_; subst f5_))
       obtain ⟨ad444, e444, hx444_0, hx444_1⟩ := at_T105 (Kd.R_reads' HO_0.out).2.2 x9_2 dt_ dt_
       cases e444
       have p444 : (0 ≤ (x9_2 : Int)) = True := eq_true dt_
       have q444 : (x9_2 < (x0_2.length : Int)) = True := eq_true dt_
       obtain ⟨ad445, e445, hx445_0, hx445_1⟩ := at_T105 (Kd.R_reads' HO_0.out).2.2 (ji9) dt_ dt_
       obtain rfl : ad444 = ad445 := (by injection e445)
       have p445 : (0 ≤ ((ji9) : Int)) = True := eq_true dt_
       have q445 : ((ji9) < (x0_2.length : Int)) = True := eq_true dt_
       refine st_ 17 (fun w' => C_ hx444_0 w' ∧ C_ hx444_1 w' ∧ C_ hx445_0 w' ∧ C_ hx445_1 w') [] fi115_89.tab4 fi115_89.bits4 sp_ fun hHeld HT_ HW_ => ?_
       generalize wr.drew = w22 at HO_0 HK HB hx444_0 hx444_1 hx445_0 hx445_1 hHeld ⊢
       refine a1_ 0 18 (h := a1_ 1 19 (h := a1_ 2 20 (h := a1_ 3 21 (h := a1_ 4 22 (h := a1_ 5 23 (h := a1_ 6 24 (h := a1_ 7 25 (h := a1_ 9 27 (h := a1_ 10 28 (h := a1_ 11 29 (h := a1_ 12 30 (h := tk_ 8 26 (h := tk_ 13 31 (h := ?_))))))))))))))
       refine on_ 14 32 fun K hK => ?_
       refine Go.Proofs.YtakagkflgkoiiaaX.goesVR_ Try.func89 (by kernel_rfl) rfl #[.agg #[.int .i64 ((rd_T105 x0_2 x9_2).f0), .int .i64 ((rd_T105 x0_2 x9_2).f1)], .agg #[.int .i64 ((rd_T105 x0_2 (ji9)).f0), .int .i64 ((rd_T105 x0_2 (ji9)).f1)]] (by rfl) rfl rfl (by rfl) (by (try simp only [List.map_toArray, List.map_cons, List.map_nil]); first | done | (simp only [hji9]; rfl) | rfl | (simp; done)) ?_
       with_reducible refine (impl_compareCells.calls ((rd_T105 x0_2 x9_2).f0) ((rd_T105 x0_2 x9_2).f1) ((rd_T105 x0_2 (ji9)).f0) ((rd_T105 x0_2 (ji9)).f1) t446 _ A12.out).mono ?_
       rintro e w24 ⟨rfl, hb⟩
       have HS0_ := (hb.cell (World.block_lt_of_cell? _ _ (hHeld.1))).trans (hHeld.1)
       have HS1_ := (hb.cell (World.block_lt_of_cell? _ _ (hHeld.2.1))).trans (hHeld.2.1)
       have HS2_ := (hb.cell (World.block_lt_of_cell? _ _ (hHeld.2.2.1))).trans (hHeld.2.2.1)
       have HS3_ := (hb.cell (World.block_lt_of_cell? _ _ (hHeld.2.2.2))).trans (hHeld.2.2.2)
       refine ⟨_, rfl, ?_⟩
       replace HO_0 := mkA (Kd.R_below (r_ HO_0.out) hb)
       replace HK := mkA (Kept.below (S := (fun k_ => P0_ k_)) (by repeat (first | (with_reducible first | exact HK.out | apply Kept.alloc | apply Kept.drewN | apply Kept.drew) | exact HK.out)) hb)
       replace HB := mkA (below_step (bs0_ HB.out) hb)
       (try clear hb)
       (try clear hb2)
       (try clear hk)
       (try clear hi)
       refine hK.out _ _ ⟨HS0_, HS1_, HS2_, HS3_⟩ (fun hHeld => ?_)
       clear hK K
       refine nm_ 32 ?_
       refine a1_ 15 33 (h := a1_ 16 34 (h := ?_))
       refine dn_ ?_
       try go_wp2
       go_roundg k2
       case measure => have := HK1.out; have := HK2.out; omega
       case rel => exact ⟨(x0_2), (wrap64 (x8_1 + 1)), rf_, H', ⟨on2_ HK1.out HK2.out⟩, ⟨r_ HO_0.out⟩, ⟨by repeat (first | (with_reducible first | exact HK.out | apply Kept.alloc | apply Kept.drewN | apply Kept.drew) | exact HK.out)⟩, ⟨bs0_ HB.out⟩⟩
     rw [if_pos c13] at H
     have c13b0 := decide_eq_true c13
     clear c13
     obtain ⟨y449, hy449⟩ := gy_ (x0_2.set (x9_2 : Int).toNat (⟨(rd_T105 x0_2 (ji9)).f0, (rd_T105 x0_2 (ji9)).f1⟩ : S105) : List (S105))
     rw [← hy449] at H
     (try with_reducible replace H := bso_ H)
     have Ny449 := mkA hy449
     clear hy449
     obtain ⟨y450, hy450⟩ := gy_ (y449.set ((ji9) : Int).toNat (⟨(rd_T105 x0_2 x9_2).f0, (rd_T105 x0_2 x9_2).f1⟩ : S105) : List (S105))
     rw [← hy450] at H
     (try with_reducible replace H := bso_ H)
     have Ny450 := mkA hy450
     clear hy450
     have H' := mkA H
     clear H
     try go_wp2
     replace HO_0 := mkA (Kd.R_drew HO_0.out)
     replace HK := mkA (Kept.drew HK.out)
     replace HB := mkA (below_drew1 HB.out)
     obtain ⟨Ao17, co17, eo17⟩ := Kd.R_slice HO_0.out
     (first | subst eo17 | (injection eo17 with f1_ f2_ f3_; have f4_ := f1_.symm; have f5_ := f3_.symm; clear f1_ f2_ f3_; subst f4_; subst f5_))
     obtain ⟨ad444, e444, hx444_0, hx444_1⟩ := at_T105 (Kd.R_reads' HO_0.out).2.2 x9_2 dt_ dt_
     cases e444
     have p444 : (0 ≤ (x9_2 : Int)) = True := eq_true dt_
     have q444 : (x9_2 < (x0_2.length : Int)) = True := eq_true dt_
     obtain ⟨ad445, e445, hx445_0, hx445_1⟩ := at_T105 (Kd.R_reads' HO_0.out).2.2 (ji9) dt_ dt_
     obtain rfl : ad444 = ad445 := (by injection e445)
     have p445 : (0 ≤ ((ji9) : Int)) = True := eq_true dt_
     have q445 : ((ji9) < (x0_2.length : Int)) = True := eq_true dt_
     refine st_ 17 (fun w' => C_ hx444_0 w' ∧ C_ hx444_1 w' ∧ C_ hx445_0 w' ∧ C_ hx445_1 w') [] fi115_89.tab4 fi115_89.bits4 sp_ fun hHeld HT_ HW_ => ?_
     generalize wr.drew = w16 at HO_0 HK HB hx444_0 hx444_1 hx445_0 hx445_1 hHeld ⊢
     refine a1_ 0 18 (h := a1_ 1 19 (h := a1_ 2 20 (h := a1_ 3 21 (h := a1_ 4 22 (h := a1_ 5 23 (h := a1_ 6 24 (h := a1_ 7 25 (h := a1_ 9 27 (h := a1_ 10 28 (h := a1_ 11 29 (h := a1_ 12 30 (h := tk_ 8 26 (h := tk_ 13 31 (h := ?_))))))))))))))
     refine on_ 14 32 fun K hK => ?_
     refine Go.Proofs.YtakagkflgkoiiaaX.goesVR_ Try.func89 (by kernel_rfl) rfl #[.agg #[.int .i64 ((rd_T105 x0_2 x9_2).f0), .int .i64 ((rd_T105 x0_2 x9_2).f1)], .agg #[.int .i64 ((rd_T105 x0_2 (ji9)).f0), .int .i64 ((rd_T105 x0_2 (ji9)).f1)]] (by rfl) rfl rfl (by rfl) (by (try simp only [List.map_toArray, List.map_cons, List.map_nil]); first | done | (simp only [hji9]; rfl) | rfl | (simp; done)) ?_
     with_reducible refine (impl_compareCells.calls ((rd_T105 x0_2 x9_2).f0) ((rd_T105 x0_2 x9_2).f1) ((rd_T105 x0_2 (ji9)).f0) ((rd_T105 x0_2 (ji9)).f1) t446 _ A12.out).mono ?_
     rintro e w18 ⟨rfl, hb⟩
     have HS0_ := (hb.cell (World.block_lt_of_cell? _ _ (hHeld.1))).trans (hHeld.1)
     have HS1_ := (hb.cell (World.block_lt_of_cell? _ _ (hHeld.2.1))).trans (hHeld.2.1)
     have HS2_ := (hb.cell (World.block_lt_of_cell? _ _ (hHeld.2.2.1))).trans (hHeld.2.2.1)
     have HS3_ := (hb.cell (World.block_lt_of_cell? _ _ (hHeld.2.2.2))).trans (hHeld.2.2.2)
     refine ⟨_, rfl, ?_⟩
     replace HO_0 := mkA (Kd.R_below (r_ HO_0.out) hb)
     replace HK := mkA (Kept.below (S := (fun k_ => P0_ k_)) (by repeat (first | (with_reducible first | exact HK.out | apply Kept.alloc | apply Kept.drewN | apply Kept.drew) | exact HK.out)) hb)
     replace HB := mkA (below_step (bs0_ HB.out) hb)
     (try clear hb)
     (try clear hb2)
     (try clear hk)
     (try clear hi)
     refine hK.out _ _ ⟨HS0_, HS1_, HS2_, HS3_⟩ (fun hHeld => ?_)
     clear hK K
     refine nm_ 32 ?_
     refine a1_ 15 33 (h := a1_ 16 34 (h := ?_))
     refine dn_ ?_
     try go_wp2
     replace HO_0 := mkA (Kd.R_drew HO_0.out)
     replace HK := mkA (Kept.drew HK.out)
     replace HB := mkA (below_drew1 HB.out)
     obtain ⟨ad447, e447, hx447_0, hx447_1⟩ := at_T105 (Kd.R_reads' HO_0.out).2.2 (ji9) dt_ dt_
     obtain rfl : ad444 = ad447 := (by injection e447)
     have p447 : (0 ≤ ((ji9) : Int)) = True := eq_true dt_
     have q447 : ((ji9) < (x0_2.length : Int)) = True := eq_true dt_
     obtain ⟨ad448, e448, hx448_0, hx448_1⟩ := at_T105 (Kd.R_reads' HO_0.out).2.2 x9_2 dt_ dt_
     obtain rfl : ad444 = ad448 := (by injection e448)
     have p448 : (0 ≤ (x9_2 : Int)) = True := eq_true dt_
     have q448 : (x9_2 < (x0_2.length : Int)) = True := eq_true dt_
     have p14 : 0 ≤ (x9_2 : Int) := dt_
     have q14 : (x9_2 : Int) < ((x0_2.length : Int) : Int) := dt_
     obtain ⟨go14, co14, eo14, gb14, gl14, cl14, HG14⟩ := Kd.R_form HO_0.out (by omega)
     (first | cases eo14 | (injection eo14 with ea_ en_ ec_; (first | subst ea_ | (injection ea_ with ea_; subst ea_)); subst ec_; clear en_))
     have GB14 := mkA gb14
     have GG14 := mkA HG14
     clear gb14 gl14 HG14
     have HMgo14 := mkA (show (P0_ go14 ∨ w.heap.size ≤ go14) from (HO_0.out.1 _ rfl))
     (first | simp only [add_plain] at hx444_0 | skip)
     (first | simp only [add_plain] at hx444_1 | skip)
     (first | simp only [add_plain] at hx445_0 | skip)
     (first | simp only [add_plain] at hx445_1 | skip)
     (first | simp only [add_plain] at hx447_0 | skip)
     (first | simp only [add_plain] at hx447_1 | skip)
     (first | simp only [add_plain] at hx448_0 | skip)
     (first | simp only [add_plain] at hx448_1 | skip)
     obtain ⟨ce14, hcl14, hM14, hcc14, hfr14⟩ := Kd.R_elem HO_0.out z105 (x9_2 : Int) p14 q14
     obtain rfl := k105_openM hM14
     have hx14_0 : World.cell? _ ⟨go14, (x9_2 : Int).toNat * 2, none⟩ = some (.int .i64 ((rd_T105 x0_2 x9_2).f0)) := hcc14 0 _ rfl
     have hx14_1 : World.cell? _ ⟨go14, (x9_2 : Int).toNat * 2 + 1, none⟩ = some (.int .i64 ((rd_T105 x0_2 x9_2).f1)) := hcc14 1 _ rfl
     have hf14_0 : World.frozen? _ ⟨go14, (x9_2 : Int).toNat * 2, none⟩ = false := hfr14 0
     have hf14_1 : World.frozen? _ ⟨go14, (x9_2 : Int).toNat * 2 + 1, none⟩ = false := hfr14 1
     clear hcl14 hcc14 hfr14 hM14
     replace p14 := eq_true p14
     replace q14 := eq_true q14
     obtain ⟨ce20, hcl20, hM20, hcc20, hfr20⟩ := Kd.R_elem HO_0.out z105 (x9_2 : Int) (dt_) (by have h_ : (x9_2 : Int) < ((x0_2.length : Int) : Int) := dt_; first | exact h_ | (have e_ := (Kd.R_reads' HO_0.out).1; omega) | simpa using h_)
     obtain rfl := k105_openM hM20
     have HP20 := (Kd.R_seg HO_0.out (x9_2 : Int) (dt_) (by have h_ : (x9_2 : Int) < ((x0_2.length : Int) : Int) := dt_; first | exact h_ | (have e_ := (Kd.R_reads' HO_0.out).1; omega) | simpa using h_) (seg := [.int .i64 ((rd_T105 x0_2 (ji9)).f0), .int .i64 ((rd_T105 x0_2 (ji9)).f1)]) (j := 0) hcl20 hcc20 (show 2 ≤ 2 from by decide) (x' := (⟨(rd_T105 x0_2 (ji9)).f0, (rd_T105 x0_2 (ji9)).f1⟩ : S105)) (k105_mkM _ _ _ (⟨(rd_T105 x0_2 (ji9)).f0, (rd_T105 x0_2 (ji9)).f1⟩ : S105) ) (fun _ hk => hk)).1
     rw [← Ny449.out] at HP20
     have HQ20 := mkA HP20
     clear hcl20 hcc20 hfr20 hM20 HP20
     have p15 : 0 ≤ ((ji9) : Int) := dt_
     have q15 : ((ji9) : Int) < ((x0_2.length : Int) : Int) := dt_
     obtain ⟨ce15, hcl15, hM15, hcc15, hfr15⟩ := Kd.R_elem HQ20.out z105 ((ji9) : Int) p15 q15
     obtain rfl := k105_openM hM15
     have hx15_0 : World.cell? _ ⟨go14, ((ji9) : Int).toNat * 2, none⟩ = some (.int .i64 ((rd_T105 y449 (ji9)).f0)) := hcc15 0 _ rfl
     have hx15_1 : World.cell? _ ⟨go14, ((ji9) : Int).toNat * 2 + 1, none⟩ = some (.int .i64 ((rd_T105 y449 (ji9)).f1)) := hcc15 1 _ rfl
     have hf15_0 : World.frozen? _ ⟨go14, ((ji9) : Int).toNat * 2, none⟩ = false := hfr15 0
     have hf15_1 : World.frozen? _ ⟨go14, ((ji9) : Int).toNat * 2 + 1, none⟩ = false := hfr15 1
     clear hcl15 hcc15 hfr15 hM15
     replace p15 := eq_true p15
     replace q15 := eq_true q15
     obtain ⟨ce21, hcl21, hM21, hcc21, hfr21⟩ := Kd.R_elem HQ20.out z105 ((ji9) : Int) (dt_) (by have h_ : ((ji9) : Int) < ((x0_2.length : Int) : Int) := dt_; first | exact h_ | (have e_ := (Kd.R_reads' HO_0.out).1; omega) | simpa using h_)
     obtain rfl := k105_openM hM21
     have HP21 := (Kd.R_seg HQ20.out ((ji9) : Int) (dt_) (by have h_ : ((ji9) : Int) < ((x0_2.length : Int) : Int) := dt_; first | exact h_ | (have e_ := (Kd.R_reads' HO_0.out).1; omega) | simpa using h_) (seg := [.int .i64 ((rd_T105 x0_2 x9_2).f0), .int .i64 ((rd_T105 x0_2 x9_2).f1)]) (j := 0) hcl21 hcc21 (show 2 ≤ 2 from by decide) (x' := (⟨(rd_T105 x0_2 x9_2).f0, (rd_T105 x0_2 x9_2).f1⟩ : S105)) (k105_mkM _ _ _ (⟨(rd_T105 x0_2 x9_2).f0, (rd_T105 x0_2 x9_2).f1⟩ : S105) ) (fun _ hk => hk)).1
     rw [← Ny450.out] at HP21
     have HQ21 := mkA HP21
     clear hcl21 hcc21 hfr21 hM21 HP21
     have hu_ : ¬ (x9_2 = ji9) := by (have h_ := hji9; unfold Go.RowKit.wrap64 at h_; omega)
     have hp1_ : 0 ≤ (x9_2 : Int) := dt_
     have hp2_ : 0 ≤ (ji9 : Int) := dt_
     have hn1_ : ¬ (x9_2.toNat = ji9.toNat) := by omega
     have hn2_ : ¬ (ji9.toNat = x9_2.toNat) := by omega
     have hn00_ : ¬ (x9_2.toNat * 2 = ji9.toNat * 2) := by omega
     have ho00_ : ¬ (ji9.toNat * 2 = x9_2.toNat * 2) := by omega
     have hn01_ : ¬ (x9_2.toNat * 2 = ji9.toNat * 2 + 1) := by omega
     have ho01_ : ¬ (ji9.toNat * 2 + 1 = x9_2.toNat * 2) := by omega
     have hn10_ : ¬ (x9_2.toNat * 2 + 1 = ji9.toNat * 2) := by omega
     have ho10_ : ¬ (ji9.toNat * 2 = x9_2.toNat * 2 + 1) := by omega
     have hn11_ : ¬ (x9_2.toNat * 2 + 1 = ji9.toNat * 2 + 1) := by omega
     have ho11_ : ¬ (ji9.toNat * 2 + 1 = x9_2.toNat * 2 + 1) := by omega
     clear hp1_ hp2_ hu_
     refine st_ 18 (fun w' => C_ hx447_0 w' ∧ C_ hx447_1 w' ∧ C_ hx448_0 w' ∧ C_ hx448_1 w') [15, 17] fi115_89.tab6 fi115_89.bits6 sp_ fun hHeld HT_ HW_ => ?_
     generalize w18.drew = w19 at HO_0 HK HB GG14 HQ20 HQ21 hf14_0 hf14_1 hf15_0 hf15_1 hx14_0 hx14_1 hx15_0 hx15_1 hx444_0 hx444_1 hx445_0 hx445_1 hx447_0 hx447_1 hx448_0 hx448_1 hHeld ⊢
     obtain ⟨ceh_, _, _, _, hfh_⟩ := Kd.R_elem HO_0.out z105 ((ji9) : Int) dt_ dt_
     have hfh0_ : w19.frozen? ⟨go14, ji9.toNat * 2, none⟩ = false := hfh_ 0
     have hfh1_ : w19.frozen? ⟨go14, ji9.toNat * 2 + 1, none⟩ = false := hfh_ 1
     clear hfh_
     refine a1_ 0 37 (h := a1_ 1 38 (h := a1_ 2 39 (h := a1_ 3 40 (h := a1_ 4 41 (h := a1_ 5 42 (h := a1_ 6 43 (h := a1_ 7 44 (h := a1_ 8 45 (h := a1_ 10 47 (h := a1_ 11 48 (h := a1_ 12 49 (h := tk_ 9 46 (h := tk_ 13 50 (h := a1_ 14 51 (h := ?_)))))))))))))))
     refine last_ (i := 15) (N := none) (fA 18 65535) rfl rfl (one_of HT_.out (by kernel_rfl)) (by decide) (fun K hK => ?_)
     refine skip_ (w1 := ?_) (by rfl) rfl ?_ ?_
     rotate_left
     · go_simp
       rfl
     refine hK.out _ _ ?_
     clear hK K
     refine a1_ 16 52 (h := ?_)
     refine last_ (i := 17) (N := none) (fA 18 262143) rfl rfl (one_of HT_.out (by kernel_rfl)) (by decide) (fun K hK => ?_)
     refine skip_ (w1 := ?_) (by rfl) rfl ?_ ?_
     rotate_left
     · go_simp
       rfl
     refine hK.out _ _ ?_
     clear hK K
     refine dn_ ?_
     try go_wp2
     go_roundg k2
     case measure => have := HK1.out; have := HK2.out; omega
     case rel => exact ⟨(y450), (ji9), (by first | rfl | (simp; done) | (simp only [← hji9] <;> (first | rfl | simp)) | (simp [*]; done)), H', ⟨on2_ HK1.out HK2.out⟩, ⟨r_ HQ21.out⟩, ⟨by repeat (first | (with_reducible first | exact HK.out | apply Kept.alloc | apply Kept.drewN | apply Kept.drew | refine Kept.setCell ?_ HMgo14.out _ | refine Kept.setCell ?_ HMgo14.out _ | refine Kept.setCell ?_ HMgo14.out _ | refine Kept.setCell ?_ HMgo14.out _) | exact HK.out)⟩, ⟨by repeat (first | (with_reducible first | exact HB.out | apply below_alloc | apply pw_below_drewN | apply below_drew1 | refine below_set ?_ GB14.out | refine below_set ?_ GB14.out | refine below_set ?_ GB14.out | refine below_set ?_ GB14.out) | exact HB.out)⟩⟩
-- NOT PRINTED: function 100006 (fi125_89)

-- NOT PRINTED: function 100005 (fi116_89)

-- NOT PRINTED: function 100007 (fi117_89)

-- NOT PRINTED: function 100011 (fi130_89)

-- NOT PRINTED: function 100010 (fi129_89)

-- NOT PRINTED: function 100009 (fi128_89)

-- NOT PRINTED: function 100008 (fi118_89)

-- NOT PRINTED: function 100012 (fi119_89)

-- NOT PRINTED: function 100013 (fi120_89)

-- NOT PRINTED: function 100014 (fi121_89)

-- NOT PRINTED: function 100015 (fi122_89)

/-! ### fi112_89: function 100003 -/
def fi112_89.l0 : Nat → List (S105) → Int → Int → Int → Bool → Option ((List (S105)))
  | 0, _, _, _, _, _ => none
  | k + 1, x0, x1, x2, x3, x10 => if (wrap64 (x2 - x1)) ≤ 12 then ((fi115_89.f k x0 x1 x2).bind fun t451 => (some t451)) else (if x3 = 0 then (none) else (if x10 = true then (none) else (none)))
def fi112_89.f (k : Nat) (l0 : List (S105)) (a1 : Int) (a2 : Int) (a3 : Int)  : Option ((List (S105))) := fi112_89.l0 k l0 a1 a2 a3 true
set_option maxHeartbeats 8000000 in
set_option maxRecDepth 100000 in
theorem fi112_89.calls (k : Nat) (P0_ : Nat → Prop) (u9000_ : Value) (l0 : List (S105)) (a1 : Int) (a2 : Int) (a3 : Int)  (r : List (S105)) (w0 w : World) (hB : Below w0.heap.size w0 w) (ho0 : Kd.R k105 105 w w0.heap.size P0_ u9000_ l0) (h : fi112_89.f k l0 a1 a2 a3 = some r) :
 Calls Try.prog 112 #[u9000_, .int .i64 a1, .int .i64 a2, .int .i64 a3, .func (.func 89) #[] #[]] w fun e w' => e = .returned (.tuple #[]) ∧ Kd.R k105 105 w' w0.heap.size (fun k_ => (P0_ k_ ∨ w.heap.size ≤ k_)) u9000_ r ∧ Below w0.heap.size w0 w' ∧ Kept w w' (fun k_ => P0_ k_) := by
 have hu105 := Try.underlying105
 have HO0 := mkA (show Kd.R k105 105 w w0.heap.size (fun k_ => (P0_ k_ ∨ w.heap.size ≤ k_)) u9000_ l0 from Kd.R_mono ho0 (fun k_ hk => (.inl hk)))
 have HK := mkA (Kept.refl w (fun k_ => P0_ k_))
 have HW0 := mkA hB.size
 have HB := mkA hB
 clear hB
 unfold fi112_89.f at h
 have H := h
 clear h
 have H' := mkA H
 clear H
 go_enter Try.func112, Try.ntmps112
 go_wp2
 go_loopg [1, 2, 3, 10] k (fun kq v1 v2 v3 v10 w' => ∃ (x1_1 : Int) (x2_1 : Int) (x3_1 : Int) (x10_1 : Bool), v1 = .int .i64 x1_1 ∧ v2 = .int .i64 x2_1 ∧ v3 = .int .i64 x3_1 ∧ v10 = .bool x10_1 ∧ Aside0 (fi112_89.l0 kq l0 x1_1 x2_1 x3_1 x10_1 = some r) ∧ Aside0 (kq ≤ k) ∧ Aside0 (Kd.R k105 105 w' w0.heap.size (fun k_ => (P0_ k_ ∨ w.heap.size ≤ k_)) u9000_ l0) ∧ Aside0 (Kept w w' (fun k_ => P0_ k_)) ∧ Aside0 (Below w0.heap.size w0 w'))
 case atStart => exact ⟨(a1), (a2), (a3), (true), rf_, rf_, rf_, rf_, H', ⟨Nat.le_refl _⟩, ⟨r_ HO0.out⟩, ⟨by repeat (first | (with_reducible first | exact HK.out | apply Kept.alloc | apply Kept.drewN | apply Kept.drew) | exact HK.out)⟩, ⟨bs0_ HB.out⟩⟩
 case round =>
  clear H'
  obtain ⟨x1_1, x2_1, x3_1, x10_1, rfl, rfl, rfl, rfl, HA, HK1, HO_0, HK, HB⟩ := hrel
  cases gk with
  | zero => exact absurd HA.out (by simp [fi112_89.l0])
  | succ k1 =>
   have H := HA.out
   clear HA
   simp only [fi112_89.l0] at H
   by_cases c6 : (wrap64 (x2_1 - x1_1)) ≤ 12
   · rw [if_pos c6] at H
     have c6b0 := decide_eq_true c6
     clear c6
     revert H
     refine ob_ fun t451 A7 => ?_
     intro H
     obtain rfl := Option.some.inj H
     obtain ⟨Ao8, co8, eo8⟩ := Kd.R_slice HO_0.out
     subst eo8
     go_wp2_with (first | ((with_reducible refine gk_ 115 ?_); refine gl_ (some 30) Try.func115 #[.slice Ao8 l0.length co8, .int .i64 x1_1, .int .i64 x2_1, .func (.func 89) #[] #[]] ?_; (with_reducible refine (fi115_89.calls k1 (fun k_ => some k_ = (.slice Ao8 l0.length co8 : Value).ownBlock) (.slice Ao8 l0.length co8) l0 x1_1 x2_1  t451 w0 _ ?side1 ?side2 A7.out).mono ?_); (case side1 => repeat (first | (with_reducible first | exact HB.out | apply below_alloc | apply pw_below_drewN | apply below_drew1) | exact HB.out)); (case side2 => exact Kd.R_tight rfl HO_0.out); rintro e w9 ⟨rfl, hy0, hb, hkp⟩; refine ⟨_, rfl, ?_⟩; replace HK := mkA (Kept.then_ (S := (fun k_ => P0_ k_)) (by repeat (first | (with_reducible first | exact HK.out | apply Kept.alloc | apply Kept.drewN | apply Kept.drew) | exact HK.out)) hkp (fun k_ hs_ => (fun e_ => (HO_0.out.1 k_ e_.symm)) hs_)); replace HO_0 := mkA (Kd.R_reok rfl hy0 (fun k_ e_ => HO_0.out.1 k_ e_)); replace HB := mkA (hb); (try clear hb); (try clear hkp); (try clear hy0)))
     first | go_end0 | ((try simp only [Exit.inBlock, Exit.then]); refine bodyPost_ret (results_none rfl _ _ _) rfl ?_)
     exact ⟨re_, r_ HO_0.out, bs0_ HB.out, by repeat (first | (with_reducible first | exact HK.out | apply Kept.alloc | apply Kept.drewN | apply Kept.drew) | exact HK.out)⟩
   · rw [if_neg c6] at H
     have c6b0 := decide_eq_false c6
     clear c6
     by_cases c10 : x3_1 = 0
     · rw [if_pos c10] at H
       exact absurd H (by simp)
     · rw [if_neg c10] at H
       have c10b0 : (x3_1 == 0) = false := beq_eq_false_iff_ne.mpr c10
       have c10b1 : (x3_1 != 0) = true := bne_iff_ne.mpr c10
       by_cases c11 : x10_1 = true
       · subst c11
         rw [if_pos rfl] at H
         exact absurd H (by simp)
       · replace c11 := Bool.eq_false_iff.mpr c11
         subst c11
         rw [if_neg Bool.false_ne_true] at H
         exact absurd H (by simp)
/-! ### fi102_89: function 100002 -/
def fi102_89.f (k : Nat) (l0 : List (S105))  : Option ((List (S105))) := (Go.Proofs.YtakagkflgkoiiaaX.bits_Len.f (IntKind.u64.wrap ((l0.length : Int)))).bind fun t452 => ((fi112_89.f k l0 0 (l0.length : Int) t452).bind fun t453 => (some t453))
set_option maxHeartbeats 8000000 in
set_option maxRecDepth 100000 in
theorem fi102_89.calls (k : Nat) (P0_ : Nat → Prop) (u9000_ : Value) (l0 : List (S105))  (r : List (S105)) (w0 w : World) (hB : Below w0.heap.size w0 w) (ho0 : Kd.R k105 105 w w0.heap.size P0_ u9000_ l0) (h : fi102_89.f k l0 = some r) :
 Calls Try.prog 102 #[u9000_, .func (.func 89) #[] #[]] w fun e w' => e = .returned (.tuple #[]) ∧ Kd.R k105 105 w' w0.heap.size (fun k_ => (P0_ k_ ∨ w.heap.size ≤ k_)) u9000_ r ∧ Below w0.heap.size w0 w' ∧ Kept w w' (fun k_ => P0_ k_) := by
 have HO0 := mkA (show Kd.R k105 105 w w0.heap.size (fun k_ => (P0_ k_ ∨ w.heap.size ≤ k_)) u9000_ l0 from Kd.R_mono ho0 (fun k_ hk => (.inl hk)))
 have HK := mkA (Kept.refl w (fun k_ => P0_ k_))
 have HW0 := mkA hB.size
 have HB := mkA hB
 clear hB
 unfold fi102_89.f at h
 have H := h
 clear h
 revert H
 refine ob_ fun t452 A3 => ob_ fun t453 A4 => ?_
 intro H
 obtain rfl := Option.some.inj H
 obtain ⟨Ao5, co5, eo5⟩ := Kd.R_slice HO0.out
 subst eo5
 go_enter Try.func102, Try.ntmps102
 go_wp2_with (first | ((with_reducible refine gk_ 113 ?_); refine gl_ (some 11) Try.func113 #[.int .u64 (IntKind.u64.wrap ((l0.length : Int)))] ?_; (with_reducible refine (Go.Proofs.YtakagkflgkoiiaaX.bits_Len.calls (IntKind.u64.wrap ((l0.length : Int))) t452 _ A3.out).mono ?_); rintro e w' ⟨rfl, ⟨nd, rfl⟩⟩; refine ⟨_, rfl, ?_⟩) | ((with_reducible refine gk_ 112 ?_); refine gl_ (some 13) Try.func112 #[.slice Ao5 l0.length co5, .int .i64 0, .int .i64 (l0.length : Int), .int .i64 t452, .func (.func 89) #[] #[]] ?_; (with_reducible refine (fi112_89.calls k (fun k_ => some k_ = (.slice Ao5 l0.length co5 : Value).ownBlock) (.slice Ao5 l0.length co5) l0 0 (l0.length : Int) t452  t453 w0 _ ?side1 ?side2 A4.out).mono ?_); (case side1 => repeat (first | (with_reducible first | exact HB.out | apply below_alloc | apply pw_below_drewN | apply below_drew1) | exact HB.out)); (case side2 => exact Kd.R_tight rfl HO0.out); rintro e w6 ⟨rfl, hy0, hb, hkp⟩; refine ⟨_, rfl, ?_⟩; replace HK := mkA (Kept.then_ (S := (fun k_ => P0_ k_)) (by repeat (first | (with_reducible first | exact HK.out | apply Kept.alloc | apply Kept.drewN | apply Kept.drew) | exact HK.out)) hkp (fun k_ hs_ => (fun e_ => (HO0.out.1 k_ e_.symm)) hs_)); replace HO0 := mkA (Kd.R_reok rfl hy0 (fun k_ e_ => HO0.out.1 k_ e_)); replace HB := mkA (hb); (try clear hb); (try clear hkp); (try clear hy0)))
 first | go_end0 | ((try simp only [Exit.inBlock, Exit.then]); refine bodyPost_ret (results_none rfl _ _ _) rfl ?_)
 exact ⟨re_, r_ HO0.out, bs0_ HB.out, by repeat (first | (with_reducible first | exact HK.out | apply Kept.alloc | apply Kept.drewN | apply Kept.drew) | exact HK.out)⟩
end Go.Proofs.Ytakagkflgkoiiaa.GFnExactIsCover

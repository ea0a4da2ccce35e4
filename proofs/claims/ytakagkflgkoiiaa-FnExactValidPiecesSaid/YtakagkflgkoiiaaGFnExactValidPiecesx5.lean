-- Written by the session's own program (gen.py) out of the translation's print. Lean checks it.
import Derived.Test.YtakagkflgkoiiaaGFnExactValidPiecesx0
import Derived.Test.YtakagkflgkoiiaaGFnExactValidPiecesx4
namespace Go.Proofs.Ytakagkflgkoiiaa.GFnExactValidPieces
open Go.RowKit Go.Proofs.YtakagkflgkoiiaaW.PrintWords Go.Proofs.YtakagkflgkoiiaaW.PrintLast Go.Proofs.YtakagkflgkoiiaaW.PrintMore
attribute [local go_sem] max2_int min2_int max_two min_two max_three min_three max_four min_four   -- for this text's walks alone
set_option linter.unusedVariables false
set_option linter.unusedSimpArgs false

/-! ### spec_l19Pieces: function 69 -/
def spec_l19Pieces.l0 : Nat → List (S53) → Int → Option (Bool)
  | 0, _, _ => none
  | k + 1, x0, x3 => if x3 < (x0.length : Int) then (if 0 ≤ x3 then ((spec_l19Piece.f k [rd_T53 x0 x3]).bind fun t150 => (if t150 = true then (if x3 > 0 then (if 0 ≤ (wrap64 (x3 - 1)) then (if (wrap64 (x3 - 1)) < (x0.length : Int) then (if ((Op.bytesLess (((rd_T53 x0 (wrap64 (x3 - 1))).f0).toList) (((rd_T53 x0 x3).f0).toList)) = true) then (spec_l19Pieces.l0 k x0 (wrap64 (x3 + 1))) else (some false)) else (none)) else (none)) else (spec_l19Pieces.l0 k x0 (wrap64 (x3 + 1)))) else (some false))) else (none)) else (some (decide ((x0.length : Int) ≤ 8)))
def spec_l19Pieces.f (k : Nat) (l0 : List (S53)) : Option (Bool) := spec_l19Pieces.l0 k l0 0
theorem spec_l19Pieces.mono_l : ∀ k, (∀ y0 y1, LeO (spec_l19Pieces.l0 k y0 y1) (spec_l19Pieces.l0 (k + 1) y0 y1))
  | 0 => fun _ _ r h => by simp [spec_l19Pieces.l0] at h
  | k + 1 => by
    have ih0 := spec_l19Pieces.mono_l k
    · intro y0 y1
      unfold spec_l19Pieces.l0
      repeat' first
      | (with_reducible exact ih0 _ _)
      | (with_reducible exact spec_l19Piece.mono _ _)
      | (with_reducible exact LeO.refl _)
      | (with_reducible exact LeO.none _)
      | (with_reducible refine LeO.ite ?_ ?_)
      | (with_reducible refine LeO.bind ?_ (fun _ => ?_))
      | exact ih0 _ _
      | exact spec_l19Piece.mono _ _
      | exact LeO.none _
      | refine LeO.ite ?_ ?_
      | refine LeO.bind ?_ (fun _ => ?_)
theorem spec_l19Pieces.mono : ∀ a0 k, LeO (spec_l19Pieces.f k a0) (spec_l19Pieces.f (k + 1) a0) := by
  intro a0 k
  have ih0 := spec_l19Pieces.mono_l k
  unfold spec_l19Pieces.f
  repeat' first
      | (with_reducible exact ih0 _ _)
      | (with_reducible exact spec_l19Piece.mono _ _)
      | (with_reducible exact LeO.refl _)
      | (with_reducible exact LeO.none _)
      | (with_reducible refine LeO.ite ?_ ?_)
      | (with_reducible refine LeO.bind ?_ (fun _ => ?_))
      | exact ih0 _ _
      | exact spec_l19Piece.mono _ _
      | exact LeO.none _
      | refine LeO.ite ?_ ?_
      | refine LeO.bind ?_ (fun _ => ?_)
def spec_l19Pieces.T4 : Bool × List (List Nat × List Nat) := (true, [([], []), ([], []), ([0, 1], [0, 1]), ([2], [2]), ([3], [3]), ([4, 3], [4]), ([5], [5]), ([6, 5], [5, 6]), ([7, 5, 5], [5, 7]), ([8], [8]), ([8], [8]), ([10, 8], [8, 10]), ([9, 11, 8], [8, 9, 11]), ([12, 8], [8, 12]), ([13, 8], [8, 13]), ([8], [8]), ([8], [8]), ([15, 16, 8], [8, 15, 16]), ([17, 8], [8, 17]), ([18, 8], [8, 18]), ([14, 19, 8], [8, 14, 19]), ([8, 20, 5], [5, 8, 20]), ([5, 21], [5, 21])])
def spec_l19Pieces.B4 : List Nat := [0, 0, 3, 7, 15, 31, 63, 127, 255, 511, 511, 1535, 4095, 8191, 16383, 511, 511, 98815, 229887, 492031, 1048575, 2097151, 4194303]
theorem spec_l19Pieces.tab4 : rtab .any (opsOf Try.f69 4) = spec_l19Pieces.T4 := by kernel_rfl
theorem spec_l19Pieces.bits4 : waitsOk spec_l19Pieces.T4.2 spec_l19Pieces.B4 = true := by kernel_rfl
open List renaming setIfInBounds_toArray → sA, set_cons_zero → sB, set_cons_succ → sC
open Go.Proofs.YtakagkflgkoiiaaW.PrintWords.Aside0 renaming mk → mkA
open Go.Proofs.YtakagkflgkoiiaaX (dt_ bc_ p0_ p1_ bl_ cb_ bs0_ bs1_ bs2_ bs3_ bs4_ bs5_ bs6_ bs7_ bs8_ bs9_ bs10_ bs11_ bs12_)
abbrev spec_l19Pieces.d0 : Array Bool := #[false, false, false, false, false, false, false, false, false, false, false, false, false, false, false, false, false, false, false, false, false, false, false]
abbrev spec_l19Pieces.d1 : Array Bool := #[true, false, false, false, false, false, false, false, false, false, false, false, false, false, false, false, false, false, false, false, false, false, false]
abbrev spec_l19Pieces.d2 : Array Bool := #[true, true, false, false, false, false, false, false, false, false, false, false, false, false, false, false, false, false, false, false, false, false, false]
abbrev spec_l19Pieces.d3 : Array Bool := #[true, true, true, false, false, false, false, false, false, false, false, false, false, false, false, false, false, false, false, false, false, false, false]
abbrev spec_l19Pieces.d4 : Array Bool := #[true, true, true, true, false, false, false, false, false, false, false, false, false, false, false, false, false, false, false, false, false, false, false]
abbrev spec_l19Pieces.d5 : Array Bool := #[true, true, true, true, true, false, false, false, false, false, false, false, false, false, false, false, false, false, false, false, false, false, false]
abbrev spec_l19Pieces.d6 : Array Bool := #[true, true, true, true, true, true, false, false, false, false, false, false, false, false, false, false, false, false, false, false, false, false, false]
abbrev spec_l19Pieces.d7 : Array Bool := #[true, true, true, true, true, true, true, false, false, false, false, false, false, false, false, false, false, false, false, false, false, false, false]
abbrev spec_l19Pieces.d8 : Array Bool := #[true, true, true, true, true, true, true, true, false, false, false, false, false, false, false, false, false, false, false, false, false, false, false]
abbrev spec_l19Pieces.d9 : Array Bool := #[true, true, true, true, true, true, true, true, true, false, false, false, false, false, false, false, false, false, false, false, false, false, false]
abbrev spec_l19Pieces.d10 : Array Bool := #[true, true, true, true, true, true, true, true, true, true, false, false, false, false, false, false, false, false, false, false, false, false, false]
abbrev spec_l19Pieces.d11 : Array Bool := #[true, true, true, true, true, true, true, true, true, true, true, false, false, false, false, false, false, false, false, false, false, false, false]
abbrev spec_l19Pieces.d12 : Array Bool := #[true, true, true, true, true, true, true, true, true, true, true, true, false, false, false, false, false, false, false, false, false, false, false]
abbrev spec_l19Pieces.d13 : Array Bool := #[true, true, true, true, true, true, true, true, true, true, true, true, true, false, false, false, false, false, false, false, false, false, false]
abbrev spec_l19Pieces.d14 : Array Bool := #[true, true, true, true, true, true, true, true, true, true, true, true, true, true, false, false, false, false, false, false, false, false, false]
abbrev spec_l19Pieces.d15 : Array Bool := #[true, true, true, true, true, true, true, true, true, true, true, true, true, true, false, true, false, false, false, false, false, false, false]
abbrev spec_l19Pieces.d16 : Array Bool := #[true, true, true, true, true, true, true, true, true, true, true, true, true, true, false, true, true, false, false, false, false, false, false]
abbrev spec_l19Pieces.d17 : Array Bool := #[true, true, true, true, true, true, true, true, true, true, true, true, true, true, false, true, true, true, false, false, false, false, false]
abbrev spec_l19Pieces.d18 : Array Bool := #[true, true, true, true, true, true, true, true, true, true, true, true, true, true, false, true, true, true, true, false, false, false, false]
abbrev spec_l19Pieces.d19 : Array Bool := #[true, true, true, true, true, true, true, true, true, true, true, true, true, true, true, true, true, true, true, false, false, false, false]
abbrev spec_l19Pieces.d20 : Array Bool := #[true, true, true, true, true, true, true, true, true, true, true, true, true, true, true, true, true, true, true, true, false, false, false]
abbrev spec_l19Pieces.d21 : Array Bool := #[true, true, true, true, true, true, true, true, true, true, true, true, true, true, true, true, true, true, true, true, true, false, false]
abbrev spec_l19Pieces.d22 : Array Bool := #[true, true, true, true, true, true, true, true, true, true, true, true, true, true, true, true, true, true, true, true, true, true, false]
abbrev spec_l19Pieces.d23 : Array Bool := #[true, true, true, true, true, true, true, true, true, true, true, true, true, true, true, true, true, true, true, true, true, true, true]
abbrev spec_l19Pieces.d24 : Array Bool := #[true, true, true, true, true, true, true, true, true, true, true, true, true, true, true, false, false, false, false, false, false, false, false]
abbrev spec_l19Pieces.d25 : Array Bool := #[true, true, true, true, true, true, true, true, true, true, true, true, true, true, true, true, false, false, false, false, false, false, false]
abbrev spec_l19Pieces.d26 : Array Bool := #[true, true, true, true, true, true, true, true, true, true, true, true, true, true, true, true, true, false, false, false, false, false, false]
abbrev spec_l19Pieces.d27 : Array Bool := #[true, true, true, true, true, true, true, true, true, true, true, true, true, true, true, true, true, true, false, false, false, false, false]
set_option maxHeartbeats 8000000 in
set_option maxRecDepth 100000 in
theorem spec_l19Pieces.calls (k : Nat) (A0 : Option Addr) (c0 : Nat) (l0 : List (S53)) (r : Bool) (w : World) (hr0 : Kd.C k53 w A0 l0.length l0) (hc0 : l0.length ≤ c0) (h : spec_l19Pieces.f k l0 = some r) :
 Calls Try.prog 69 #[.slice A0 l0.length c0] w fun e w' => e = .returned (.bool r) ∧ Below w.heap.size w w' := by
 have HR0 := mkA hr0
 have HC0 := mkA hc0
 clear hr0 hc0
 have HB := mkA (Below.refl w.heap.size w)
 have H : (spec_l19Pieces.l0 k l0 0) = some r := h
 clear h
 have H' := mkA H
 clear H
 go_enter Try.func69, Try.ntmps69
 go_wp2
 go_loopg [3] k (fun kq v3 w' => ∃ (x3_1 : Int), v3 = .int .i64 x3_1 ∧ Aside0 (spec_l19Pieces.l0 kq l0 x3_1 = some r) ∧ Aside0 (kq ≤ k) ∧ Aside0 (Below w.heap.size w w'))
 case atStart => exact ⟨(0), (by first | rfl | (simp; done) | (simp [*]; done) | (simp [i64_w, i32_w]; done)), H', ⟨Nat.le_refl _⟩, ⟨by repeat (first | (with_reducible first | exact HB.out | apply below_alloc | apply pw_below_drewN | apply below_drew1) | exact HB.out)⟩⟩
 case round =>
  clear H'
  obtain ⟨x3_1, rfl, HA, HK1, HB⟩ := hrel
  cases gk with
  | zero => exact absurd HA.out (by simp [spec_l19Pieces.l0])
  | succ k1 =>
   have H := HA.out
   clear HA
   simp only [spec_l19Pieces.l0] at H
   by_cases c2 : x3_1 < (l0.length : Int)
   rotate_left
   · rw [if_neg c2] at H
     have c2b0 : decide (x3_1 < (l0.length : Int)) = false := decide_eq_false c2
     clear c2
     obtain rfl := Option.some.inj H
     go_wp2
     go_ret
     exact ⟨by first | rfl | (simp [errW_none, errW_some] <;> rfl) | (simp [*, errW_none, errW_some] <;> rfl), by repeat (first | (with_reducible first | exact HB.out | apply below_alloc | apply pw_below_drewN | apply below_drew1) | exact HB.out)⟩

   rw [if_pos c2] at H
   have c2b0 : decide (x3_1 < (l0.length : Int)) = true := decide_eq_true c2
   clear c2
   by_cases c3 : 0 ≤ x3_1
   rotate_left
   · rw [if_neg c3] at H
     exact absurd H (by simp)
   rw [if_pos c3] at H
   have c3b0 : decide (0 ≤ x3_1) = true := decide_eq_true c3
   clear c3
   replace H := Option.bind_eq_some_iff.mp H
   obtain ⟨t150, A40, H⟩ := H
   replace H : (if t150 = true then (if x3_1 > 0 then (if 0 ≤ (wrap64 (x3_1 - 1)) then (if (wrap64 (x3_1 - 1)) < (l0.length : Int) then (if ((Op.bytesLess (((rd_T53 l0 (wrap64 (x3_1 - 1))).f0).toList) (((rd_T53 l0 x3_1).f0).toList)) = true) then (spec_l19Pieces.l0 k1 l0 (wrap64 (x3_1 + 1))) else (some false)) else (none)) else (none)) else (spec_l19Pieces.l0 k1 l0 (wrap64 (x3_1 + 1)))) else (some false)) = some r := H
   have A4 := mkA A40
   clear A40
   by_cases c5 : t150 = true
   rotate_left
   · replace c5 := Bool.eq_false_iff.mpr c5
     subst c5
     have H1 : (some false) = some r := by rw [if_neg (show ¬ (false = true) by decide)] at H; exact H
     clear H
     have H := H1
     clear H1
     obtain rfl := Option.some.inj H
     try go_wp2
     have n0_ := mkA (below_drew1 HB.out)
     clear HB
     have HB := n0_
     clear n0_
     have p149 : 0 ≤ (x3_1 : Int) := dt_
     have q149 : x3_1 < (l0.length : Int) := dt_
     obtain ⟨ad149, A149_1, c149_1, e149, hx149_0, hx149_1, hx149_2, hx149_3, hl149_1, hi149_1⟩ := at_T53 HR0.out x3_1 p149 q149
     have hw149_3 := hx149_3
     have hw149_2 := hx149_2
     have hw149_1 := hx149_1
     have hw149_0 := hx149_0
     cases e149
     replace hx149_0 := bc_ HB.out hx149_0
     replace hx149_1 := bc_ HB.out hx149_1
     replace hx149_2 := bc_ HB.out hx149_2
     replace hx149_3 := bc_ HB.out hx149_3
     have HR149_1 := mkA hi149_1
     have HC149_1 := mkA hl149_1
     clear hi149_1 hl149_1
     replace p149 := eq_true p149
     replace q149 := eq_true q149
     refine start_ (n := 23) (S := fun w' => w'.cell? (ad149.add ((x3_1).toNat * 4)) = some (.string ((rd_T53 l0 x3_1).f0)) ∧ w'.cell? ⟨(ad149.add ((x3_1).toNat * 4)).block, (ad149.add ((x3_1).toNat * 4)).off + 1, none⟩ = some (.slice A149_1 ((rd_T53 l0 x3_1).f1).length c149_1) ∧ w'.cell? ⟨(ad149.add ((x3_1).toNat * 4)).block, (ad149.add ((x3_1).toNat * 4)).off + 2, none⟩ = some (.int .i64 ((rd_T53 l0 x3_1).f2)) ∧ w'.cell? ⟨(ad149.add ((x3_1).toNat * 4)).block, (ad149.add ((x3_1).toNat * 4)).off + 3, none⟩ = some (.bool ((rd_T53 l0 x3_1).f3))) (ds := []) spec_l19Pieces.d0 (by kernel_rfl) rfl rfl ⟨(bc_ HB.out hw149_0 :), (bc_ HB.out hw149_1 :), (bc_ HB.out hw149_2 :), (bc_ HB.out hw149_3 :)⟩ (fun hHeld => ?_); refine with_tabW spec_l19Pieces.tab4 spec_l19Pieces.bits4 (fun HT_ HW_ => ?_)
     generalize wr.drew = w17 at HB HR149_1 hx149_0 hx149_1 hx149_2 hx149_3 hHeld ⊢
     refine p1_ HT_.out 0 10 spec_l19Pieces.d1 ?_
     refine p1_ HT_.out 1 11 spec_l19Pieces.d2 ?_
     refine p1_ HT_.out 2 12 spec_l19Pieces.d3 ?_
     refine one_ (i := 3) (N := some 13) spec_l19Pieces.d4 rfl rfl (one_of HT_.out (by kernel_rfl)) (by decide) (fun K hK => ?_)
     refine goes_ Try.func72 (by kernel_rfl) rfl #[.pointer (some (ad149.add (x3_1.toNat * 4)))] (by rfl) rfl rfl (by (try simp only [List.map_toArray, List.map_cons, List.map_nil]); first | done | rfl | (simp only [List.length_drop, List.length_take]; rfl)) ?_
     with_reducible refine (spec_l19Piece.calls k1 _ [rd_T53 l0 x3_1] false _ ?side1 A4.out).mono ?_
     (case side1 => refine Go.Proofs.YtakagkflgkoiiaaX.rp_elem (xs := l0) z53 x3_1 (of_eq_true p149) (of_eq_true q149) ?_; repeat (first | exact (Kd.C_below HR0.out HB.out) | (with_reducible refine Kd.C_alloc ?_ _) | (with_reducible refine Kd.C_drewN ?_ _) | (with_reducible refine Kd.C_drew ?_)))
     rintro e w18 ⟨rfl, hb⟩
     refine ⟨_, rfl, ?_⟩
     have n0_ := mkA (below_step (bs0_ HB.out) hb)
     clear HB
     have HB := n0_
     clear n0_
     (try clear hb)
     (try clear hb2)
     (try clear hk)
     (try clear hi)
     refine hK.out _ _ ⟨(bc_ HB.out hw149_0 :), (bc_ HB.out hw149_1 :), (bc_ HB.out hw149_2 :), (bc_ HB.out hw149_3 :)⟩ (fun hHeld => ?_)
     clear hK K
     refine norm_ (a' := ?_) ?_ ?_
     rotate_left
     · show Act.put _ (some 13) _ = _
       simp only [Act.put, sA, sB, sC, i64_w, i32_w]
       rfl
     refine p1_ HT_.out 4 14 spec_l19Pieces.d5 ?_
     refine p1_ HT_.out 5 15 spec_l19Pieces.d6 ?_
     refine p0_ HT_.out 6 16 spec_l19Pieces.d7 ?_
     refine p0_ HT_.out 7 17 spec_l19Pieces.d8 ?_
     refine p0_ HT_.out 8 18 spec_l19Pieces.d9 ?_
     refine p0_ HT_.out 9 19 spec_l19Pieces.d10 ?_
     refine p0_ HT_.out 10 20 spec_l19Pieces.d11 ?_
     refine p0_ HT_.out 11 21 spec_l19Pieces.d12 ?_
     refine p0_ HT_.out 12 22 spec_l19Pieces.d13 ?_
     refine p0_ HT_.out 13 23 spec_l19Pieces.d14 ?_
     refine p0_ HT_.out 14 24 spec_l19Pieces.d24 ?_
     refine p0_ HT_.out 15 25 spec_l19Pieces.d25 ?_
     refine p0_ HT_.out 16 26 spec_l19Pieces.d26 ?_
     refine p0_ HT_.out 17 27 spec_l19Pieces.d27 ?_
     refine p0_ HT_.out 18 28 spec_l19Pieces.d19 ?_
     refine p0_ HT_.out 19 29 spec_l19Pieces.d20 ?_
     refine p0_ HT_.out 20 30 spec_l19Pieces.d21 ?_
     refine p0_ HT_.out 21 31 spec_l19Pieces.d22 ?_
     refine p1_ HT_.out 22 32 spec_l19Pieces.d23 ?_
     refine done_ (done_of HT_.out (by kernel_rfl)) ?_
     try go_wp2
     go_ret
     exact ⟨by first | rfl | (simp [errW_none, errW_some] <;> rfl) | (simp [*, errW_none, errW_some] <;> rfl), by repeat (first | (with_reducible first | exact HB.out | apply below_alloc | apply pw_below_drewN | apply below_drew1) | exact HB.out)⟩
   subst c5
   have H1 : (if x3_1 > 0 then (if 0 ≤ (wrap64 (x3_1 - 1)) then (if (wrap64 (x3_1 - 1)) < (l0.length : Int) then (if ((Op.bytesLess (((rd_T53 l0 (wrap64 (x3_1 - 1))).f0).toList) (((rd_T53 l0 x3_1).f0).toList)) = true) then (spec_l19Pieces.l0 k1 l0 (wrap64 (x3_1 + 1))) else (some false)) else (none)) else (none)) else (spec_l19Pieces.l0 k1 l0 (wrap64 (x3_1 + 1)))) = some r := by rw [if_pos rfl] at H; exact H
   clear H
   have H := H1
   clear H1
   by_cases c6 : x3_1 > 0
   rotate_left
   · rw [if_neg c6] at H
     have c6b0 : decide (0 < x3_1) = false := decide_eq_false c6
     clear c6
     have H' := mkA H
     clear H
     try go_wp2
     have n0_ := mkA (below_drew1 HB.out)
     clear HB
     have HB := n0_
     clear n0_
     have p149 : 0 ≤ (x3_1 : Int) := dt_
     have q149 : x3_1 < (l0.length : Int) := dt_
     obtain ⟨ad149, A149_1, c149_1, e149, hx149_0, hx149_1, hx149_2, hx149_3, hl149_1, hi149_1⟩ := at_T53 HR0.out x3_1 p149 q149
     have hw149_3 := hx149_3
     have hw149_2 := hx149_2
     have hw149_1 := hx149_1
     have hw149_0 := hx149_0
     cases e149
     replace hx149_0 := bc_ HB.out hx149_0
     replace hx149_1 := bc_ HB.out hx149_1
     replace hx149_2 := bc_ HB.out hx149_2
     replace hx149_3 := bc_ HB.out hx149_3
     have HR149_1 := mkA hi149_1
     have HC149_1 := mkA hl149_1
     clear hi149_1 hl149_1
     replace p149 := eq_true p149
     replace q149 := eq_true q149
     refine start_ (n := 23) (S := fun w' => w'.cell? (ad149.add ((x3_1).toNat * 4)) = some (.string ((rd_T53 l0 x3_1).f0)) ∧ w'.cell? ⟨(ad149.add ((x3_1).toNat * 4)).block, (ad149.add ((x3_1).toNat * 4)).off + 1, none⟩ = some (.slice A149_1 ((rd_T53 l0 x3_1).f1).length c149_1) ∧ w'.cell? ⟨(ad149.add ((x3_1).toNat * 4)).block, (ad149.add ((x3_1).toNat * 4)).off + 2, none⟩ = some (.int .i64 ((rd_T53 l0 x3_1).f2)) ∧ w'.cell? ⟨(ad149.add ((x3_1).toNat * 4)).block, (ad149.add ((x3_1).toNat * 4)).off + 3, none⟩ = some (.bool ((rd_T53 l0 x3_1).f3))) (ds := []) spec_l19Pieces.d0 (by kernel_rfl) rfl rfl ⟨(bc_ HB.out hw149_0 :), (bc_ HB.out hw149_1 :), (bc_ HB.out hw149_2 :), (bc_ HB.out hw149_3 :)⟩ (fun hHeld => ?_); refine with_tabW spec_l19Pieces.tab4 spec_l19Pieces.bits4 (fun HT_ HW_ => ?_)
     generalize wr.drew = w15 at HB HR149_1 hx149_0 hx149_1 hx149_2 hx149_3 hHeld ⊢
     refine p1_ HT_.out 0 10 spec_l19Pieces.d1 ?_
     refine p1_ HT_.out 1 11 spec_l19Pieces.d2 ?_
     refine p1_ HT_.out 2 12 spec_l19Pieces.d3 ?_
     refine one_ (i := 3) (N := some 13) spec_l19Pieces.d4 rfl rfl (one_of HT_.out (by kernel_rfl)) (by decide) (fun K hK => ?_)
     refine goes_ Try.func72 (by kernel_rfl) rfl #[.pointer (some (ad149.add (x3_1.toNat * 4)))] (by rfl) rfl rfl (by (try simp only [List.map_toArray, List.map_cons, List.map_nil]); first | done | rfl | (simp only [List.length_drop, List.length_take]; rfl)) ?_
     with_reducible refine (spec_l19Piece.calls k1 _ [rd_T53 l0 x3_1] true _ ?side1 A4.out).mono ?_
     (case side1 => refine Go.Proofs.YtakagkflgkoiiaaX.rp_elem (xs := l0) z53 x3_1 (of_eq_true p149) (of_eq_true q149) ?_; repeat (first | exact (Kd.C_below HR0.out HB.out) | (with_reducible refine Kd.C_alloc ?_ _) | (with_reducible refine Kd.C_drewN ?_ _) | (with_reducible refine Kd.C_drew ?_)))
     rintro e w16 ⟨rfl, hb⟩
     refine ⟨_, rfl, ?_⟩
     have n0_ := mkA (below_step (bs0_ HB.out) hb)
     clear HB
     have HB := n0_
     clear n0_
     (try clear hb)
     (try clear hb2)
     (try clear hk)
     (try clear hi)
     refine hK.out _ _ ⟨(bc_ HB.out hw149_0 :), (bc_ HB.out hw149_1 :), (bc_ HB.out hw149_2 :), (bc_ HB.out hw149_3 :)⟩ (fun hHeld => ?_)
     clear hK K
     refine norm_ (a' := ?_) ?_ ?_
     rotate_left
     · show Act.put _ (some 13) _ = _
       simp only [Act.put, sA, sB, sC, i64_w, i32_w]
       rfl
     refine p1_ HT_.out 4 14 spec_l19Pieces.d5 ?_
     refine p1_ HT_.out 5 15 spec_l19Pieces.d6 ?_
     refine p1_ HT_.out 6 16 spec_l19Pieces.d7 ?_
     refine p1_ HT_.out 7 17 spec_l19Pieces.d8 ?_
     refine p1_ HT_.out 8 18 spec_l19Pieces.d9 ?_
     refine p0_ HT_.out 9 19 spec_l19Pieces.d10 ?_
     refine p0_ HT_.out 10 20 spec_l19Pieces.d11 ?_
     refine p0_ HT_.out 11 21 spec_l19Pieces.d12 ?_
     refine p0_ HT_.out 12 22 spec_l19Pieces.d13 ?_
     refine p0_ HT_.out 13 23 spec_l19Pieces.d14 ?_
     refine p0_ HT_.out 14 24 spec_l19Pieces.d24 ?_
     refine p0_ HT_.out 15 25 spec_l19Pieces.d25 ?_
     refine p0_ HT_.out 16 26 spec_l19Pieces.d26 ?_
     refine p0_ HT_.out 17 27 spec_l19Pieces.d27 ?_
     refine p0_ HT_.out 18 28 spec_l19Pieces.d19 ?_
     refine p0_ HT_.out 19 29 spec_l19Pieces.d20 ?_
     refine p0_ HT_.out 20 30 spec_l19Pieces.d21 ?_
     refine p1_ HT_.out 21 31 spec_l19Pieces.d22 ?_
     refine p1_ HT_.out 22 32 spec_l19Pieces.d23 ?_
     refine done_ (done_of HT_.out (by kernel_rfl)) ?_
     try go_wp2
     go_roundg k1
     case measure => have := HK1.out; omega
     case rel => exact ⟨(wrap64 (x3_1 + 1)), (by first | rfl | (simp; done) | (simp [*]; done) | (simp [i64_w, i32_w]; done)), H', ⟨by have := HK1.out; omega⟩, ⟨by repeat (first | (with_reducible first | exact HB.out | apply below_alloc | apply pw_below_drewN | apply below_drew1) | exact HB.out)⟩⟩
   rw [if_pos c6] at H
   have c6b0 : decide (0 < x3_1) = true := decide_eq_true c6
   clear c6
   obtain ⟨ji7, hji7⟩ : ∃ j_ : Int, (wrap64 (x3_1 - 1)) = j_ := ⟨_, rfl⟩
   replace H : (if 0 ≤ (ji7) then (if (ji7) < (l0.length : Int) then (if ((Op.bytesLess (((rd_T53 l0 (ji7)).f0).toList) (((rd_T53 l0 x3_1).f0).toList)) = true) then (spec_l19Pieces.l0 k1 l0 (wrap64 (x3_1 + 1))) else (some false)) else (none)) else (none)) = some r := by first | (rw [hji7] at H; exact H) | (simp only [hji7] at H ⊢; exact H)
   (try rw [hji7] at A4)
   have hji7w : (IntKind.i64.wrap (x3_1 - 1)) = ji7 := (i64_w _).trans hji7
   by_cases c8 : 0 ≤ (ji7)
   rotate_left
   · rw [if_neg c8] at H
     exact absurd H (by simp)
   rw [if_pos c8] at H
   have c8b0 : decide (0 ≤ (ji7)) = true := decide_eq_true c8
   clear c8
   by_cases c9 : (ji7) < (l0.length : Int)
   rotate_left
   · rw [if_neg c9] at H
     exact absurd H (by simp)
   rw [if_pos c9] at H
   have c9b0 : decide ((ji7) < (l0.length : Int)) = true := decide_eq_true c9
   clear c9
   by_cases c10 : ((Op.bytesLess (((rd_T53 l0 (ji7)).f0).toList) (((rd_T53 l0 x3_1).f0).toList)) = true)
   rotate_left
   · rw [if_neg c10] at H
     have c10b0 : (Op.bytesLess (((rd_T53 l0 (ji7)).f0).toList) (((rd_T53 l0 x3_1).f0).toList)) = false := by simpa using c10
     clear c10
     obtain rfl := Option.some.inj H
     try go_wp2
     have n0_ := mkA (below_drew1 HB.out)
     clear HB
     have HB := n0_
     clear n0_
     have p149 : 0 ≤ (x3_1 : Int) := dt_
     have q149 : x3_1 < (l0.length : Int) := dt_
     obtain ⟨ad149, A149_1, c149_1, e149, hx149_0, hx149_1, hx149_2, hx149_3, hl149_1, hi149_1⟩ := at_T53 HR0.out x3_1 p149 q149
     have hw149_3 := hx149_3
     have hw149_2 := hx149_2
     have hw149_1 := hx149_1
     have hw149_0 := hx149_0
     cases e149
     replace hx149_0 := bc_ HB.out hx149_0
     replace hx149_1 := bc_ HB.out hx149_1
     replace hx149_2 := bc_ HB.out hx149_2
     replace hx149_3 := bc_ HB.out hx149_3
     have HR149_1 := mkA hi149_1
     have HC149_1 := mkA hl149_1
     clear hi149_1 hl149_1
     replace p149 := eq_true p149
     replace q149 := eq_true q149
     have p151 : 0 ≤ ((ji7) : Int) := dt_
     have q151 : (ji7) < (l0.length : Int) := dt_
     obtain ⟨ad151, A151_1, c151_1, e151, hx151_0, hx151_1, hx151_2, hx151_3, hl151_1, hi151_1⟩ := at_T53 HR0.out (ji7) p151 q151
     have hw151_3 := hx151_3
     have hw151_2 := hx151_2
     have hw151_1 := hx151_1
     have hw151_0 := hx151_0
     obtain rfl : ad149 = ad151 := (by injection e151)
     replace hx151_0 := bc_ HB.out hx151_0
     replace hx151_1 := bc_ HB.out hx151_1
     replace hx151_2 := bc_ HB.out hx151_2
     replace hx151_3 := bc_ HB.out hx151_3
     have HR151_1 := mkA hi151_1
     have HC151_1 := mkA hl151_1
     clear hi151_1 hl151_1
     replace p151 := eq_true p151
     replace q151 := eq_true q151
     have p152 : 0 ≤ (x3_1 : Int) := dt_
     have q152 : x3_1 < (l0.length : Int) := dt_
     obtain ⟨ad152, A152_1, c152_1, e152, hx152_0, hx152_1, hx152_2, hx152_3, hl152_1, hi152_1⟩ := at_T53 HR0.out x3_1 p152 q152
     have hw152_3 := hx152_3
     have hw152_2 := hx152_2
     have hw152_1 := hx152_1
     have hw152_0 := hx152_0
     obtain rfl : ad149 = ad152 := (by injection e152)
     replace hx152_0 := bc_ HB.out hx152_0
     replace hx152_1 := bc_ HB.out hx152_1
     replace hx152_2 := bc_ HB.out hx152_2
     replace hx152_3 := bc_ HB.out hx152_3
     have HR152_1 := mkA hi152_1
     have HC152_1 := mkA hl152_1
     clear hi152_1 hl152_1
     replace p152 := eq_true p152
     replace q152 := eq_true q152
     refine start_ (n := 23) (S := fun w' => w'.cell? (ad149.add ((x3_1).toNat * 4)) = some (.string ((rd_T53 l0 x3_1).f0)) ∧ w'.cell? ⟨(ad149.add ((x3_1).toNat * 4)).block, (ad149.add ((x3_1).toNat * 4)).off + 1, none⟩ = some (.slice A149_1 ((rd_T53 l0 x3_1).f1).length c149_1) ∧ w'.cell? ⟨(ad149.add ((x3_1).toNat * 4)).block, (ad149.add ((x3_1).toNat * 4)).off + 2, none⟩ = some (.int .i64 ((rd_T53 l0 x3_1).f2)) ∧ w'.cell? ⟨(ad149.add ((x3_1).toNat * 4)).block, (ad149.add ((x3_1).toNat * 4)).off + 3, none⟩ = some (.bool ((rd_T53 l0 x3_1).f3)) ∧ w'.cell? (ad149.add (((ji7)).toNat * 4)) = some (.string ((rd_T53 l0 (ji7)).f0)) ∧ w'.cell? ⟨(ad149.add (((ji7)).toNat * 4)).block, (ad149.add (((ji7)).toNat * 4)).off + 1, none⟩ = some (.slice A151_1 ((rd_T53 l0 (ji7)).f1).length c151_1) ∧ w'.cell? ⟨(ad149.add (((ji7)).toNat * 4)).block, (ad149.add (((ji7)).toNat * 4)).off + 2, none⟩ = some (.int .i64 ((rd_T53 l0 (ji7)).f2)) ∧ w'.cell? ⟨(ad149.add (((ji7)).toNat * 4)).block, (ad149.add (((ji7)).toNat * 4)).off + 3, none⟩ = some (.bool ((rd_T53 l0 (ji7)).f3)) ∧ w'.cell? (ad149.add ((x3_1).toNat * 4)) = some (.string ((rd_T53 l0 x3_1).f0)) ∧ w'.cell? ⟨(ad149.add ((x3_1).toNat * 4)).block, (ad149.add ((x3_1).toNat * 4)).off + 1, none⟩ = some (.slice A152_1 ((rd_T53 l0 x3_1).f1).length c152_1) ∧ w'.cell? ⟨(ad149.add ((x3_1).toNat * 4)).block, (ad149.add ((x3_1).toNat * 4)).off + 2, none⟩ = some (.int .i64 ((rd_T53 l0 x3_1).f2)) ∧ w'.cell? ⟨(ad149.add ((x3_1).toNat * 4)).block, (ad149.add ((x3_1).toNat * 4)).off + 3, none⟩ = some (.bool ((rd_T53 l0 x3_1).f3))) (ds := []) spec_l19Pieces.d0 (by kernel_rfl) rfl rfl ⟨(bc_ HB.out hw149_0 :), (bc_ HB.out hw149_1 :), (bc_ HB.out hw149_2 :), (bc_ HB.out hw149_3 :), (bc_ HB.out hw151_0 :), (bc_ HB.out hw151_1 :), (bc_ HB.out hw151_2 :), (bc_ HB.out hw151_3 :), (bc_ HB.out hw152_0 :), (bc_ HB.out hw152_1 :), (bc_ HB.out hw152_2 :), (bc_ HB.out hw152_3 :)⟩ (fun hHeld => ?_); refine with_tabW spec_l19Pieces.tab4 spec_l19Pieces.bits4 (fun HT_ HW_ => ?_)
     generalize wr.drew = w13 at HB HR149_1 HR151_1 HR152_1 hx149_0 hx149_1 hx149_2 hx149_3 hx151_0 hx151_1 hx151_2 hx151_3 hx152_0 hx152_1 hx152_2 hx152_3 hHeld ⊢
     refine p1_ HT_.out 0 10 spec_l19Pieces.d1 ?_
     refine p1_ HT_.out 1 11 spec_l19Pieces.d2 ?_
     refine p1_ HT_.out 2 12 spec_l19Pieces.d3 ?_
     refine one_ (i := 3) (N := some 13) spec_l19Pieces.d4 rfl rfl (one_of HT_.out (by kernel_rfl)) (by decide) (fun K hK => ?_)
     refine goes_ Try.func72 (by kernel_rfl) rfl #[.pointer (some (ad149.add (x3_1.toNat * 4)))] (by rfl) rfl rfl (by (try simp only [List.map_toArray, List.map_cons, List.map_nil]); first | done | rfl | (simp only [List.length_drop, List.length_take]; rfl)) ?_
     with_reducible refine (spec_l19Piece.calls k1 _ [rd_T53 l0 x3_1] true _ ?side1 A4.out).mono ?_
     (case side1 => refine Go.Proofs.YtakagkflgkoiiaaX.rp_elem (xs := l0) z53 x3_1 (of_eq_true p149) (of_eq_true q149) ?_; repeat (first | exact (Kd.C_below HR0.out HB.out) | (with_reducible refine Kd.C_alloc ?_ _) | (with_reducible refine Kd.C_drewN ?_ _) | (with_reducible refine Kd.C_drew ?_)))
     rintro e w14 ⟨rfl, hb⟩
     refine ⟨_, rfl, ?_⟩
     have n0_ := mkA (below_step (bs0_ HB.out) hb)
     clear HB
     have HB := n0_
     clear n0_
     (try clear hb)
     (try clear hb2)
     (try clear hk)
     (try clear hi)
     refine hK.out _ _ ⟨(bc_ HB.out hw149_0 :), (bc_ HB.out hw149_1 :), (bc_ HB.out hw149_2 :), (bc_ HB.out hw149_3 :), (bc_ HB.out hw151_0 :), (bc_ HB.out hw151_1 :), (bc_ HB.out hw151_2 :), (bc_ HB.out hw151_3 :), (bc_ HB.out hw152_0 :), (bc_ HB.out hw152_1 :), (bc_ HB.out hw152_2 :), (bc_ HB.out hw152_3 :)⟩ (fun hHeld => ?_)
     clear hK K
     refine norm_ (a' := ?_) ?_ ?_
     rotate_left
     · show Act.put _ (some 13) _ = _
       simp only [Act.put, sA, sB, sC, i64_w, i32_w]
       rfl
     refine p1_ HT_.out 4 14 spec_l19Pieces.d5 ?_
     refine p1_ HT_.out 5 15 spec_l19Pieces.d6 ?_
     refine p1_ HT_.out 6 16 spec_l19Pieces.d7 ?_
     refine p1_ HT_.out 7 17 spec_l19Pieces.d8 ?_
     refine p1_ HT_.out 8 18 spec_l19Pieces.d9 ?_
     refine p1_ HT_.out 9 19 spec_l19Pieces.d10 ?_
     refine p1_ HT_.out 10 20 spec_l19Pieces.d11 ?_
     refine p1_ HT_.out 11 21 spec_l19Pieces.d12 ?_
     refine p1_ HT_.out 12 22 spec_l19Pieces.d13 ?_
     refine p1_ HT_.out 13 23 spec_l19Pieces.d14 ?_
     refine p1_ HT_.out 15 25 spec_l19Pieces.d15 ?_
     refine p1_ HT_.out 16 26 spec_l19Pieces.d16 ?_
     refine p1_ HT_.out 17 27 spec_l19Pieces.d17 ?_
     refine p1_ HT_.out 18 28 spec_l19Pieces.d18 ?_
     refine take_ (i := 14) (N := some 24) (v := ?_) (a' := ?_) spec_l19Pieces.d19 rfl rfl (take_ofW HT_.out HW_.out (by kernel_rfl)) (fun _ _ _ h => h) (Or.inl ⟨by rfl, ?_⟩) hHeld ?_ ?_
     rotate_left
     · rintro w' ⟨s0, s1, s2, s3, s4, s5, s6, s7, s8, s9, s10, s11⟩
       go_simp
       with_reducible rfl
     rotate_left
     · simp only [Act.put, sA, sB, sC, i64_w, i32_w]
       rfl
     refine take_ (i := 19) (N := some 29) (v := ?_) (a' := ?_) spec_l19Pieces.d20 rfl rfl (take_ofW HT_.out HW_.out (by kernel_rfl)) (fun _ _ _ h => h) (Or.inl ⟨by rfl, ?_⟩) hHeld ?_ ?_
     rotate_left
     · rintro w' ⟨s0, s1, s2, s3, s4, s5, s6, s7, s8, s9, s10, s11⟩
       go_simp
       with_reducible rfl
     rotate_left
     · simp only [Act.put, sA, sB, sC, i64_w, i32_w]
       rfl
     refine p1_ HT_.out 20 30 spec_l19Pieces.d21 ?_
     refine p1_ HT_.out 21 31 spec_l19Pieces.d22 ?_
     refine p1_ HT_.out 22 32 spec_l19Pieces.d23 ?_
     refine done_ (done_of HT_.out (by kernel_rfl)) ?_
     try go_wp2
     go_ret
     exact ⟨by first | rfl | (simp [errW_none, errW_some] <;> rfl) | (simp only [← hji7]; first | rfl | (simp [errW_none, errW_some] <;> rfl)) | (simp [*, errW_none, errW_some] <;> rfl), by repeat (first | (with_reducible first | exact HB.out | apply below_alloc | apply pw_below_drewN | apply below_drew1) | exact HB.out)⟩
   rw [if_pos c10] at H
   have c10b0 : (Op.bytesLess (((rd_T53 l0 (ji7)).f0).toList) (((rd_T53 l0 x3_1).f0).toList)) = true := c10
   clear c10
   have H' := mkA H
   clear H
   try go_wp2
   have n0_ := mkA (below_drew1 HB.out)
   clear HB
   have HB := n0_
   clear n0_
   have p149 : 0 ≤ (x3_1 : Int) := dt_
   have q149 : x3_1 < (l0.length : Int) := dt_
   obtain ⟨ad149, A149_1, c149_1, e149, hx149_0, hx149_1, hx149_2, hx149_3, hl149_1, hi149_1⟩ := at_T53 HR0.out x3_1 p149 q149
   have hw149_3 := hx149_3
   have hw149_2 := hx149_2
   have hw149_1 := hx149_1
   have hw149_0 := hx149_0
   cases e149
   replace hx149_0 := bc_ HB.out hx149_0
   replace hx149_1 := bc_ HB.out hx149_1
   replace hx149_2 := bc_ HB.out hx149_2
   replace hx149_3 := bc_ HB.out hx149_3
   have HR149_1 := mkA hi149_1
   have HC149_1 := mkA hl149_1
   clear hi149_1 hl149_1
   replace p149 := eq_true p149
   replace q149 := eq_true q149
   have p151 : 0 ≤ ((ji7) : Int) := dt_
   have q151 : (ji7) < (l0.length : Int) := dt_
   obtain ⟨ad151, A151_1, c151_1, e151, hx151_0, hx151_1, hx151_2, hx151_3, hl151_1, hi151_1⟩ := at_T53 HR0.out (ji7) p151 q151
   have hw151_3 := hx151_3
   have hw151_2 := hx151_2
   have hw151_1 := hx151_1
   have hw151_0 := hx151_0
   obtain rfl : ad149 = ad151 := (by injection e151)
   replace hx151_0 := bc_ HB.out hx151_0
   replace hx151_1 := bc_ HB.out hx151_1
   replace hx151_2 := bc_ HB.out hx151_2
   replace hx151_3 := bc_ HB.out hx151_3
   have HR151_1 := mkA hi151_1
   have HC151_1 := mkA hl151_1
   clear hi151_1 hl151_1
   replace p151 := eq_true p151
   replace q151 := eq_true q151
   have p152 : 0 ≤ (x3_1 : Int) := dt_
   have q152 : x3_1 < (l0.length : Int) := dt_
   obtain ⟨ad152, A152_1, c152_1, e152, hx152_0, hx152_1, hx152_2, hx152_3, hl152_1, hi152_1⟩ := at_T53 HR0.out x3_1 p152 q152
   have hw152_3 := hx152_3
   have hw152_2 := hx152_2
   have hw152_1 := hx152_1
   have hw152_0 := hx152_0
   obtain rfl : ad149 = ad152 := (by injection e152)
   replace hx152_0 := bc_ HB.out hx152_0
   replace hx152_1 := bc_ HB.out hx152_1
   replace hx152_2 := bc_ HB.out hx152_2
   replace hx152_3 := bc_ HB.out hx152_3
   have HR152_1 := mkA hi152_1
   have HC152_1 := mkA hl152_1
   clear hi152_1 hl152_1
   replace p152 := eq_true p152
   replace q152 := eq_true q152
   refine start_ (n := 23) (S := fun w' => w'.cell? (ad149.add ((x3_1).toNat * 4)) = some (.string ((rd_T53 l0 x3_1).f0)) ∧ w'.cell? ⟨(ad149.add ((x3_1).toNat * 4)).block, (ad149.add ((x3_1).toNat * 4)).off + 1, none⟩ = some (.slice A149_1 ((rd_T53 l0 x3_1).f1).length c149_1) ∧ w'.cell? ⟨(ad149.add ((x3_1).toNat * 4)).block, (ad149.add ((x3_1).toNat * 4)).off + 2, none⟩ = some (.int .i64 ((rd_T53 l0 x3_1).f2)) ∧ w'.cell? ⟨(ad149.add ((x3_1).toNat * 4)).block, (ad149.add ((x3_1).toNat * 4)).off + 3, none⟩ = some (.bool ((rd_T53 l0 x3_1).f3)) ∧ w'.cell? (ad149.add (((ji7)).toNat * 4)) = some (.string ((rd_T53 l0 (ji7)).f0)) ∧ w'.cell? ⟨(ad149.add (((ji7)).toNat * 4)).block, (ad149.add (((ji7)).toNat * 4)).off + 1, none⟩ = some (.slice A151_1 ((rd_T53 l0 (ji7)).f1).length c151_1) ∧ w'.cell? ⟨(ad149.add (((ji7)).toNat * 4)).block, (ad149.add (((ji7)).toNat * 4)).off + 2, none⟩ = some (.int .i64 ((rd_T53 l0 (ji7)).f2)) ∧ w'.cell? ⟨(ad149.add (((ji7)).toNat * 4)).block, (ad149.add (((ji7)).toNat * 4)).off + 3, none⟩ = some (.bool ((rd_T53 l0 (ji7)).f3)) ∧ w'.cell? (ad149.add ((x3_1).toNat * 4)) = some (.string ((rd_T53 l0 x3_1).f0)) ∧ w'.cell? ⟨(ad149.add ((x3_1).toNat * 4)).block, (ad149.add ((x3_1).toNat * 4)).off + 1, none⟩ = some (.slice A152_1 ((rd_T53 l0 x3_1).f1).length c152_1) ∧ w'.cell? ⟨(ad149.add ((x3_1).toNat * 4)).block, (ad149.add ((x3_1).toNat * 4)).off + 2, none⟩ = some (.int .i64 ((rd_T53 l0 x3_1).f2)) ∧ w'.cell? ⟨(ad149.add ((x3_1).toNat * 4)).block, (ad149.add ((x3_1).toNat * 4)).off + 3, none⟩ = some (.bool ((rd_T53 l0 x3_1).f3))) (ds := []) spec_l19Pieces.d0 (by kernel_rfl) rfl rfl ⟨(bc_ HB.out hw149_0 :), (bc_ HB.out hw149_1 :), (bc_ HB.out hw149_2 :), (bc_ HB.out hw149_3 :), (bc_ HB.out hw151_0 :), (bc_ HB.out hw151_1 :), (bc_ HB.out hw151_2 :), (bc_ HB.out hw151_3 :), (bc_ HB.out hw152_0 :), (bc_ HB.out hw152_1 :), (bc_ HB.out hw152_2 :), (bc_ HB.out hw152_3 :)⟩ (fun hHeld => ?_); refine with_tabW spec_l19Pieces.tab4 spec_l19Pieces.bits4 (fun HT_ HW_ => ?_)
   generalize wr.drew = w11 at HB HR149_1 HR151_1 HR152_1 hx149_0 hx149_1 hx149_2 hx149_3 hx151_0 hx151_1 hx151_2 hx151_3 hx152_0 hx152_1 hx152_2 hx152_3 hHeld ⊢
   refine p1_ HT_.out 0 10 spec_l19Pieces.d1 ?_
   refine p1_ HT_.out 1 11 spec_l19Pieces.d2 ?_
   refine p1_ HT_.out 2 12 spec_l19Pieces.d3 ?_
   refine one_ (i := 3) (N := some 13) spec_l19Pieces.d4 rfl rfl (one_of HT_.out (by kernel_rfl)) (by decide) (fun K hK => ?_)
   refine goes_ Try.func72 (by kernel_rfl) rfl #[.pointer (some (ad149.add (x3_1.toNat * 4)))] (by rfl) rfl rfl (by (try simp only [List.map_toArray, List.map_cons, List.map_nil]); first | done | rfl | (simp only [List.length_drop, List.length_take]; rfl)) ?_
   with_reducible refine (spec_l19Piece.calls k1 _ [rd_T53 l0 x3_1] true _ ?side1 A4.out).mono ?_
   (case side1 => refine Go.Proofs.YtakagkflgkoiiaaX.rp_elem (xs := l0) z53 x3_1 (of_eq_true p149) (of_eq_true q149) ?_; repeat (first | exact (Kd.C_below HR0.out HB.out) | (with_reducible refine Kd.C_alloc ?_ _) | (with_reducible refine Kd.C_drewN ?_ _) | (with_reducible refine Kd.C_drew ?_)))
   rintro e w12 ⟨rfl, hb⟩
   refine ⟨_, rfl, ?_⟩
   have n0_ := mkA (below_step (bs0_ HB.out) hb)
   clear HB
   have HB := n0_
   clear n0_
   (try clear hb)
   (try clear hb2)
   (try clear hk)
   (try clear hi)
   refine hK.out _ _ ⟨(bc_ HB.out hw149_0 :), (bc_ HB.out hw149_1 :), (bc_ HB.out hw149_2 :), (bc_ HB.out hw149_3 :), (bc_ HB.out hw151_0 :), (bc_ HB.out hw151_1 :), (bc_ HB.out hw151_2 :), (bc_ HB.out hw151_3 :), (bc_ HB.out hw152_0 :), (bc_ HB.out hw152_1 :), (bc_ HB.out hw152_2 :), (bc_ HB.out hw152_3 :)⟩ (fun hHeld => ?_)
   clear hK K
   refine norm_ (a' := ?_) ?_ ?_
   rotate_left
   · show Act.put _ (some 13) _ = _
     simp only [Act.put, sA, sB, sC, i64_w, i32_w]
     rfl
   refine p1_ HT_.out 4 14 spec_l19Pieces.d5 ?_
   refine p1_ HT_.out 5 15 spec_l19Pieces.d6 ?_
   refine p1_ HT_.out 6 16 spec_l19Pieces.d7 ?_
   refine p1_ HT_.out 7 17 spec_l19Pieces.d8 ?_
   refine p1_ HT_.out 8 18 spec_l19Pieces.d9 ?_
   refine p1_ HT_.out 9 19 spec_l19Pieces.d10 ?_
   refine p1_ HT_.out 10 20 spec_l19Pieces.d11 ?_
   refine p1_ HT_.out 11 21 spec_l19Pieces.d12 ?_
   refine p1_ HT_.out 12 22 spec_l19Pieces.d13 ?_
   refine p1_ HT_.out 13 23 spec_l19Pieces.d14 ?_
   refine p1_ HT_.out 15 25 spec_l19Pieces.d15 ?_
   refine p1_ HT_.out 16 26 spec_l19Pieces.d16 ?_
   refine p1_ HT_.out 17 27 spec_l19Pieces.d17 ?_
   refine p1_ HT_.out 18 28 spec_l19Pieces.d18 ?_
   refine take_ (i := 14) (N := some 24) (v := ?_) (a' := ?_) spec_l19Pieces.d19 rfl rfl (take_ofW HT_.out HW_.out (by kernel_rfl)) (fun _ _ _ h => h) (Or.inl ⟨by rfl, ?_⟩) hHeld ?_ ?_
   rotate_left
   · rintro w' ⟨s0, s1, s2, s3, s4, s5, s6, s7, s8, s9, s10, s11⟩
     go_simp
     with_reducible rfl
   rotate_left
   · simp only [Act.put, sA, sB, sC, i64_w, i32_w]
     rfl
   refine take_ (i := 19) (N := some 29) (v := ?_) (a' := ?_) spec_l19Pieces.d20 rfl rfl (take_ofW HT_.out HW_.out (by kernel_rfl)) (fun _ _ _ h => h) (Or.inl ⟨by rfl, ?_⟩) hHeld ?_ ?_
   rotate_left
   · rintro w' ⟨s0, s1, s2, s3, s4, s5, s6, s7, s8, s9, s10, s11⟩
     go_simp
     with_reducible rfl
   rotate_left
   · simp only [Act.put, sA, sB, sC, i64_w, i32_w]
     rfl
   refine p1_ HT_.out 20 30 spec_l19Pieces.d21 ?_
   refine p1_ HT_.out 21 31 spec_l19Pieces.d22 ?_
   refine p1_ HT_.out 22 32 spec_l19Pieces.d23 ?_
   refine done_ (done_of HT_.out (by kernel_rfl)) ?_
   try go_wp2
   go_roundg k1
   case measure => have := HK1.out; omega
   case rel => exact ⟨(wrap64 (x3_1 + 1)), (by first | rfl | (simp; done) | (simp [*]; done) | (simp [i64_w, i32_w]; done)), H', ⟨by have := HK1.out; omega⟩, ⟨by repeat (first | (with_reducible first | exact HB.out | apply below_alloc | apply pw_below_drewN | apply below_drew1) | exact HB.out)⟩⟩
/-! ### spec_ValidPieces: function 29 -/
def spec_ValidPieces.f (k : Nat) (l0 : List (S53)) : Option (Bool) := (spec_l19Pieces.f k l0).bind fun t153 => (some t153)
theorem spec_ValidPieces.mono : ∀ a0 k, LeO (spec_ValidPieces.f k a0) (spec_ValidPieces.f (k + 1) a0) := by
  intro a0 k
  unfold spec_ValidPieces.f
  repeat' first
      | (with_reducible exact spec_l19Pieces.mono _ _)
      | (with_reducible exact LeO.refl _)
      | (with_reducible exact LeO.none _)
      | (with_reducible refine LeO.ite ?_ ?_)
      | (with_reducible refine LeO.bind ?_ (fun _ => ?_))
      | exact spec_l19Pieces.mono _ _
      | exact LeO.none _
      | refine LeO.ite ?_ ?_
      | refine LeO.bind ?_ (fun _ => ?_)
set_option maxHeartbeats 8000000 in
set_option maxRecDepth 100000 in
theorem spec_ValidPieces.calls (k : Nat) (A0 : Option Addr) (c0 : Nat) (l0 : List (S53)) (r : Bool) (w : World) (hr0 : Kd.C k53 w A0 l0.length l0) (hc0 : l0.length ≤ c0) (h : spec_ValidPieces.f k l0 = some r) :
    Calls Try.prog 29 #[.slice A0 l0.length c0] w fun e w' => e = .returned (.bool r) ∧ Below w.heap.size w w' := by
  have HR0 := Aside0.mk hr0
  have HC0 := Aside0.mk hc0
  clear hr0 hc0
  have HB := Aside0.mk (Below.refl w.heap.size w)
  have H : ((spec_l19Pieces.f k l0).bind fun t153 => (some t153)) = some r := h
  clear h
  replace H := Option.bind_eq_some_iff.mp H
  obtain ⟨t153, A20, H⟩ := H
  replace H : (some t153) = some r := H
  have A2 := Aside0.mk A20
  clear A20
  obtain rfl := Option.some.inj H
  go_enter Try.func29, Try.ntmps29
  go_wp2_with (first | ((with_reducible refine gate_callee (f := 69) rfl ?_); refine goesL_ (some 4) rfl rfl Try.func69 (by kernel_rfl) rfl #[.slice A0 l0.length c0] rfl (by (try simp only [List.map_toArray, List.map_cons, List.map_nil]); first | done | rfl | (simp only [List.length_drop, List.length_take]; rfl)) ?_; (with_reducible refine (spec_l19Pieces.calls k _ _ l0 t153 _ ?side1 ?side2 A2.out).mono ?_); (case side1 => repeat (first | exact HR0.out | (with_reducible refine Kd.C_alloc ?_ _) | (with_reducible refine Kd.C_drewN ?_ _) | (with_reducible refine Kd.C_drew ?_))); (case side2 => exact HC0.out); rintro e w3 ⟨rfl, hb⟩; refine ⟨_, rfl, ?_⟩; have n0_ := Aside0.mk (below_step (by repeat (first | (with_reducible first | exact HB.out | apply below_alloc | apply pw_below_drewN | apply below_drew1) | exact HB.out)) hb); clear HB; have HB := n0_; clear n0_; (try clear hb); (try clear hb2); (try clear hk); (try clear hi)))
  go_ret
  exact ⟨by first | rfl | (simp [errW_none, errW_some] <;> rfl) | (simp [*, errW_none, errW_some] <;> rfl), by repeat (first | (with_reducible first | exact HB.out | apply below_alloc | apply pw_below_drewN | apply below_drew1) | exact HB.out)⟩

/-! ### laws_toPoint: function 96 -/
def laws_toPoint.f (a0_0 : Int) (a0_1 : Int) : Option (Int × Int) := some (a0_0, a0_1)
set_option maxHeartbeats 8000000 in
set_option maxRecDepth 100000 in
theorem laws_toPoint.calls (a0_0 : Int) (a0_1 : Int) (r1 : Int) (r2 : Int) (w : World) (h : laws_toPoint.f a0_0 a0_1 = some (r1, r2)) :
    Calls Try.prog 96 #[.agg #[.int .i64 a0_0, .int .i64 a0_1]] w fun e w' => e = .returned (.agg #[.int .i64 r1, .int .i64 r2]) ∧ Below w.heap.size w w' := by
  have hu123 := Try.underlying123
  have hu105 := Try.underlying105
  have HB := Aside0.mk (Below.refl w.heap.size w)
  have H : (some (a0_0, a0_1)) = some (r1, r2) := h
  clear h
  simp only [Option.some.injEq, Prod.mk.injEq] at H
  obtain ⟨rfl, rfl⟩ := H
  go_enter Try.func96, Try.ntmps96
  go_wp2_with (first | ((with_reducible refine gate_dst (N := 1) rfl ?_); refine box_event ?hg (N := 1) ?hd (cs := #[.int .i64 a0_0, .int .i64 a0_1]) (t := 123) ?hr ?_; (case hd => rfl); (case hg => rfl); (case hr => first | (go_simp; done) | (go_simp; rfl)); intro gb154 hg w2 hbox hb; have n0_ := Aside0.mk (below_step (by repeat (first | (with_reducible first | exact HB.out | apply below_alloc | apply pw_below_drewN | apply below_drew1) | exact HB.out)) hb); have n1_ := Aside0.mk (hbox); have n2_ := Aside0.mk ((by rw [hg]; exact (below_size (by repeat (first | (with_reducible first | exact HB.out | apply below_alloc | apply pw_below_drewN | apply below_drew1) | exact HB.out))) : w.heap.size ≤ gb154)); have n3_ := Aside0.mk ((by rw [hg]; exact (below_size (by repeat (first | (with_reducible first | exact HB.out | apply below_alloc | apply pw_below_drewN | apply below_drew1) | exact HB.out))) : w.heap.size ≤ gb154)); clear HB; have HB := n0_; have BK154 := n1_; have GW154 := n2_; have GE154 := n3_; clear n0_ n1_ n2_ n3_; clear hb hbox hg) | ((with_reducible refine gate_dst (N := 2) rfl ?_); refine box_event ?hg (N := 2) ?hd (cs := #[.int .i64 0, .int .i64 0]) (t := 105) ?hr ?_; (case hd => rfl); (case hg => rfl); (case hr => first | (go_simp; done) | (go_simp; rfl)); intro gb155 hg w3 hbox hb; have n0_ := Aside0.mk (blk_below (g := gb154) (o := .cells #[.int .i64 a0_0, .int .i64 a0_1] 123 (0, 0)) (by (with_reducible repeat (first | refine blk_drewN ?_ _ | refine blk_drew ?_ | refine blk_alloc ?_ _)); exact BK154.out) hb); have n1_ := Aside0.mk (below_step (by repeat (first | (with_reducible first | exact HB.out | apply below_alloc | apply pw_below_drewN | apply below_drew1 | refine below_set ?_ GE154.out) | exact HB.out)) hb); have n2_ := Aside0.mk (hbox); have n3_ := Aside0.mk ((by rw [hg]; exact (below_size (by repeat (first | (with_reducible first | exact HB.out | apply below_alloc | apply pw_below_drewN | apply below_drew1 | refine below_set ?_ GE154.out) | exact HB.out))) : w.heap.size ≤ gb155)); have n4_ := Aside0.mk ((by rw [hg]; exact (below_size (by repeat (first | (with_reducible first | exact HB.out | apply below_alloc | apply pw_below_drewN | apply below_drew1 | refine below_set ?_ GE154.out) | exact HB.out))) : w.heap.size ≤ gb155)); have n5_ := Aside0.mk ((by rw [hg]; exact Nat.ne_of_lt (blk_lt (g := gb154) (o := .cells #[.int .i64 a0_0, .int .i64 a0_1] 123 (0, 0)) (by (with_reducible repeat (first | refine blk_drewN ?_ _ | refine blk_drew ?_ | refine blk_alloc ?_ _)); exact BK154.out)) : gb154 ≠ gb155)); have n6_ := Aside0.mk ((by rw [hg]; exact Nat.ne_of_gt (blk_lt (g := gb154) (o := .cells #[.int .i64 a0_0, .int .i64 a0_1] 123 (0, 0)) (by (with_reducible repeat (first | refine blk_drewN ?_ _ | refine blk_drew ?_ | refine blk_alloc ?_ _)); exact BK154.out)) : gb155 ≠ gb154)); clear BK154; clear HB; have BK154 := n0_; have HB := n1_; have BK155 := n2_; have GW155 := n3_; have GE155 := n4_; have NB154_155 := n5_; have NB155_154 := n6_; clear n0_ n1_ n2_ n3_ n4_ n5_ n6_; clear hb hbox hg) | ((with_reducible refine gate_dst (N := 3) rfl ?_); refine box_event ?hg (N := 3) ?hd (cs := #[.int .i64 0, .int .i64 0]) (t := 105) ?hr ?_; (case hd => rfl); (case hg => rfl); (case hr => first | (go_simp; done) | (go_simp; rfl)); intro gb156 hg w4 hbox hb; have n0_ := Aside0.mk (blk_below (g := gb154) (o := .cells #[.int .i64 a0_0, .int .i64 a0_1] 123 (0, 0)) (by (with_reducible repeat (first | refine blk_drewN ?_ _ | refine blk_drew ?_ | refine blk_alloc ?_ _)); exact BK154.out) hb); have n1_ := Aside0.mk (blk_below (g := gb155) (o := .cells #[.int .i64 0, .int .i64 0] 105 (0, 0)) (by (with_reducible repeat (first | refine blk_drewN ?_ _ | refine blk_drew ?_ | refine blk_alloc ?_ _)); exact BK155.out) hb); have n2_ := Aside0.mk (below_step (by repeat (first | (with_reducible first | exact HB.out | apply below_alloc | apply pw_below_drewN | apply below_drew1 | refine below_set ?_ GE154.out | refine below_set ?_ GE155.out) | exact HB.out)) hb); have n3_ := Aside0.mk (hbox); have n4_ := Aside0.mk ((by rw [hg]; exact (below_size (by repeat (first | (with_reducible first | exact HB.out | apply below_alloc | apply pw_below_drewN | apply below_drew1 | refine below_set ?_ GE154.out | refine below_set ?_ GE155.out) | exact HB.out))) : w.heap.size ≤ gb156)); have n5_ := Aside0.mk ((by rw [hg]; exact (below_size (by repeat (first | (with_reducible first | exact HB.out | apply below_alloc | apply pw_below_drewN | apply below_drew1 | refine below_set ?_ GE154.out | refine below_set ?_ GE155.out) | exact HB.out))) : w.heap.size ≤ gb156)); have n6_ := Aside0.mk ((by rw [hg]; exact Nat.ne_of_lt (blk_lt (g := gb154) (o := .cells #[.int .i64 a0_0, .int .i64 a0_1] 123 (0, 0)) (by (with_reducible repeat (first | refine blk_drewN ?_ _ | refine blk_drew ?_ | refine blk_alloc ?_ _)); exact BK154.out)) : gb154 ≠ gb156)); have n7_ := Aside0.mk ((by rw [hg]; exact Nat.ne_of_gt (blk_lt (g := gb154) (o := .cells #[.int .i64 a0_0, .int .i64 a0_1] 123 (0, 0)) (by (with_reducible repeat (first | refine blk_drewN ?_ _ | refine blk_drew ?_ | refine blk_alloc ?_ _)); exact BK154.out)) : gb156 ≠ gb154)); have n8_ := Aside0.mk ((by rw [hg]; exact Nat.ne_of_lt (blk_lt (g := gb155) (o := .cells #[.int .i64 0, .int .i64 0] 105 (0, 0)) (by (with_reducible repeat (first | refine blk_drewN ?_ _ | refine blk_drew ?_ | refine blk_alloc ?_ _)); exact BK155.out)) : gb155 ≠ gb156)); have n9_ := Aside0.mk ((by rw [hg]; exact Nat.ne_of_gt (blk_lt (g := gb155) (o := .cells #[.int .i64 0, .int .i64 0] 105 (0, 0)) (by (with_reducible repeat (first | refine blk_drewN ?_ _ | refine blk_drew ?_ | refine blk_alloc ?_ _)); exact BK155.out)) : gb156 ≠ gb155)); clear BK154; clear BK155; clear HB; have BK154 := n0_; have BK155 := n1_; have HB := n2_; have BK156 := n3_; have GW156 := n4_; have GE156 := n5_; have NB154_156 := n6_; have NB156_154 := n7_; have NB155_156 := n8_; have NB156_155 := n9_; clear n0_ n1_ n2_ n3_ n4_ n5_ n6_ n7_ n8_ n9_; clear hb hbox hg; have hnb5 := NB154_155.out; have hnc5 := NB155_154.out; have hnb6 := NB154_156.out; have hnc6 := NB156_154.out; have hcz7_0 : w4.cell? ⟨gb154, 0, none⟩ = some (.int .i64 a0_0) := (blk_cell BK154.out 0).trans rfl; have hcz7_1 : w4.cell? ⟨gb154, 1, none⟩ = some (.int .i64 a0_1) := (blk_cell BK154.out 1).trans rfl; have hfz7_0 := blk_frozen BK154.out 0; have hfz7_1 := blk_frozen BK154.out 1; have hnb8 := NB156_155.out; have hnc8 := NB155_156.out; have hcz9_0 : w4.cell? ⟨gb156, 0, none⟩ = some (.int .i64 0) := (blk_cell BK156.out 0).trans rfl; have hcz9_1 : w4.cell? ⟨gb156, 1, none⟩ = some (.int .i64 0) := (blk_cell BK156.out 1).trans rfl; have hfz9_0 := blk_frozen BK156.out 0; have hfz9_1 := blk_frozen BK156.out 1; have hcz10_0 : w4.cell? ⟨gb155, 0, none⟩ = some (.int .i64 0) := (blk_cell BK155.out 0).trans rfl; have hcz10_1 : w4.cell? ⟨gb155, 1, none⟩ = some (.int .i64 0) := (blk_cell BK155.out 1).trans rfl; have hfz10_0 := blk_frozen BK155.out 0; have hfz10_1 := blk_frozen BK155.out 1))
  refine bodyPost_ret (results_cell_row rfl _ _ gb155 105 #[.int .i64 a0_0, .int .i64 a0_1] (0, 0) _ rfl (by (with_reducible repeat (first | refine blk_drewN ?_ _ | refine blk_drew ?_ | refine blk_alloc ?_ _)); refine blk_put (cs := #[.int .i64 a0_0, .int .i64 0]) ?_ 1 _ rfl; (with_reducible repeat (first | refine blk_drewN ?_ _ | refine blk_drew ?_ | refine blk_alloc ?_ _)); refine blk_put (cs := #[.int .i64 0, .int .i64 0]) ?_ 0 _ rfl; (with_reducible repeat (first | refine blk_drewN ?_ _ | refine blk_drew ?_ | refine blk_alloc ?_ _)); refine blk_far ?_ NB155_156.out _; (with_reducible repeat (first | refine blk_drewN ?_ _ | refine blk_drew ?_ | refine blk_alloc ?_ _)); refine blk_far ?_ NB155_156.out _; (with_reducible repeat (first | refine blk_drewN ?_ _ | refine blk_drew ?_ | refine blk_alloc ?_ _)); exact BK155.out) Try.underlying105 rfl (by kernel_rfl)) rfl ?_
  exact ⟨by first | rfl | (simp [errW_none, errW_some] <;> rfl) | (simp [*, errW_none, errW_some] <;> rfl), by repeat (first | (with_reducible first | exact HB.out | apply below_alloc | apply pw_below_drewN | apply below_drew1 | refine below_set ?_ GE154.out | refine below_set ?_ GE155.out | refine below_set ?_ GE156.out) | exact HB.out)⟩

/-! ### laws_toPointS: function 74 -/
def laws_toPointS.l0 : Nat → List (S123) → List (S105) → Int → Option ((List (S105)))
  | 0, _, _, _ => none
  | k + 1, x0, x3, x4 => if x4 < (x0.length : Int) then (if 0 ≤ x4 then ((laws_toPoint.f ((rd_T123 x0 x4).f0) ((rd_T123 x0 x4).f1)).bind fun bt161 => (if x4 < (x3.length : Int) then (laws_toPointS.l0 k x0 (x3.set (x4 : Int).toNat (⟨bt161.1, bt161.2⟩ : S105)) (wrap64 (x4 + 1))) else (none))) else (none)) else (some x3)
def laws_toPointS.f (k : Nat) (l0 : List (S123)) : Option ((List (S105))) := if 0 ≤ (l0.length : Int) then (if ((l0.length : Int) : Int).toNat ≤ 17592186044416 then (laws_toPointS.l0 k l0 (List.replicate ((l0.length : Int) : Int).toNat z105) 0) else (none)) else (none)
theorem laws_toPointS.mono_l : ∀ k, (∀ y0 y1 y2, LeO (laws_toPointS.l0 k y0 y1 y2) (laws_toPointS.l0 (k + 1) y0 y1 y2))
  | 0 => fun _ _ _ r h => by simp [laws_toPointS.l0] at h
  | k + 1 => by
    have ih0 := laws_toPointS.mono_l k
    · intro y0 y1 y2
      unfold laws_toPointS.l0
      repeat' first
      | (with_reducible exact ih0 _ _ _)
      | (with_reducible exact LeO.refl _)
      | (with_reducible exact LeO.none _)
      | (with_reducible refine LeO.ite ?_ ?_)
      | (with_reducible refine LeO.bind ?_ (fun _ => ?_))
      | exact ih0 _ _ _
      | exact LeO.none _
      | refine LeO.ite ?_ ?_
      | refine LeO.bind ?_ (fun _ => ?_)
theorem laws_toPointS.mono : ∀ a0 k, LeO (laws_toPointS.f k a0) (laws_toPointS.f (k + 1) a0) := by
  intro a0 k
  have ih0 := laws_toPointS.mono_l k
  unfold laws_toPointS.f
  repeat' first
      | (with_reducible exact ih0 _ _ _)
      | (with_reducible exact LeO.refl _)
      | (with_reducible exact LeO.none _)
      | (with_reducible refine LeO.ite ?_ ?_)
      | (with_reducible refine LeO.bind ?_ (fun _ => ?_))
      | exact ih0 _ _ _
      | exact LeO.none _
      | refine LeO.ite ?_ ?_
      | refine LeO.bind ?_ (fun _ => ?_)
set_option maxHeartbeats 8000000 in
set_option maxRecDepth 100000 in
theorem laws_toPointS.calls (k : Nat) (A0 : Option Addr) (c0 : Nat) (l0 : List (S123)) (r : List (S105)) (w : World) (hr0 : Kd.C k123 w A0 l0.length l0) (hc0 : l0.length ≤ c0) (h : laws_toPointS.f k l0 = some r) :
    Calls Try.prog 74 #[.slice A0 l0.length c0] w fun e w' => ∃ v0_ : Value, e = .returned (v0_) ∧ Kd.R k105 105 w' w.heap.size (fun _ => True) v0_ r ∧ Below w.heap.size w w' := by
  have hu123 := Try.underlying123
  have hu105 := Try.underlying105
  have HR0 := Aside0.mk hr0
  have HC0 := Aside0.mk hc0
  clear hr0 hc0
  have HB := Aside0.mk (Below.refl w.heap.size w)
  have H : (if 0 ≤ (l0.length : Int) then (if ((l0.length : Int) : Int).toNat ≤ 17592186044416 then (laws_toPointS.l0 k l0 (List.replicate ((l0.length : Int) : Int).toNat z105) 0) else (none)) else (none)) = some r := h
  clear h
  by_cases c2 : 0 ≤ (l0.length : Int)
  · rw [if_pos c2] at H
    have c2b0 := eq_true c2
    have c2b1 : decide (0 ≤ (l0.length : Int)) = true := decide_eq_true c2
    clear c2
    by_cases c3 : ((l0.length : Int) : Int).toNat ≤ 17592186044416
    · rw [if_pos c3] at H
      have c3b0 := eq_true c3
      have c3b1 : decide (((l0.length : Int) : Int).toNat ≤ 17592186044416) = true := decide_eq_true c3
      clear c3
      obtain ⟨y157, hy157⟩ : ∃ y_ : List (S105), y_ = (List.replicate ((l0.length : Int) : Int).toNat z105) := ⟨_, rfl⟩
      replace H : (laws_toPointS.l0 k l0 y157 0) = some r := by first | (rw [hy157]; with_reducible exact H) | (have H2_ := (Option.bind_some _ _).symm.trans H; rw [hy157]; with_reducible exact H2_) | (have H2_ := (Option.bind_some _ _).symm.trans H; with_reducible exact H2_) | with_reducible exact H | (rw [hy157]; exact H) | exact H
      have Ny157 := Aside0.mk hy157
      clear hy157
      have H' := Aside0.mk H
      clear H
      go_enter Try.func74, Try.ntmps74
      go_wp2_with (first | ((with_reducible refine gate_dst (N := 7) rfl ?_); refine Kd.R_make k105 _ 105 rfl (N := 7) rfl 51 _ _ rfl (l0.length : Int) rfl rfl Try.underlying51 (.agg #[(.int .i64 0), (.int .i64 0)]) 16 info105 rfl (by decide) (by omega) z105 (ok := fun _ => True) (okp := fun _ => True) (k105_mkM _ _ _ z105 ) (fun _ hk => hk) trivial (of_decide_eq_true (by first | (with_reducible assumption) | assumption)) (Nat.le_trans (Nat.mul_le_mul_right _ (of_decide_eq_true (by first | (with_reducible assumption) | assumption) : (l0.length : Int).toNat ≤ 17592186044416)) (by omega)) (Below.refl _ _) (Nat.le_refl _) ?_; intro v158 w4 ho5 hb hg_ hnew_; clear hg_ hnew_; (first | rw [← Ny157.out] at ho5 | (simp only [Int.reduceToNat] at ho5; rw [← Ny157.out] at ho5)); have n0_ := Aside0.mk (Kd.R_lower ho5 (below_size (by repeat (first | (with_reducible first | exact HB.out | apply below_alloc | apply pw_below_drewN | apply below_drew1) | exact HB.out)))); have n1_ := Aside0.mk (below_step (by repeat (first | (with_reducible first | exact HB.out | apply below_alloc | apply pw_below_drewN | apply below_drew1) | exact HB.out)) hb); clear HB; have HO159 := n0_; have HB := n1_; clear n0_ n1_; clear hb ho5))
      go_loopg [4] k (fun kq v4 w' => ∃ (x3_1 : List (S105)) (x4_1 : Int), v4 = .int .i64 x4_1 ∧ Aside0 (laws_toPointS.l0 kq l0 x3_1 x4_1 = some r) ∧ Aside0 (kq ≤ k) ∧ Aside0 (Kd.R k105 105 w' w.heap.size (fun _ => True) v158 x3_1) ∧ Aside0 (Below w.heap.size w w'))
      case atStart => exact ⟨(y157), (0), (by first | rfl | (simp; done) | (simp [*]; done) | (simp [i64_w, i32_w]; done)), H', ⟨Nat.le_refl _⟩, ⟨by (with_reducible repeat (first | apply Kd.R_alloc | apply Kd.R_drewN | apply Kd.R_drew)); exact HO159.out⟩, ⟨by repeat (first | (with_reducible first | exact HB.out | apply below_alloc | apply pw_below_drewN | apply below_drew1) | exact HB.out)⟩⟩
      case round =>
        clear H'
        try clear c2
        try clear c2b0
        try clear c2b1
        try clear p2
        try clear c3
        try clear c3b0
        try clear c3b1
        obtain ⟨x3_1, x4_1, rfl, HA, HK1, HO_3, HB⟩ := hrel
        cases gk with
        | zero => exact absurd HA.out (by simp [laws_toPointS.l0])
        | succ k1 =>
          have H := HA.out
          clear HA
          simp only [laws_toPointS.l0] at H
          by_cases c6 : x4_1 < (l0.length : Int)
          · rw [if_pos c6] at H
            have c6b0 : decide (x4_1 < (l0.length : Int)) = true := decide_eq_true c6
            clear c6
            by_cases c7 : 0 ≤ x4_1
            · rw [if_pos c7] at H
              have c7b0 : decide (0 ≤ x4_1) = true := decide_eq_true c7
              clear c7
              replace H := Option.bind_eq_some_iff.mp H
              obtain ⟨⟨t161, t162⟩, A80, H⟩ := H
              replace H : (if x4_1 < (x3_1.length : Int) then (laws_toPointS.l0 k1 l0 (x3_1.set (x4_1 : Int).toNat (⟨t161, t162⟩ : S105)) (wrap64 (x4_1 + 1))) else (none)) = some r := H
              have A8 := Aside0.mk A80
              clear A80
              by_cases c9 : x4_1 < (x3_1.length : Int)
              · rw [if_pos c9] at H
                have c9b0 : decide (x4_1 < (x3_1.length : Int)) = true := decide_eq_true c9
                clear c9
                obtain ⟨y163, hy163⟩ : ∃ y_ : List (S105), y_ = (x3_1.set (x4_1 : Int).toNat (⟨t161, t162⟩ : S105)) := ⟨_, rfl⟩
                replace H : (laws_toPointS.l0 k1 l0 y163 (wrap64 (x4_1 + 1))) = some r := by first | (rw [hy163]; with_reducible exact H) | (have H2_ := (Option.bind_some _ _).symm.trans H; rw [hy163]; with_reducible exact H2_) | (have H2_ := (Option.bind_some _ _).symm.trans H; with_reducible exact H2_) | with_reducible exact H | (rw [hy163]; exact H) | exact H
                have Ny163 := Aside0.mk hy163
                clear hy163
                have H' := Aside0.mk H
                clear H
                have p160 : 0 ≤ (x4_1 : Int) := of_decide_eq_true (by first | (with_reducible assumption) | assumption)
                have q160 : x4_1 < (l0.length : Int) := of_decide_eq_true (by first | (with_reducible assumption) | assumption)
                obtain ⟨ad160, e160, hx160_0, hx160_1⟩ := at_T123 HR0.out x4_1 p160 q160
                cases e160
                replace hx160_0 := (HB.out.cell (World.block_lt_of_cell? w _ hx160_0)).trans hx160_0
                replace hx160_1 := (HB.out.cell (World.block_lt_of_cell? w _ hx160_1)).trans hx160_1
                replace p160 := eq_true p160
                replace q160 := eq_true q160
                go_wp2_with (first | ((with_reducible refine gate_callee (f := 96) rfl ?_); refine goesL_ (some 20) rfl rfl Try.func96 (by kernel_rfl) rfl #[.agg #[.int .i64 ((rd_T123 l0 x4_1).f0), .int .i64 ((rd_T123 l0 x4_1).f1)]] rfl (by (try simp only [List.map_toArray, List.map_cons, List.map_nil]); first | done | rfl | (simp only [List.length_drop, List.length_take]; rfl)) ?_; (with_reducible refine (laws_toPoint.calls ((rd_T123 l0 x4_1).f0) ((rd_T123 l0 x4_1).f1) t161 t162 _ A8.out).mono ?_); rintro e w11 ⟨rfl, hb⟩; refine ⟨_, rfl, ?_⟩; have n0_ := Aside0.mk (Kd.R_below (by (with_reducible repeat (first | apply Kd.R_alloc | apply Kd.R_drewN | apply Kd.R_drew)); exact HO_3.out) hb); have n1_ := Aside0.mk (below_step (by repeat (first | (with_reducible first | exact HB.out | apply below_alloc | apply pw_below_drewN | apply below_drew1) | exact HB.out)) hb); clear HO_3; clear HB; have HO_3 := n0_; have HB := n1_; clear n0_ n1_; (try clear hb); (try clear hb2); (try clear hk); (try clear hi); have p10 : 0 ≤ (x4_1 : Int) := of_decide_eq_true (by first | (with_reducible assumption) | assumption); have q10 : (x4_1 : Int) < ((x3_1.length : Int) : Int) := of_decide_eq_true (by first | (with_reducible assumption) | assumption); obtain ⟨go10, co10, eo10, gb10, gl10, cl10, HG10⟩ := Kd.R_form HO_3.out (by omega); (first | cases eo10 | (injection eo10 with ea_ en_ ec_; (first | subst ea_ | (injection ea_ with ea_; subst ea_)); subst ec_; clear en_)); have GB10 := Aside0.mk gb10; have GG10 := Aside0.mk HG10; clear gb10 gl10 HG10; obtain ⟨ce10, hcl10, hM10, hcc10, hfr10⟩ := Kd.R_elem HO_3.out z105 (x4_1 : Int) p10 q10; obtain rfl := k105_openM hM10; have hx10_0 : w11.cell? ⟨go10, (x4_1 : Int).toNat * 2, none⟩ = some (.int .i64 ((rd_T105 x3_1 x4_1).f0)) := hcc10 0 _ rfl; have hx10_1 : w11.cell? ⟨go10, (x4_1 : Int).toNat * 2 + 1, none⟩ = some (.int .i64 ((rd_T105 x3_1 x4_1).f1)) := hcc10 1 _ rfl; have hf10_0 : w11.frozen? ⟨go10, (x4_1 : Int).toNat * 2, none⟩ = false := hfr10 0; have hf10_1 : w11.frozen? ⟨go10, (x4_1 : Int).toNat * 2 + 1, none⟩ = false := hfr10 1; clear hcl10 hcc10 hfr10 hM10; replace p10 := eq_true p10; replace q10 := eq_true q10; have HX12 := Aside0.mk (show Kd.R k105 105 w11 w.heap.size (fun _ => True) (.slice (some ⟨go10, 0, none⟩) x3_1.length co10) x3_1 from (by (with_reducible repeat (first | apply Kd.R_alloc | apply Kd.R_drewN | apply Kd.R_drew)); exact HO_3.out)); obtain ⟨ce12, hcl12, hM12, hcc12, hfr12⟩ := Kd.R_elem HX12.out z105 (x4_1 : Int) (of_decide_eq_true (by first | (with_reducible assumption) | assumption)) (by have h_ : (x4_1 : Int) < ((x3_1.length : Int) : Int) := of_decide_eq_true (by first | (with_reducible assumption) | assumption); first | exact h_ | (have e_ := (Kd.R_reads' HO_3.out).1; omega) | simpa using h_); obtain rfl := k105_openM hM12; have HP12 := Kd.R_seg HX12.out (x4_1 : Int) (of_decide_eq_true (by first | (with_reducible assumption) | assumption)) (by have h_ : (x4_1 : Int) < ((x3_1.length : Int) : Int) := of_decide_eq_true (by first | (with_reducible assumption) | assumption); first | exact h_ | (have e_ := (Kd.R_reads' HO_3.out).1; omega) | simpa using h_) (seg := [.int .i64 t161, .int .i64 t162]) (j := 0) hcl12 hcc12 (show 2 ≤ 2 from by decide) (x' := (⟨t161, t162⟩ : S105)) (k105_mkM _ _ _ (⟨t161, t162⟩ : S105) ) (fun _ hk => hk); have hx12_0 := hcc12 0 _ rfl; (try simp only [show (k105).sz = 2 from rfl, Nat.mul_one, Nat.add_zero] at hx12_0); have hf12_0 := hfr12 0; (try simp only [show (k105).sz = 2 from rfl, Nat.mul_one, Nat.add_zero] at hf12_0); have hx12_1 := hcc12 1 _ rfl; (try simp only [show (k105).sz = 2 from rfl, Nat.mul_one, Nat.add_zero] at hx12_1); have hf12_1 := hfr12 1; (try simp only [show (k105).sz = 2 from rfl, Nat.mul_one, Nat.add_zero] at hf12_1); clear hcl12 hcc12 hfr12 hM12) | ((with_reducible refine gate_store (t := 105) (p := 21) rfl ?_); refine store_event (t := 105) (p := 21) (v := ?vo_w13) (w1 := ((w11.setCell ⟨go10, (x4_1 : Int).toNat * 2, none⟩ (.int .i64 t161)).setCell ⟨go10, (x4_1 : Int).toNat * 2 + 1, none⟩ (.int .i64 t162))) ?hg ?ho ?hn ?hr ?_; (case ho => rfl); (case hg => rfl); (case hn => rfl); (case hr => first | (go_simp; done) | (go_simp; rfl)); intro w13 hw; have hg : w11.grownBy w13 (some go10) := (by rw [hw]; exact HP12.2); have hp_ : Kd.R k105 105 w13 w.heap.size (fun _ => True) (.slice (some ⟨go10, 0, none⟩) x3_1.length co10) y163 := (by rw [hw, Ny163.out]; exact HP12.1); clear HP12; have n0_ := Aside0.mk (hp_); have n1_ := Aside0.mk ((by rw [hw]; exact below_set (below_set (HB.out) GB10.out) GB10.out : Below w.heap.size w w13)); clear HO_3; clear HB; have HO_3 := n0_; have HB := n1_; clear n0_ n1_; clear hg hw hp_))
                go_roundg k1
                case measure => have := HK1.out; omega
                case rel => exact ⟨(y163), (wrap64 (x4_1 + 1)), (by first | rfl | (simp; done) | (simp [*]; done) | (simp [i64_w, i32_w]; done)), H', ⟨by have := HK1.out; omega⟩, ⟨by (with_reducible repeat (first | apply Kd.R_alloc | apply Kd.R_drewN | apply Kd.R_drew)); exact HO_3.out⟩, ⟨by repeat (first | (with_reducible first | exact HB.out | apply below_alloc | apply pw_below_drewN | apply below_drew1) | exact HB.out)⟩⟩
              · rw [if_neg c9] at H
                exact absurd H (by simp)
            · rw [if_neg c7] at H
              exact absurd H (by simp)
          · rw [if_neg c6] at H
            have c6b0 : decide (x4_1 < (l0.length : Int)) = false := decide_eq_false c6
            clear c6
            obtain rfl := Option.some.inj H
            go_wp2
            go_ret
            exact ⟨_, by first | rfl | (simp [errW_none, errW_some] <;> rfl) | (simp [*, errW_none, errW_some] <;> rfl), by (with_reducible repeat (first | apply Kd.R_alloc | apply Kd.R_drewN | apply Kd.R_drew)); exact HO_3.out, by repeat (first | (with_reducible first | exact HB.out | apply below_alloc | apply pw_below_drewN | apply below_drew1) | exact HB.out)⟩
    · rw [if_neg c3] at H
      exact absurd H (by simp)
  · rw [if_neg c2] at H
    exact absurd H (by simp)

/-! ### laws_toPiece: function 35 -/
def laws_toPiece.f (k : Nat) (a0_0 : ByteArray) (l0_1 : List (S123)) (a0_2 : Int) (a0_3 : Bool) : Option (ByteArray × (List (S105)) × Int × Bool) := (laws_toPointS.f k l0_1).bind fun t167 => (some (a0_0, t167, a0_2, a0_3))
theorem laws_toPiece.mono : ∀ a0 a1 a2 a3 k, LeO (laws_toPiece.f k a0 a1 a2 a3) (laws_toPiece.f (k + 1) a0 a1 a2 a3) := by
  intro a0 a1 a2 a3 k
  unfold laws_toPiece.f
  repeat' first
      | (with_reducible exact laws_toPointS.mono _ _)
      | (with_reducible exact LeO.refl _)
      | (with_reducible exact LeO.none _)
      | (with_reducible refine LeO.ite ?_ ?_)
      | (with_reducible refine LeO.bind ?_ (fun _ => ?_))
      | exact laws_toPointS.mono _ _
      | exact LeO.none _
      | refine LeO.ite ?_ ?_
      | refine LeO.bind ?_ (fun _ => ?_)
set_option maxHeartbeats 8000000 in
set_option maxRecDepth 100000 in
theorem laws_toPiece.calls (k : Nat) (a0_0 : ByteArray) (A0_1 : Option Addr) (c0_1 : Nat) (l0_1 : List (S123)) (a0_2 : Int) (a0_3 : Bool) (r1 : ByteArray) (r2 : List (S105)) (r3 : Int) (r4 : Bool) (w : World) (hr0_1 : Kd.C k123 w A0_1 l0_1.length l0_1) (hc0_1 : l0_1.length ≤ c0_1) (h : laws_toPiece.f k a0_0 l0_1 a0_2 a0_3 = some (r1, r2, r3, r4)) :
    Calls Try.prog 35 #[.agg #[.string a0_0, .slice A0_1 l0_1.length c0_1, .int .i64 a0_2, .bool a0_3]] w fun e w' => ∃ v1_ : Value, e = .returned (.agg #[.string r1, v1_, .int .i64 r3, .bool r4]) ∧ Kd.R k105 105 w' w.heap.size (fun _ => True) v1_ r2 ∧ Below w.heap.size w w' := by
  have hu47 := Try.underlying47
  have hu53 := Try.underlying53
  have HR0_1 := Aside0.mk hr0_1
  have HC0_1 := Aside0.mk hc0_1
  clear hr0_1 hc0_1
  have HB := Aside0.mk (Below.refl w.heap.size w)
  have H : ((laws_toPointS.f k l0_1).bind fun t167 => (some (a0_0, t167, a0_2, a0_3))) = some (r1, r2, r3, r4) := h
  clear h
  replace H := Option.bind_eq_some_iff.mp H
  obtain ⟨t167, A20, H⟩ := H
  replace H : (some (a0_0, t167, a0_2, a0_3)) = some (r1, r2, r3, r4) := H
  have A2 := Aside0.mk A20
  clear A20
  simp only [Option.some.injEq, Prod.mk.injEq] at H
  obtain ⟨rfl, rfl, rfl, rfl⟩ := H
  go_enter Try.func35, Try.ntmps35
  go_wp2_with (first | ((with_reducible refine gate_dst (N := 1) rfl ?_); refine box_event ?hg (N := 1) ?hd (cs := #[.string a0_0, .slice A0_1 l0_1.length c0_1, .int .i64 a0_2, .bool a0_3]) (t := 47) ?hr ?_; (case hd => rfl); (case hg => rfl); (case hr => first | (go_simp; done) | (go_simp; rfl)); intro gb164 hg w3 hbox hb; have n0_ := Aside0.mk (below_step (by repeat (first | (with_reducible first | exact HB.out | apply below_alloc | apply pw_below_drewN | apply below_drew1) | exact HB.out)) hb); have n1_ := Aside0.mk (hbox); have n2_ := Aside0.mk ((by rw [hg]; exact (below_size (by repeat (first | (with_reducible first | exact HB.out | apply below_alloc | apply pw_below_drewN | apply below_drew1) | exact HB.out))) : w.heap.size ≤ gb164)); have n3_ := Aside0.mk ((by rw [hg]; exact (below_size (by repeat (first | (with_reducible first | exact HB.out | apply below_alloc | apply pw_below_drewN | apply below_drew1) | exact HB.out))) : w.heap.size ≤ gb164)); clear HB; have HB := n0_; have BK164 := n1_; have GW164 := n2_; have GE164 := n3_; clear n0_ n1_ n2_ n3_; clear hb hbox hg) | ((with_reducible refine gate_dst (N := 2) rfl ?_); refine box_event ?hg (N := 2) ?hd (cs := #[.string (⟨#[]⟩ : ByteArray), .slice none 0 0, .int .i64 0, .bool false]) (t := 53) ?hr ?_; (case hd => rfl); (case hg => rfl); (case hr => first | (go_simp; done) | (go_simp; rfl)); intro gb165 hg w4 hbox hb; have n0_ := Aside0.mk (blk_below (g := gb164) (o := .cells #[.string a0_0, .slice A0_1 l0_1.length c0_1, .int .i64 a0_2, .bool a0_3] 47 (0, 0)) (by (with_reducible repeat (first | refine blk_drewN ?_ _ | refine blk_drew ?_ | refine blk_alloc ?_ _)); exact BK164.out) hb); have n1_ := Aside0.mk (below_step (by repeat (first | (with_reducible first | exact HB.out | apply below_alloc | apply pw_below_drewN | apply below_drew1 | refine below_set ?_ GE164.out) | exact HB.out)) hb); have n2_ := Aside0.mk (hbox); have n3_ := Aside0.mk ((by rw [hg]; exact (below_size (by repeat (first | (with_reducible first | exact HB.out | apply below_alloc | apply pw_below_drewN | apply below_drew1 | refine below_set ?_ GE164.out) | exact HB.out))) : w.heap.size ≤ gb165)); have n4_ := Aside0.mk ((by rw [hg]; exact (below_size (by repeat (first | (with_reducible first | exact HB.out | apply below_alloc | apply pw_below_drewN | apply below_drew1 | refine below_set ?_ GE164.out) | exact HB.out))) : w.heap.size ≤ gb165)); have n5_ := Aside0.mk ((by rw [hg]; exact Nat.ne_of_lt (blk_lt (g := gb164) (o := .cells #[.string a0_0, .slice A0_1 l0_1.length c0_1, .int .i64 a0_2, .bool a0_3] 47 (0, 0)) (by (with_reducible repeat (first | refine blk_drewN ?_ _ | refine blk_drew ?_ | refine blk_alloc ?_ _)); exact BK164.out)) : gb164 ≠ gb165)); have n6_ := Aside0.mk ((by rw [hg]; exact Nat.ne_of_gt (blk_lt (g := gb164) (o := .cells #[.string a0_0, .slice A0_1 l0_1.length c0_1, .int .i64 a0_2, .bool a0_3] 47 (0, 0)) (by (with_reducible repeat (first | refine blk_drewN ?_ _ | refine blk_drew ?_ | refine blk_alloc ?_ _)); exact BK164.out)) : gb165 ≠ gb164)); clear BK164; clear HB; have BK164 := n0_; have HB := n1_; have BK165 := n2_; have GW165 := n3_; have GE165 := n4_; have NB164_165 := n5_; have NB165_164 := n6_; clear n0_ n1_ n2_ n3_ n4_ n5_ n6_; clear hb hbox hg) | ((with_reducible refine gate_dst (N := 3) rfl ?_); refine box_event ?hg (N := 3) ?hd (cs := #[.string (⟨#[]⟩ : ByteArray), .slice none 0 0, .int .i64 0, .bool false]) (t := 53) ?hr ?_; (case hd => rfl); (case hg => rfl); (case hr => first | (go_simp; done) | (go_simp; rfl)); intro gb166 hg w5 hbox hb; have n0_ := Aside0.mk (blk_below (g := gb164) (o := .cells #[.string a0_0, .slice A0_1 l0_1.length c0_1, .int .i64 a0_2, .bool a0_3] 47 (0, 0)) (by (with_reducible repeat (first | refine blk_drewN ?_ _ | refine blk_drew ?_ | refine blk_alloc ?_ _)); exact BK164.out) hb); have n1_ := Aside0.mk (blk_below (g := gb165) (o := .cells #[.string (⟨#[]⟩ : ByteArray), .slice none 0 0, .int .i64 0, .bool false] 53 (0, 0)) (by (with_reducible repeat (first | refine blk_drewN ?_ _ | refine blk_drew ?_ | refine blk_alloc ?_ _)); exact BK165.out) hb); have n2_ := Aside0.mk (below_step (by repeat (first | (with_reducible first | exact HB.out | apply below_alloc | apply pw_below_drewN | apply below_drew1 | refine below_set ?_ GE164.out | refine below_set ?_ GE165.out) | exact HB.out)) hb); have n3_ := Aside0.mk (hbox); have n4_ := Aside0.mk ((by rw [hg]; exact (below_size (by repeat (first | (with_reducible first | exact HB.out | apply below_alloc | apply pw_below_drewN | apply below_drew1 | refine below_set ?_ GE164.out | refine below_set ?_ GE165.out) | exact HB.out))) : w.heap.size ≤ gb166)); have n5_ := Aside0.mk ((by rw [hg]; exact (below_size (by repeat (first | (with_reducible first | exact HB.out | apply below_alloc | apply pw_below_drewN | apply below_drew1 | refine below_set ?_ GE164.out | refine below_set ?_ GE165.out) | exact HB.out))) : w.heap.size ≤ gb166)); have n6_ := Aside0.mk ((by rw [hg]; exact Nat.ne_of_lt (blk_lt (g := gb164) (o := .cells #[.string a0_0, .slice A0_1 l0_1.length c0_1, .int .i64 a0_2, .bool a0_3] 47 (0, 0)) (by (with_reducible repeat (first | refine blk_drewN ?_ _ | refine blk_drew ?_ | refine blk_alloc ?_ _)); exact BK164.out)) : gb164 ≠ gb166)); have n7_ := Aside0.mk ((by rw [hg]; exact Nat.ne_of_gt (blk_lt (g := gb164) (o := .cells #[.string a0_0, .slice A0_1 l0_1.length c0_1, .int .i64 a0_2, .bool a0_3] 47 (0, 0)) (by (with_reducible repeat (first | refine blk_drewN ?_ _ | refine blk_drew ?_ | refine blk_alloc ?_ _)); exact BK164.out)) : gb166 ≠ gb164)); have n8_ := Aside0.mk ((by rw [hg]; exact Nat.ne_of_lt (blk_lt (g := gb165) (o := .cells #[.string (⟨#[]⟩ : ByteArray), .slice none 0 0, .int .i64 0, .bool false] 53 (0, 0)) (by (with_reducible repeat (first | refine blk_drewN ?_ _ | refine blk_drew ?_ | refine blk_alloc ?_ _)); exact BK165.out)) : gb165 ≠ gb166)); have n9_ := Aside0.mk ((by rw [hg]; exact Nat.ne_of_gt (blk_lt (g := gb165) (o := .cells #[.string (⟨#[]⟩ : ByteArray), .slice none 0 0, .int .i64 0, .bool false] 53 (0, 0)) (by (with_reducible repeat (first | refine blk_drewN ?_ _ | refine blk_drew ?_ | refine blk_alloc ?_ _)); exact BK165.out)) : gb166 ≠ gb165)); clear BK164; clear BK165; clear HB; have BK164 := n0_; have BK165 := n1_; have HB := n2_; have BK166 := n3_; have GW166 := n4_; have GE166 := n5_; have NB164_166 := n6_; have NB166_164 := n7_; have NB165_166 := n8_; have NB166_165 := n9_; clear n0_ n1_ n2_ n3_ n4_ n5_ n6_ n7_ n8_ n9_; clear hb hbox hg; have hnb6 := NB164_165.out; have hnc6 := NB165_164.out; have hnb7 := NB164_166.out; have hnc7 := NB166_164.out; have hcz8_0 : w5.cell? ⟨gb164, 0, none⟩ = some (.string a0_0) := (blk_cell BK164.out 0).trans rfl; have hcz8_1 : w5.cell? ⟨gb164, 1, none⟩ = some (.slice A0_1 l0_1.length c0_1) := (blk_cell BK164.out 1).trans rfl; have hcz8_2 : w5.cell? ⟨gb164, 2, none⟩ = some (.int .i64 a0_2) := (blk_cell BK164.out 2).trans rfl; have hcz8_3 : w5.cell? ⟨gb164, 3, none⟩ = some (.bool a0_3) := (blk_cell BK164.out 3).trans rfl; have hfz8_0 := blk_frozen BK164.out 0; have hfz8_1 := blk_frozen BK164.out 1; have hfz8_2 := blk_frozen BK164.out 2; have hfz8_3 := blk_frozen BK164.out 3; have hnb9 := NB166_165.out; have hnc9 := NB165_166.out; have hcz10_0 : w5.cell? ⟨gb166, 0, none⟩ = some (.string (⟨#[]⟩ : ByteArray)) := (blk_cell BK166.out 0).trans rfl; have hcz10_1 : w5.cell? ⟨gb166, 1, none⟩ = some (.slice none 0 0) := (blk_cell BK166.out 1).trans rfl; have hcz10_2 : w5.cell? ⟨gb166, 2, none⟩ = some (.int .i64 0) := (blk_cell BK166.out 2).trans rfl; have hcz10_3 : w5.cell? ⟨gb166, 3, none⟩ = some (.bool false) := (blk_cell BK166.out 3).trans rfl; have hfz10_0 := blk_frozen BK166.out 0; have hfz10_1 := blk_frozen BK166.out 1; have hfz10_2 := blk_frozen BK166.out 2; have hfz10_3 := blk_frozen BK166.out 3) | ((with_reducible refine gate_callee (f := 74) rfl ?_); refine goesL_ (some 9) rfl rfl Try.func74 (by kernel_rfl) rfl #[.slice A0_1 l0_1.length c0_1] rfl (by (try simp only [List.map_toArray, List.map_cons, List.map_nil]); first | done | rfl | (simp only [List.length_drop, List.length_take]; rfl)) ?_; (with_reducible refine (laws_toPointS.calls k _ _ l0_1 t167 _ ?side1 ?side2 A2.out).mono ?_); (case side1 => exact Kd.C_below HR0_1.out (by repeat (first | (with_reducible first | exact HB.out | apply below_alloc | apply pw_below_drewN | apply below_drew1 | refine below_set ?_ GE164.out | refine below_set ?_ GE165.out | refine below_set ?_ GE166.out) | exact HB.out))); (case side2 => exact HC0_1.out); rintro e w11 ⟨v168, rfl, ho0, hb⟩; refine ⟨_, rfl, ?_⟩; have n0_ := Aside0.mk (Kd.R_lower ho0 (below_size (by repeat (first | (with_reducible first | exact HB.out | apply below_alloc | apply pw_below_drewN | apply below_drew1 | refine below_set ?_ GE164.out | refine below_set ?_ GE165.out | refine below_set ?_ GE166.out) | exact HB.out)))); have n1_ := Aside0.mk (blk_below (g := gb164) (o := .cells #[.string a0_0, .slice A0_1 l0_1.length c0_1, .int .i64 a0_2, .bool a0_3] 47 (0, 0)) (by (with_reducible repeat (first | refine blk_drewN ?_ _ | refine blk_drew ?_ | refine blk_alloc ?_ _)); refine blk_far ?_ NB164_166.out _; (with_reducible repeat (first | refine blk_drewN ?_ _ | refine blk_drew ?_ | refine blk_alloc ?_ _)); exact BK164.out) hb); have n2_ := Aside0.mk (blk_below (g := gb165) (o := .cells #[.string (⟨#[]⟩ : ByteArray), .slice none 0 0, .int .i64 0, .bool false] 53 (0, 0)) (by (with_reducible repeat (first | refine blk_drewN ?_ _ | refine blk_drew ?_ | refine blk_alloc ?_ _)); refine blk_far ?_ NB165_166.out _; (with_reducible repeat (first | refine blk_drewN ?_ _ | refine blk_drew ?_ | refine blk_alloc ?_ _)); exact BK165.out) hb); have n3_ := Aside0.mk (blk_below (g := gb166) (o := .cells #[.string a0_0, .slice none 0 0, .int .i64 0, .bool false] 53 (0, 0)) (by (with_reducible repeat (first | refine blk_drewN ?_ _ | refine blk_drew ?_ | refine blk_alloc ?_ _)); refine blk_put (cs := #[.string (⟨#[]⟩ : ByteArray), .slice none 0 0, .int .i64 0, .bool false]) ?_ 0 _ rfl; (with_reducible repeat (first | refine blk_drewN ?_ _ | refine blk_drew ?_ | refine blk_alloc ?_ _)); exact BK166.out) hb); have n4_ := Aside0.mk (below_step (by repeat (first | (with_reducible first | exact HB.out | apply below_alloc | apply pw_below_drewN | apply below_drew1 | refine below_set ?_ GE164.out | refine below_set ?_ GE165.out | refine below_set ?_ GE166.out) | exact HB.out)) hb); clear BK164; clear BK165; clear BK166; clear HB; have HO169 := n0_; have BK164 := n1_; have BK165 := n2_; have BK166 := n3_; have HB := n4_; clear n0_ n1_ n2_ n3_ n4_; (try clear hb); (try clear hb2); (try clear hk); (try clear hi); (try clear ho0); obtain ⟨Ao12, co12, eo12⟩ := Kd.R_slice HO169.out; subst eo12; have hcz13_0 : w11.cell? ⟨gb166, 0, none⟩ = some (.string a0_0) := (blk_cell BK166.out 0).trans rfl; have hcz13_1 : w11.cell? ⟨gb166, 1, none⟩ = some (.slice none 0 0) := (blk_cell BK166.out 1).trans rfl; have hcz13_2 : w11.cell? ⟨gb166, 2, none⟩ = some (.int .i64 0) := (blk_cell BK166.out 2).trans rfl; have hcz13_3 : w11.cell? ⟨gb166, 3, none⟩ = some (.bool false) := (blk_cell BK166.out 3).trans rfl; have hfz13_0 := blk_frozen BK166.out 0; have hfz13_1 := blk_frozen BK166.out 1; have hfz13_2 := blk_frozen BK166.out 2; have hfz13_3 := blk_frozen BK166.out 3; have hcz14_0 : w11.cell? ⟨gb164, 0, none⟩ = some (.string a0_0) := (blk_cell BK164.out 0).trans rfl; have hcz14_1 : w11.cell? ⟨gb164, 1, none⟩ = some (.slice A0_1 l0_1.length c0_1) := (blk_cell BK164.out 1).trans rfl; have hcz14_2 : w11.cell? ⟨gb164, 2, none⟩ = some (.int .i64 a0_2) := (blk_cell BK164.out 2).trans rfl; have hcz14_3 : w11.cell? ⟨gb164, 3, none⟩ = some (.bool a0_3) := (blk_cell BK164.out 3).trans rfl; have hfz14_0 := blk_frozen BK164.out 0; have hfz14_1 := blk_frozen BK164.out 1; have hfz14_2 := blk_frozen BK164.out 2; have hfz14_3 := blk_frozen BK164.out 3; have hcz15_0 : w11.cell? ⟨gb165, 0, none⟩ = some (.string (⟨#[]⟩ : ByteArray)) := (blk_cell BK165.out 0).trans rfl; have hcz15_1 : w11.cell? ⟨gb165, 1, none⟩ = some (.slice none 0 0) := (blk_cell BK165.out 1).trans rfl; have hcz15_2 : w11.cell? ⟨gb165, 2, none⟩ = some (.int .i64 0) := (blk_cell BK165.out 2).trans rfl; have hcz15_3 : w11.cell? ⟨gb165, 3, none⟩ = some (.bool false) := (blk_cell BK165.out 3).trans rfl; have hfz15_0 := blk_frozen BK165.out 0; have hfz15_1 := blk_frozen BK165.out 1; have hfz15_2 := blk_frozen BK165.out 2; have hfz15_3 := blk_frozen BK165.out 3))
  refine bodyPost_ret (results_cell_row rfl _ _ gb165 53 #[.string a0_0, .slice Ao12 t167.length co12, .int .i64 a0_2, .bool a0_3] (0, 0) _ rfl (by (with_reducible repeat (first | refine blk_drewN ?_ _ | refine blk_drew ?_ | refine blk_alloc ?_ _)); refine blk_put (cs := #[.string a0_0, .slice Ao12 t167.length co12, .int .i64 a0_2, .bool false]) ?_ 3 _ rfl; (with_reducible repeat (first | refine blk_drewN ?_ _ | refine blk_drew ?_ | refine blk_alloc ?_ _)); refine blk_put (cs := #[.string a0_0, .slice Ao12 t167.length co12, .int .i64 0, .bool false]) ?_ 2 _ rfl; (with_reducible repeat (first | refine blk_drewN ?_ _ | refine blk_drew ?_ | refine blk_alloc ?_ _)); refine blk_put (cs := #[.string a0_0, .slice none 0 0, .int .i64 0, .bool false]) ?_ 1 _ rfl; (with_reducible repeat (first | refine blk_drewN ?_ _ | refine blk_drew ?_ | refine blk_alloc ?_ _)); refine blk_put (cs := #[.string (⟨#[]⟩ : ByteArray), .slice none 0 0, .int .i64 0, .bool false]) ?_ 0 _ rfl; (with_reducible repeat (first | refine blk_drewN ?_ _ | refine blk_drew ?_ | refine blk_alloc ?_ _)); refine blk_far ?_ NB165_166.out _; (with_reducible repeat (first | refine blk_drewN ?_ _ | refine blk_drew ?_ | refine blk_alloc ?_ _)); refine blk_far ?_ NB165_166.out _; (with_reducible repeat (first | refine blk_drewN ?_ _ | refine blk_drew ?_ | refine blk_alloc ?_ _)); refine blk_far ?_ NB165_166.out _; (with_reducible repeat (first | refine blk_drewN ?_ _ | refine blk_drew ?_ | refine blk_alloc ?_ _)); exact BK165.out) Try.underlying53 rfl (by kernel_rfl)) rfl ?_
  exact ⟨_, by first | rfl | (simp [errW_none, errW_some] <;> rfl) | (simp [*, errW_none, errW_some] <;> rfl), by (with_reducible repeat (first | apply Kd.R_alloc | apply Kd.R_drewN | apply Kd.R_drew)); exact Kd.R_mono (Kd.R_far (p := ⟨gb165, 3, none⟩) (Kd.R_far (p := ⟨gb165, 2, none⟩) (Kd.R_far (p := ⟨gb165, 1, none⟩) (Kd.R_far (p := ⟨gb165, 0, none⟩) (Kd.R_far (p := ⟨gb166, 3, none⟩) (Kd.R_far (p := ⟨gb166, 2, none⟩) (Kd.R_far (p := ⟨gb166, 1, none⟩) (Kd.R_types (Kd.R_types HO169.out BK166.out (by decide)) BK165.out (by decide)) (fun _ hk => hk.1.2) (.slice Ao12 t167.length co12)) (fun _ hk => hk.1.2) (.int .i64 a0_2)) (fun _ hk => hk.1.2) (.bool a0_3)) (fun _ hk => hk.2) (.string a0_0)) (fun _ hk => hk.2) (.slice Ao12 t167.length co12)) (fun _ hk => hk.2) (.int .i64 a0_2)) (fun _ hk => hk.2) (.bool a0_3)) (fun _ hk => trivial), by repeat (first | (with_reducible first | exact HB.out | apply below_alloc | apply pw_below_drewN | apply below_drew1 | refine below_set ?_ GE164.out | refine below_set ?_ GE165.out | refine below_set ?_ GE166.out) | exact HB.out)⟩

end Go.Proofs.Ytakagkflgkoiiaa.GFnExactValidPieces

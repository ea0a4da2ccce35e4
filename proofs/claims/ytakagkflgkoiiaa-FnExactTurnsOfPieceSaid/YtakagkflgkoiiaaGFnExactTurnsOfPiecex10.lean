-- Written by the session's own program (gen.py) out of the translation's print. Lean checks it.
import Derived.Test.YtakagkflgkoiiaaGFnExactTurnsOfPiecex0
import Derived.Test.YtakagkflgkoiiaaGFnExactTurnsOfPiecex1
import Derived.Test.YtakagkflgkoiiaaGFnExactTurnsOfPiecex7
import Derived.Test.YtakagkflgkoiiaaGFnExactTurnsOfPiecex8
import Derived.Test.YtakagkflgkoiiaaGFnExactTurnsOfPiecex9
namespace Go.Proofs.Ytakagkflgkoiiaa.GFnExactTurnsOfPiece
open Go.RowKit Go.Proofs.YtakagkflgkoiiaaW.PrintWords Go.Proofs.YtakagkflgkoiiaaW.PrintLast Go.Proofs.YtakagkflgkoiiaaW.PrintMore
attribute [local go_sem] max2_int min2_int max_two min_two max_three min_three max_four min_four   -- for this text's walks alone
set_option linter.unusedVariables false
set_option linter.unusedSimpArgs false

attribute [local go_sem high] eqA105
/-! ### impl_validPiece: function 70 -/
mutual
def impl_validPiece.j0 : Nat → Bool → ByteArray → List (S105) → Int → Bool → Option (Bool)
  | 0, _, _, _, _, _ => none
  | k + 1, x23, x263000, x263001, x263002, x263003 => if x23 = true then (some false) else (impl_validPiece.l0 k x263001 (x263001.length : Int) 0 x263000 x263001 x263002 x263003)
def impl_validPiece.l0 : Nat → List (S105) → Int → Int → ByteArray → List (S105) → Int → Bool → Option (Bool)
  | 0, _, _, _, _, _, _, _ => none
  | k + 1, x25, x26, x27, x263000, x263001, x263002, x263003 => if x27 < x26 then (if 0 ≤ x27 then (if x27 < (x25.length : Int) then ((impl_within.f ((rd_T105 x25 x27).f0) 0 5).bind fun t274 => (if t274 = true then ((impl_within.f ((rd_T105 x25 x27).f1) 0 5).bind fun t275 => (if t275 = true then (if x27 > 0 then (if 0 ≤ (wrap64 (x27 - 1)) then (if (wrap64 (x27 - 1)) < (x263001.length : Int) then ((impl_compareCells.f ((rd_T105 x263001 (wrap64 (x27 - 1))).f0) ((rd_T105 x263001 (wrap64 (x27 - 1))).f1) ((rd_T105 x25 x27).f0) ((rd_T105 x25 x27).f1)).bind fun t277 => (if t277 ≥ 0 then (some false) else (impl_validPiece.l0 k x25 x26 (wrap64 (x27 + 1)) x263000 x263001 x263002 x263003))) else (none)) else (none)) else (impl_validPiece.l0 k x25 x26 (wrap64 (x27 + 1)) x263000 x263001 x263002 x263003)) else (some false))) else (some false))) else (none)) else (none)) else ((impl_bounds.f k x263001).bind fun bt266 => (some (bt266.1 == 0 && (bt266.2.1 == 0))))
end
def impl_validPiece.f (k : Nat) (a0_0 : ByteArray) (l0_1 : List (S105)) (a0_2 : Int) (a0_3 : Bool) : Option (Bool) := (impl_IsName.f k a0_0).bind fun t263 => (if t263 = true then ((impl_within.f (l0_1.length : Int) 1 6).bind fun t264 => (if t264 = true then ((impl_within.f a0_2 0 24).bind fun t265 => (impl_validPiece.j0 k (!t265) a0_0 l0_1 a0_2 a0_3)) else (impl_validPiece.j0 k true a0_0 l0_1 a0_2 a0_3))) else (impl_validPiece.j0 k true a0_0 l0_1 a0_2 a0_3))
def impl_validPiece.T6 : Bool × List (List Nat × List Nat) := (true, [([], []), ([0], [0]), ([1], [1]), ([2], [2]), ([3, 2], [3]), ([4], [4]), ([5, 4], [4, 5]), ([6, 4, 4], [4, 6]), ([7, 4], [4, 7]), ([4, 8], [4, 8]), ([9, 7], [9]), ([10], [10]), ([11, 10], [10, 11]), ([12, 10, 10], [10, 12]), ([13], [13]), ([14, 13], [13, 14]), ([13], [13]), ([16, 13], [13, 16]), ([15, 17, 13], [13, 15, 17]), ([18, 13], [13, 18]), ([13], [13]), ([19, 20, 13, 13], [13, 19, 20]), ([21, 13], [13, 21]), ([13, 22, 10], [10, 13, 22]), ([10, 23], [10, 23])])
def impl_validPiece.B6 : List Nat := [0, 1, 3, 7, 15, 31, 63, 127, 255, 511, 1023, 2047, 4095, 8191, 16383, 32767, 16383, 81919, 262143, 524287, 16383, 2097151, 4194303, 8388607, 16777215]
theorem impl_validPiece.tab6 : rtab .any (opsOf Try.f70 6) = impl_validPiece.T6 := by kernel_rfl
theorem impl_validPiece.bits6 : waitsOk impl_validPiece.T6.2 impl_validPiece.B6 = true := by kernel_rfl
open List renaming setIfInBounds_toArray → sA, set_cons_zero → sB, set_cons_succ → sC
open Go.Proofs.YtakagkflgkoiiaaW.PrintWords.Aside0 renaming mk → mkA
open Go.Proofs.YtakagkflgkoiiaaX (dt_ bc_ p0_ p1_ bl_ cb_ bs0_ bs1_ bs2_ bs3_ bs4_ bs5_ bs6_ bs7_ bs8_ bs9_ bs10_ bs11_ bs12_)
abbrev impl_validPiece.d0 : Array Bool := #[false, false, false, false, false, false, false, false, false, false, false, false, false, false, false, false, false, false, false, false, false, false, false, false, false]
abbrev impl_validPiece.d1 : Array Bool := #[true, false, false, false, false, false, false, false, false, false, false, false, false, false, false, false, false, false, false, false, false, false, false, false, false]
abbrev impl_validPiece.d2 : Array Bool := #[true, true, false, false, false, false, false, false, false, false, false, false, false, false, false, false, false, false, false, false, false, false, false, false, false]
abbrev impl_validPiece.d3 : Array Bool := #[true, true, true, false, false, false, false, false, false, false, false, false, false, false, false, false, false, false, false, false, false, false, false, false, false]
abbrev impl_validPiece.d4 : Array Bool := #[true, true, true, true, false, false, false, false, false, false, false, false, false, false, false, false, false, false, false, false, false, false, false, false, false]
abbrev impl_validPiece.d5 : Array Bool := #[true, true, true, true, true, false, false, false, false, false, false, false, false, false, false, false, false, false, false, false, false, false, false, false, false]
abbrev impl_validPiece.d6 : Array Bool := #[true, true, true, true, true, true, false, false, false, false, false, false, false, false, false, false, false, false, false, false, false, false, false, false, false]
abbrev impl_validPiece.d7 : Array Bool := #[true, true, true, true, true, true, true, false, false, false, false, false, false, false, false, false, false, false, false, false, false, false, false, false, false]
abbrev impl_validPiece.d8 : Array Bool := #[true, true, true, true, true, true, true, true, false, false, false, false, false, false, false, false, false, false, false, false, false, false, false, false, false]
abbrev impl_validPiece.d9 : Array Bool := #[true, true, true, true, true, true, true, true, true, false, false, false, false, false, false, false, false, false, false, false, false, false, false, false, false]
abbrev impl_validPiece.d10 : Array Bool := #[true, true, true, true, true, true, true, true, true, true, false, false, false, false, false, false, false, false, false, false, false, false, false, false, false]
abbrev impl_validPiece.d11 : Array Bool := #[true, true, true, true, true, true, true, true, true, true, true, false, false, false, false, false, false, false, false, false, false, false, false, false, false]
abbrev impl_validPiece.d12 : Array Bool := #[true, true, true, true, true, true, true, true, true, true, true, true, false, false, false, false, false, false, false, false, false, false, false, false, false]
abbrev impl_validPiece.d13 : Array Bool := #[true, true, true, true, true, true, true, true, true, true, true, true, true, false, false, false, false, false, false, false, false, false, false, false, false]
abbrev impl_validPiece.d14 : Array Bool := #[true, true, true, true, true, true, true, true, true, true, true, true, true, true, false, false, false, false, false, false, false, false, false, false, false]
abbrev impl_validPiece.d15 : Array Bool := #[true, true, true, true, true, true, true, true, true, true, true, true, true, true, true, false, false, false, false, false, false, false, false, false, false]
abbrev impl_validPiece.d16 : Array Bool := #[true, true, true, true, true, true, true, true, true, true, true, true, true, true, true, false, true, false, false, false, false, false, false, false, false]
abbrev impl_validPiece.d17 : Array Bool := #[true, true, true, true, true, true, true, true, true, true, true, true, true, true, true, false, true, true, false, false, false, false, false, false, false]
abbrev impl_validPiece.d18 : Array Bool := #[true, true, true, true, true, true, true, true, true, true, true, true, true, true, true, true, true, true, false, false, false, false, false, false, false]
abbrev impl_validPiece.d19 : Array Bool := #[true, true, true, true, true, true, true, true, true, true, true, true, true, true, true, true, true, true, true, false, false, false, false, false, false]
abbrev impl_validPiece.d20 : Array Bool := #[true, true, true, true, true, true, true, true, true, true, true, true, true, true, true, true, true, true, true, true, false, false, false, false, false]
abbrev impl_validPiece.d21 : Array Bool := #[true, true, true, true, true, true, true, true, true, true, true, true, true, true, true, true, true, true, true, true, true, false, false, false, false]
abbrev impl_validPiece.d22 : Array Bool := #[true, true, true, true, true, true, true, true, true, true, true, true, true, true, true, true, true, true, true, true, true, true, false, false, false]
abbrev impl_validPiece.d23 : Array Bool := #[true, true, true, true, true, true, true, true, true, true, true, true, true, true, true, true, true, true, true, true, true, true, true, false, false]
abbrev impl_validPiece.d24 : Array Bool := #[true, true, true, true, true, true, true, true, true, true, true, true, true, true, true, true, true, true, true, true, true, true, true, true, false]
abbrev impl_validPiece.d25 : Array Bool := #[true, true, true, true, true, true, true, true, true, true, true, true, true, true, true, true, true, true, true, true, true, true, true, true, true]
abbrev impl_validPiece.d26 : Array Bool := #[true, true, true, true, true, true, true, true, true, true, true, true, true, true, true, true, false, false, false, false, false, false, false, false, false]
abbrev impl_validPiece.d27 : Array Bool := #[true, true, true, true, true, true, true, true, true, true, true, true, true, true, true, true, true, false, false, false, false, false, false, false, false]
set_option maxHeartbeats 8000000 in
set_option maxRecDepth 100000 in
theorem impl_validPiece.calls (k : Nat) (a0_0 : ByteArray) (A0_1 : Option Addr) (c0_1 : Nat) (l0_1 : List (S105)) (a0_2 : Int) (a0_3 : Bool) (r : Bool) (w : World) (hr0_1 : Kd.C k105 w A0_1 l0_1.length l0_1) (hc0_1 : l0_1.length ≤ c0_1) (h : impl_validPiece.f k a0_0 l0_1 a0_2 a0_3 = some r) :
 Calls Try.prog 70 #[.agg #[.string a0_0, .slice A0_1 l0_1.length c0_1, .int .i64 a0_2, .bool a0_3]] w fun e w' => e = .returned (.bool r) ∧ Below w.heap.size w w' := by
 have hu53 := Try.underlying53
 have hu105 := Try.underlying105
 have HR0_1 := mkA hr0_1
 have HC0_1 := mkA hc0_1
 clear hr0_1 hc0_1
 have HB := mkA (Below.refl w.heap.size w)
 have H : ((impl_IsName.f k a0_0).bind fun t263 => (if t263 = true then ((impl_within.f (l0_1.length : Int) 1 6).bind fun t264 => (if t264 = true then ((impl_within.f a0_2 0 24).bind fun t265 => (impl_validPiece.j0 k (!t265) a0_0 l0_1 a0_2 a0_3)) else (impl_validPiece.j0 k true a0_0 l0_1 a0_2 a0_3))) else (impl_validPiece.j0 k true a0_0 l0_1 a0_2 a0_3))) = some r := h
 clear h
 have HC2 := mkA H
 clear H
 go_enter Try.func70, Try.ntmps70
 go_upto_region 1 with (first | ((with_reducible refine gate_dst (N := 1) rfl ?_); (try (refine gate_guard (by rfl) ?_; dsimp only)); refine box_event ?hg (N := 1) ?hd (cs := #[.string a0_0, .slice A0_1 l0_1.length c0_1, .int .i64 a0_2, .bool a0_3]) (t := 53) ?hr ?_; (case hd => rfl); (case hg => rfl); (case hr => first | (go_simp; done) | (go_simp; rfl)); intro gb262 hg w3 hbox hb; have n0_ := mkA (below_step (bs0_ HB.out) hb); have n1_ := mkA (hbox); have n2_ := mkA ((by rw [hg]; exact (below_size (bs0_ HB.out)) : w.heap.size ≤ gb262)); have n3_ := mkA ((by rw [hg]; exact (below_size (bs0_ HB.out)) : w.heap.size ≤ gb262)); clear HB; have HB := n0_; have BK262 := n1_; have GW262 := n2_; have GE262 := n3_; clear n0_ n1_ n2_ n3_; clear hb hbox hg))
 (try simp only [Act.put, sA, sB, sC])
 go_cut [23] (fun v23 wc => ∃ (kq : Nat) (x23_1 : Bool), v23 = .bool x23_1 ∧ Aside0 (impl_validPiece.j0 kq x23_1 a0_0 l0_1 a0_2 a0_3 = some r) ∧ Aside0 (kq ≤ k) ∧ Aside0 (wc.heap[gb262]? = some (.cells #[.string a0_0, (.slice A0_1 l0_1.length c0_1), .int .i64 a0_2, .bool a0_3] 53 (0, 0))) ∧ Aside0 (Below w.heap.size w wc))
 case first =>
  have H := HC2.out
  clear HC2
  replace H := Option.bind_eq_some_iff.mp H
  obtain ⟨t263, A40, H⟩ := H
  replace H : (if t263 = true then ((impl_within.f (l0_1.length : Int) 1 6).bind fun t264 => (if t264 = true then ((impl_within.f a0_2 0 24).bind fun t265 => (impl_validPiece.j0 k (!t265) a0_0 l0_1 a0_2 a0_3)) else (impl_validPiece.j0 k true a0_0 l0_1 a0_2 a0_3))) else (impl_validPiece.j0 k true a0_0 l0_1 a0_2 a0_3)) = some r := H
  have A4 := mkA A40
  clear A40
  by_cases c5 : t263 = true
  rotate_left
  · replace c5 := Bool.eq_false_iff.mpr c5
    subst c5
    have H1 : (impl_validPiece.j0 k true a0_0 l0_1 a0_2 a0_3) = some r := by rw [if_neg (show ¬ (false = true) by decide)] at H; exact H
    clear H
    have H := H1
    clear H1
    have H' := mkA H
    clear H
    have hcz11_0 : w3.cell? ⟨gb262, 0, none⟩ = some (.string a0_0) := (blk_cell BK262.out 0).trans rfl
    have hcz11_1 : w3.cell? ⟨gb262, 1, none⟩ = some (.slice A0_1 l0_1.length c0_1) := (blk_cell BK262.out 1).trans rfl
    have hcz11_2 : w3.cell? ⟨gb262, 2, none⟩ = some (.int .i64 a0_2) := (blk_cell BK262.out 2).trans rfl
    have hcz11_3 : w3.cell? ⟨gb262, 3, none⟩ = some (.bool a0_3) := (blk_cell BK262.out 3).trans rfl
    have hfz11_0 := blk_frozen BK262.out 0
    have hfz11_1 := blk_frozen BK262.out 1
    have hfz11_2 := blk_frozen BK262.out 2
    have hfz11_3 := blk_frozen BK262.out 3
    go_wp2_with (first | ((with_reducible refine gate_callee (f := 88) rfl ?_); refine goesL_ (some 9) rfl rfl Try.func88 (by kernel_rfl) rfl #[.string a0_0] rfl (by (try simp only [List.map_toArray, List.map_cons, List.map_nil]); first | done | rfl | (simp only [List.length_drop, List.length_take]; rfl)) ?_; (with_reducible refine (impl_IsName.calls k a0_0 false _ A4.out).mono ?_); rintro e w' ⟨rfl, ⟨nd, rfl⟩⟩; refine ⟨_, rfl, ?_⟩))
    go_meet
    case rel => exact ⟨_, (true), (by first | rfl | (simp; done) | (simp [*]; done) | (simp [i64_w, i32_w]; done)), H', ⟨by first | omega | exact Nat.le_refl _⟩, ⟨by (with_reducible repeat (first | refine blk_drewN ?_ _ | refine blk_drew ?_ | refine blk_alloc ?_ _)); exact BK262.out⟩, ⟨by repeat (first | (with_reducible first | exact HB.out | apply below_alloc | apply pw_below_drewN | apply below_drew1 | refine below_set ?_ GE262.out) | exact HB.out)⟩⟩
  subst c5
  have H1 : ((impl_within.f (l0_1.length : Int) 1 6).bind fun t264 => (if t264 = true then ((impl_within.f a0_2 0 24).bind fun t265 => (impl_validPiece.j0 k (!t265) a0_0 l0_1 a0_2 a0_3)) else (impl_validPiece.j0 k true a0_0 l0_1 a0_2 a0_3))) = some r := by rw [if_pos rfl] at H; exact H
  clear H
  have H := H1
  clear H1
  replace H := Option.bind_eq_some_iff.mp H
  obtain ⟨t264, A60, H⟩ := H
  replace H : (if t264 = true then ((impl_within.f a0_2 0 24).bind fun t265 => (impl_validPiece.j0 k (!t265) a0_0 l0_1 a0_2 a0_3)) else (impl_validPiece.j0 k true a0_0 l0_1 a0_2 a0_3)) = some r := H
  have A6 := mkA A60
  clear A60
  by_cases c7 : t264 = true
  rotate_left
  · replace c7 := Bool.eq_false_iff.mpr c7
    subst c7
    have H1 : (impl_validPiece.j0 k true a0_0 l0_1 a0_2 a0_3) = some r := by rw [if_neg (show ¬ (false = true) by decide)] at H; exact H
    clear H
    have H := H1
    clear H1
    have H' := mkA H
    clear H
    have hcz10_0 : w3.cell? ⟨gb262, 0, none⟩ = some (.string a0_0) := (blk_cell BK262.out 0).trans rfl
    have hcz10_1 : w3.cell? ⟨gb262, 1, none⟩ = some (.slice A0_1 l0_1.length c0_1) := (blk_cell BK262.out 1).trans rfl
    have hcz10_2 : w3.cell? ⟨gb262, 2, none⟩ = some (.int .i64 a0_2) := (blk_cell BK262.out 2).trans rfl
    have hcz10_3 : w3.cell? ⟨gb262, 3, none⟩ = some (.bool a0_3) := (blk_cell BK262.out 3).trans rfl
    have hfz10_0 := blk_frozen BK262.out 0
    have hfz10_1 := blk_frozen BK262.out 1
    have hfz10_2 := blk_frozen BK262.out 2
    have hfz10_3 := blk_frozen BK262.out 3
    go_wp2_with (first | ((with_reducible refine gate_callee (f := 88) rfl ?_); refine goesL_ (some 9) rfl rfl Try.func88 (by kernel_rfl) rfl #[.string a0_0] rfl (by (try simp only [List.map_toArray, List.map_cons, List.map_nil]); first | done | rfl | (simp only [List.length_drop, List.length_take]; rfl)) ?_; (with_reducible refine (impl_IsName.calls k a0_0 true _ A4.out).mono ?_); rintro e w' ⟨rfl, ⟨nd, rfl⟩⟩; refine ⟨_, rfl, ?_⟩) | (go_at_call 57; (with_reducible refine (impl_within.calls (l0_1.length : Int) 1 6 false _ A6.out).mono ?_); rintro e w' ⟨rfl, ⟨nd, rfl⟩⟩))
    go_meet
    case rel => exact ⟨_, (true), (by first | rfl | (simp; done) | (simp [*]; done) | (simp [i64_w, i32_w]; done)), H', ⟨by first | omega | exact Nat.le_refl _⟩, ⟨by (with_reducible repeat (first | refine blk_drewN ?_ _ | refine blk_drew ?_ | refine blk_alloc ?_ _)); exact BK262.out⟩, ⟨by repeat (first | (with_reducible first | exact HB.out | apply below_alloc | apply pw_below_drewN | apply below_drew1 | refine below_set ?_ GE262.out) | exact HB.out)⟩⟩
  subst c7
  have H1 : ((impl_within.f a0_2 0 24).bind fun t265 => (impl_validPiece.j0 k (!t265) a0_0 l0_1 a0_2 a0_3)) = some r := by rw [if_pos rfl] at H; exact H
  clear H
  have H := H1
  clear H1
  replace H := Option.bind_eq_some_iff.mp H
  obtain ⟨t265, A80, H⟩ := H
  replace H : (impl_validPiece.j0 k (!t265) a0_0 l0_1 a0_2 a0_3) = some r := H
  have A8 := mkA A80
  clear A80
  have H' := mkA H
  clear H
  have hcz9_0 : w3.cell? ⟨gb262, 0, none⟩ = some (.string a0_0) := (blk_cell BK262.out 0).trans rfl
  have hcz9_1 : w3.cell? ⟨gb262, 1, none⟩ = some (.slice A0_1 l0_1.length c0_1) := (blk_cell BK262.out 1).trans rfl
  have hcz9_2 : w3.cell? ⟨gb262, 2, none⟩ = some (.int .i64 a0_2) := (blk_cell BK262.out 2).trans rfl
  have hcz9_3 : w3.cell? ⟨gb262, 3, none⟩ = some (.bool a0_3) := (blk_cell BK262.out 3).trans rfl
  have hfz9_0 := blk_frozen BK262.out 0
  have hfz9_1 := blk_frozen BK262.out 1
  have hfz9_2 := blk_frozen BK262.out 2
  have hfz9_3 := blk_frozen BK262.out 3
  go_wp2_with (first | ((with_reducible refine gate_callee (f := 88) rfl ?_); refine goesL_ (some 9) rfl rfl Try.func88 (by kernel_rfl) rfl #[.string a0_0] rfl (by (try simp only [List.map_toArray, List.map_cons, List.map_nil]); first | done | rfl | (simp only [List.length_drop, List.length_take]; rfl)) ?_; (with_reducible refine (impl_IsName.calls k a0_0 true _ A4.out).mono ?_); rintro e w' ⟨rfl, ⟨nd, rfl⟩⟩; refine ⟨_, rfl, ?_⟩) | (go_at_call 57; (with_reducible refine (impl_within.calls (l0_1.length : Int) 1 6 true _ A6.out).mono ?_); rintro e w' ⟨rfl, ⟨nd, rfl⟩⟩) | (go_at_call 57; (with_reducible refine (impl_within.calls a0_2 0 24 t265 _ A8.out).mono ?_); rintro e w' ⟨rfl, ⟨nd, rfl⟩⟩))
  go_meet
  case rel => exact ⟨_, (!t265), (by first | rfl | (simp; done) | (simp [*]; done) | (simp [i64_w, i32_w]; done)), H', ⟨by first | omega | exact Nat.le_refl _⟩, ⟨by (with_reducible repeat (first | refine blk_drewN ?_ _ | refine blk_drew ?_ | refine blk_alloc ?_ _)); exact BK262.out⟩, ⟨by repeat (first | (with_reducible first | exact HB.out | apply below_alloc | apply pw_below_drewN | apply below_drew1 | refine below_set ?_ GE262.out) | exact HB.out)⟩⟩
 case rest =>
  clear HC2
  try clear p2
  try clear c5
  try clear c7
  try clear c8
  try clear hcz10_0
  try clear hcz10_1
  try clear hcz10_2
  try clear hcz10_3
  try clear hcz11_0
  try clear hcz11_1
  try clear hcz11_2
  try clear hcz11_3
  try clear hcz9_0
  try clear hcz9_1
  try clear hcz9_2
  try clear hcz9_3
  try clear hfz10_0
  try clear hfz10_1
  try clear hfz10_2
  try clear hfz10_3
  try clear hfz11_0
  try clear hfz11_1
  try clear hfz11_2
  try clear hfz11_3
  try clear hfz9_0
  try clear hfz9_1
  try clear hfz9_2
  try clear hfz9_3
  obtain ⟨kq, x23_1, rfl, HA, HJ1, BK262, HB⟩ := hcut
  cases kq with
  | zero => exact absurd HA.out (by simp [impl_validPiece.j0])
  | succ kj1 =>
   have H := HA.out
   clear HA
   simp only [impl_validPiece.j0] at H
   by_cases c12 : x23_1 = true
   · subst c12
     have H1 : (some false) = some r := by rw [if_pos rfl] at H; exact H
     clear H
     have H := H1
     clear H1
     obtain rfl := Option.some.inj H
     go_wp2
     go_ret
     exact ⟨by first | rfl | (simp [errW_none, errW_some] <;> rfl) | (simp [*, errW_none, errW_some] <;> rfl), by repeat (first | (with_reducible first | exact HB.out | apply below_alloc | apply pw_below_drewN | apply below_drew1 | refine below_set ?_ GE262.out) | exact HB.out)⟩
   · replace c12 := Bool.eq_false_iff.mpr c12
     subst c12
     have H1 : (impl_validPiece.l0 kj1 l0_1 (l0_1.length : Int) 0 a0_0 l0_1 a0_2 a0_3) = some r := by rw [if_neg (show ¬ (false = true) by decide)] at H; exact H
     clear H
     have H := H1
     clear H1
     have H' := mkA H
     clear H
     have hcz13_0 : wc.cell? ⟨gb262, 0, none⟩ = some (.string a0_0) := (blk_cell BK262.out 0).trans rfl
     have hcz13_1 : wc.cell? ⟨gb262, 1, none⟩ = some (.slice A0_1 l0_1.length c0_1) := (blk_cell BK262.out 1).trans rfl
     have hcz13_2 : wc.cell? ⟨gb262, 2, none⟩ = some (.int .i64 a0_2) := (blk_cell BK262.out 2).trans rfl
     have hcz13_3 : wc.cell? ⟨gb262, 3, none⟩ = some (.bool a0_3) := (blk_cell BK262.out 3).trans rfl
     have hfz13_0 := blk_frozen BK262.out 0
     have hfz13_1 := blk_frozen BK262.out 1
     have hfz13_2 := blk_frozen BK262.out 2
     have hfz13_3 := blk_frozen BK262.out 3
     go_wp2
     go_loopg [27] kj1 (fun kq v27 w' => ∃ (x27_2 : Int), v27 = .int .i64 x27_2 ∧ Aside0 (impl_validPiece.l0 kq l0_1 (l0_1.length : Int) x27_2 a0_0 l0_1 a0_2 a0_3 = some r) ∧ Aside0 (kq ≤ kj1) ∧ Aside0 (w'.heap[gb262]? = some (.cells #[.string a0_0, (.slice A0_1 l0_1.length c0_1), .int .i64 a0_2, .bool a0_3] 53 (0, 0))) ∧ Aside0 (Below w.heap.size w w'))
     case atStart => exact ⟨(0), (by first | rfl | (simp; done) | (simp [*]; done) | (simp [i64_w, i32_w]; done)), H', ⟨Nat.le_refl _⟩, ⟨by (with_reducible repeat (first | refine blk_drewN ?_ _ | refine blk_drew ?_ | refine blk_alloc ?_ _)); exact BK262.out⟩, ⟨by repeat (first | (with_reducible first | exact HB.out | apply below_alloc | apply pw_below_drewN | apply below_drew1 | refine below_set ?_ GE262.out) | exact HB.out)⟩⟩
     case round =>
      clear H'
      try clear c1
      try clear p2
      try clear c5
      try clear c7
      try clear c8
      try clear c12
      try clear hcz10_0
      try clear hcz10_1
      try clear hcz10_2
      try clear hcz10_3
      try clear hcz11_0
      try clear hcz11_1
      try clear hcz11_2
      try clear hcz11_3
      try clear hcz13_0
      try clear hcz13_1
      try clear hcz13_2
      try clear hcz13_3
      try clear hcz9_0
      try clear hcz9_1
      try clear hcz9_2
      try clear hcz9_3
      try clear hfz10_0
      try clear hfz10_1
      try clear hfz10_2
      try clear hfz10_3
      try clear hfz11_0
      try clear hfz11_1
      try clear hfz11_2
      try clear hfz11_3
      try clear hfz13_0
      try clear hfz13_1
      try clear hfz13_2
      try clear hfz13_3
      try clear hfz9_0
      try clear hfz9_1
      try clear hfz9_2
      try clear hfz9_3
      try clear p2
      obtain ⟨x27_2, rfl, HA, HK2, BK262, HB⟩ := hrel
      cases gk with
      | zero => exact absurd HA.out (by simp [impl_validPiece.l0])
      | succ k2 =>
       have H := HA.out
       clear HA
       simp only [impl_validPiece.l0] at H
       by_cases c14 : x27_2 < (l0_1.length : Int)
       rotate_left
       · rw [if_neg c14] at H
         have c14b0 : decide (x27_2 < (l0_1.length : Int)) = false := decide_eq_false c14
         clear c14
         replace H := Option.bind_eq_some_iff.mp H
         obtain ⟨⟨t266, t267, t268, t269⟩, A540, H⟩ := H
         replace H : (some (t266 == 0 && (t267 == 0))) = some r := H
         have A54 := mkA A540
         clear A540
         obtain rfl := Option.some.inj H
         have hcz55_0 : wr.cell? ⟨gb262, 0, none⟩ = some (.string a0_0) := (blk_cell BK262.out 0).trans rfl
         have hcz55_1 : wr.cell? ⟨gb262, 1, none⟩ = some (.slice A0_1 l0_1.length c0_1) := (blk_cell BK262.out 1).trans rfl
         have hcz55_2 : wr.cell? ⟨gb262, 2, none⟩ = some (.int .i64 a0_2) := (blk_cell BK262.out 2).trans rfl
         have hcz55_3 : wr.cell? ⟨gb262, 3, none⟩ = some (.bool a0_3) := (blk_cell BK262.out 3).trans rfl
         have hfz55_0 := blk_frozen BK262.out 0
         have hfz55_1 := blk_frozen BK262.out 1
         have hfz55_2 := blk_frozen BK262.out 2
         have hfz55_3 := blk_frozen BK262.out 3
         go_wp2_with (first | ((with_reducible refine gate_callee (f := 90) rfl ?_); refine goesL_ (some 61) rfl rfl Try.func90 (by kernel_rfl) rfl #[.slice A0_1 l0_1.length c0_1] rfl (by (try simp only [List.map_toArray, List.map_cons, List.map_nil]); first | done | rfl | (simp only [List.length_drop, List.length_take]; rfl)) ?_; (with_reducible refine (impl_bounds.calls k2 _ _ l0_1 t266 t267 t268 t269 _ ?side1 ?side2 A54.out).mono ?_); (case side1 => exact cb_ HR0_1.out HB.out); (case side2 => exact HC0_1.out); rintro e w56 ⟨rfl, hb⟩; refine ⟨_, rfl, ?_⟩; have n0_ := mkA (blk_below (g := gb262) (o := .cells #[.string a0_0, .slice A0_1 l0_1.length c0_1, .int .i64 a0_2, .bool a0_3] 53 (0, 0)) (bl_ BK262.out) hb); have n1_ := mkA (below_step (bs1_ HB.out GE262.out) hb); clear BK262; clear HB; have BK262 := n0_; have HB := n1_; clear n0_ n1_; (try clear hb); (try clear hb2); (try clear hk); (try clear hi)) | ((with_reducible refine gate_dst (N := 5) rfl ?_); (try (refine gate_guard (by rfl) ?_; dsimp only)); refine box_event ?hg (N := 5) ?hd (cs := #[.int .i64 0, .int .i64 0]) (t := 105) ?hr ?_; (case hd => rfl); (case hg => rfl); (case hr => first | (go_simp; done) | (go_simp; rfl)); intro gb270 hg w57 hbox hb; have n0_ := mkA (blk_below (g := gb262) (o := .cells #[.string a0_0, .slice A0_1 l0_1.length c0_1, .int .i64 a0_2, .bool a0_3] 53 (0, 0)) (bl_ BK262.out) hb); have n1_ := mkA (below_step (bs1_ HB.out GE262.out) hb); have n2_ := mkA (hbox); have n3_ := mkA ((by rw [hg]; exact (below_size (bs1_ HB.out GE262.out)) : w.heap.size ≤ gb270)); have n4_ := mkA ((by rw [hg]; exact (below_size (bs1_ HB.out GE262.out)) : w.heap.size ≤ gb270)); have n5_ := mkA ((by rw [hg]; exact Nat.ne_of_lt (blk_lt (g := gb262) (o := .cells #[.string a0_0, .slice A0_1 l0_1.length c0_1, .int .i64 a0_2, .bool a0_3] 53 (0, 0)) (bl_ BK262.out)) : gb262 ≠ gb270)); have n6_ := mkA ((by rw [hg]; exact Nat.ne_of_gt (blk_lt (g := gb262) (o := .cells #[.string a0_0, .slice A0_1 l0_1.length c0_1, .int .i64 a0_2, .bool a0_3] 53 (0, 0)) (bl_ BK262.out)) : gb270 ≠ gb262)); clear BK262; clear HB; have BK262 := n0_; have HB := n1_; have BK270 := n2_; have GW270 := n3_; have GE270 := n4_; have NB262_270 := n5_; have NB270_262 := n6_; clear n0_ n1_ n2_ n3_ n4_ n5_ n6_; clear hb hbox hg) | ((with_reducible refine gate_dst (N := 6) rfl ?_); (try (refine gate_guard (by rfl) ?_; dsimp only)); refine box_event ?hg (N := 6) ?hd (cs := #[.int .i64 0, .int .i64 0]) (t := 105) ?hr ?_; (case hd => rfl); (case hg => rfl); (case hr => first | (go_simp; done) | (go_simp; rfl)); intro gb271 hg w58 hbox hb; have n0_ := mkA (blk_below (g := gb262) (o := .cells #[.string a0_0, .slice A0_1 l0_1.length c0_1, .int .i64 a0_2, .bool a0_3] 53 (0, 0)) (bl_ BK262.out) hb); have n1_ := mkA (blk_below (g := gb270) (o := .cells #[.int .i64 0, .int .i64 0] 105 (0, 0)) (bl_ BK270.out) hb); have n2_ := mkA (below_step (bs2_ HB.out GE262.out GE270.out) hb); have n3_ := mkA (hbox); have n4_ := mkA ((by rw [hg]; exact (below_size (bs2_ HB.out GE262.out GE270.out)) : w.heap.size ≤ gb271)); have n5_ := mkA ((by rw [hg]; exact (below_size (bs2_ HB.out GE262.out GE270.out)) : w.heap.size ≤ gb271)); have n6_ := mkA ((by rw [hg]; exact Nat.ne_of_lt (blk_lt (g := gb262) (o := .cells #[.string a0_0, .slice A0_1 l0_1.length c0_1, .int .i64 a0_2, .bool a0_3] 53 (0, 0)) (bl_ BK262.out)) : gb262 ≠ gb271)); have n7_ := mkA ((by rw [hg]; exact Nat.ne_of_gt (blk_lt (g := gb262) (o := .cells #[.string a0_0, .slice A0_1 l0_1.length c0_1, .int .i64 a0_2, .bool a0_3] 53 (0, 0)) (bl_ BK262.out)) : gb271 ≠ gb262)); have n8_ := mkA ((by rw [hg]; exact Nat.ne_of_lt (blk_lt (g := gb270) (o := .cells #[.int .i64 0, .int .i64 0] 105 (0, 0)) (bl_ BK270.out)) : gb270 ≠ gb271)); have n9_ := mkA ((by rw [hg]; exact Nat.ne_of_gt (blk_lt (g := gb270) (o := .cells #[.int .i64 0, .int .i64 0] 105 (0, 0)) (bl_ BK270.out)) : gb271 ≠ gb270)); clear BK262; clear BK270; clear HB; have BK262 := n0_; have BK270 := n1_; have HB := n2_; have BK271 := n3_; have GW271 := n4_; have GE271 := n5_; have NB262_271 := n6_; have NB271_262 := n7_; have NB270_271 := n8_; have NB271_270 := n9_; clear n0_ n1_ n2_ n3_ n4_ n5_ n6_ n7_ n8_ n9_; clear hb hbox hg; have hnb59 := NB270_262.out; have hnc59 := NB262_270.out; have hnb60 := NB270_271.out; have hnc60 := NB271_270.out; have hcz61_0 : w58.cell? ⟨gb270, 0, none⟩ = some (.int .i64 0) := (blk_cell BK270.out 0).trans rfl; have hcz61_1 : w58.cell? ⟨gb270, 1, none⟩ = some (.int .i64 0) := (blk_cell BK270.out 1).trans rfl; have hfz61_0 := blk_frozen BK270.out 0; have hfz61_1 := blk_frozen BK270.out 1; have hnb62 := NB271_262.out; have hnc62 := NB262_271.out; have hcz63_0 : w58.cell? ⟨gb271, 0, none⟩ = some (.int .i64 0) := (blk_cell BK271.out 0).trans rfl; have hcz63_1 : w58.cell? ⟨gb271, 1, none⟩ = some (.int .i64 0) := (blk_cell BK271.out 1).trans rfl; have hfz63_0 := blk_frozen BK271.out 0; have hfz63_1 := blk_frozen BK271.out 1))
         go_ret
         exact ⟨by first | rfl | (simp [errW_none, errW_some] <;> rfl) | (simp [*, errW_none, errW_some] <;> rfl), by repeat (first | (with_reducible first | exact HB.out | apply below_alloc | apply pw_below_drewN | apply below_drew1 | refine below_set ?_ GE262.out | refine below_set ?_ GE270.out | refine below_set ?_ GE271.out) | exact HB.out)⟩

       rw [if_pos c14] at H
       have c14b0 : decide (x27_2 < (l0_1.length : Int)) = true := decide_eq_true c14
       clear c14
       by_cases c15 : 0 ≤ x27_2
       rotate_left
       · rw [if_neg c15] at H
         exact absurd H (by simp)
       rw [if_pos c15] at H
       have c15b0 : decide (0 ≤ x27_2) = true := decide_eq_true c15
       clear c15
       by_cases c16 : x27_2 < (l0_1.length : Int)
       rotate_left
       · rw [if_neg c16] at H
         exact absurd H (by simp)
       rw [if_pos c16] at H
       have c16b0 : decide (x27_2 < (l0_1.length : Int)) = true := decide_eq_true c16
       clear c16
       replace H := Option.bind_eq_some_iff.mp H
       obtain ⟨t274, A170, H⟩ := H
       replace H : (if t274 = true then ((impl_within.f ((rd_T105 l0_1 x27_2).f1) 0 5).bind fun t275 => (if t275 = true then (if x27_2 > 0 then (if 0 ≤ (wrap64 (x27_2 - 1)) then (if (wrap64 (x27_2 - 1)) < (l0_1.length : Int) then ((impl_compareCells.f ((rd_T105 l0_1 (wrap64 (x27_2 - 1))).f0) ((rd_T105 l0_1 (wrap64 (x27_2 - 1))).f1) ((rd_T105 l0_1 x27_2).f0) ((rd_T105 l0_1 x27_2).f1)).bind fun t277 => (if t277 ≥ 0 then (some false) else (impl_validPiece.l0 k2 l0_1 (l0_1.length : Int) (wrap64 (x27_2 + 1)) a0_0 l0_1 a0_2 a0_3))) else (none)) else (none)) else (impl_validPiece.l0 k2 l0_1 (l0_1.length : Int) (wrap64 (x27_2 + 1)) a0_0 l0_1 a0_2 a0_3)) else (some false))) else (some false)) = some r := H
       have A17 := mkA A170
       clear A170
       by_cases c18 : t274 = true
       rotate_left
       · replace c18 := Bool.eq_false_iff.mpr c18
         subst c18
         have H1 : (some false) = some r := by rw [if_neg (show ¬ (false = true) by decide)] at H; exact H
         clear H
         have H := H1
         clear H1
         obtain rfl := Option.some.inj H
         have p272 : 0 ≤ (x27_2 : Int) := dt_
         have q272 : x27_2 < (l0_1.length : Int) := dt_
         obtain ⟨ad272, e272, hx272_0, hx272_1⟩ := at_T105 HR0_1.out x27_2 p272 q272
         cases e272
         replace hx272_0 := bc_ HB.out hx272_0
         replace hx272_1 := bc_ HB.out hx272_1
         replace p272 := eq_true p272
         replace q272 := eq_true q272
         try go_wp2_with (first | ((with_reducible refine gate_dst (N := 4) rfl ?_); (try (refine gate_guard (by rfl) ?_; dsimp only)); refine box_event ?hg (N := 4) ?hd (cs := #[.int .i64 0, .int .i64 0]) (t := 105) ?hr ?_; (case hd => rfl); (case hg => rfl); (case hr => first | (go_simp; done) | (go_simp; rfl)); intro gb273 hg w49 hbox hb; have n0_ := mkA (blk_below (g := gb262) (o := .cells #[.string a0_0, .slice (some ad272) l0_1.length c0_1, .int .i64 a0_2, .bool a0_3] 53 (0, 0)) (bl_ BK262.out) hb); have n1_ := mkA (below_step (bs1_ HB.out GE262.out) hb); have n2_ := mkA (hbox); have n3_ := mkA ((by rw [hg]; exact (below_size (bs1_ HB.out GE262.out)) : w.heap.size ≤ gb273)); have n4_ := mkA ((by rw [hg]; exact (below_size (bs1_ HB.out GE262.out)) : w.heap.size ≤ gb273)); have n5_ := mkA ((by rw [hg]; exact Nat.ne_of_lt (blk_lt (g := gb262) (o := .cells #[.string a0_0, .slice (some ad272) l0_1.length c0_1, .int .i64 a0_2, .bool a0_3] 53 (0, 0)) (bl_ BK262.out)) : gb262 ≠ gb273)); have n6_ := mkA ((by rw [hg]; exact Nat.ne_of_gt (blk_lt (g := gb262) (o := .cells #[.string a0_0, .slice (some ad272) l0_1.length c0_1, .int .i64 a0_2, .bool a0_3] 53 (0, 0)) (bl_ BK262.out)) : gb273 ≠ gb262)); clear BK262; clear HB; have BK262 := n0_; have HB := n1_; have BK273 := n2_; have GW273 := n3_; have GE273 := n4_; have NB262_273 := n5_; have NB273_262 := n6_; clear n0_ n1_ n2_ n3_ n4_ n5_ n6_; clear hb hbox hg; have hnb50 := NB273_262.out; have hnc50 := NB262_273.out; have hcz51_0 : w49.cell? ⟨gb273, 0, none⟩ = some (.int .i64 0) := (blk_cell BK273.out 0).trans rfl; have hcz51_1 : w49.cell? ⟨gb273, 1, none⟩ = some (.int .i64 0) := (blk_cell BK273.out 1).trans rfl; have hfz51_0 := blk_frozen BK273.out 0; have hfz51_1 := blk_frozen BK273.out 1))
         have n0_ : Aside0 (((w49.setCell ⟨gb273, 0, none⟩ (.int .i64 ((rd_T105 l0_1 x27_2).f0))).setCell ⟨gb273, 1, none⟩ (.int .i64 ((rd_T105 l0_1 x27_2).f1))).heap[gb262]? = some (.cells #[.string a0_0, .slice (some ad272) l0_1.length c0_1, .int .i64 a0_2, .bool a0_3] 53 (0, 0))) := ⟨by (with_reducible repeat (first | refine blk_drewN ?_ _ | refine blk_drew ?_ | refine blk_alloc ?_ _)); refine blk_far ?_ NB262_273.out _; (with_reducible repeat (first | refine blk_drewN ?_ _ | refine blk_drew ?_ | refine blk_alloc ?_ _)); refine blk_far ?_ NB262_273.out _; (with_reducible repeat (first | refine blk_drewN ?_ _ | refine blk_drew ?_ | refine blk_alloc ?_ _)); exact BK262.out⟩
         have n1_ : Aside0 (((w49.setCell ⟨gb273, 0, none⟩ (.int .i64 ((rd_T105 l0_1 x27_2).f0))).setCell ⟨gb273, 1, none⟩ (.int .i64 ((rd_T105 l0_1 x27_2).f1))).heap[gb273]? = some (.cells #[.int .i64 ((rd_T105 l0_1 x27_2).f0), .int .i64 ((rd_T105 l0_1 x27_2).f1)] 105 (0, 0))) := ⟨by (with_reducible repeat (first | refine blk_drewN ?_ _ | refine blk_drew ?_ | refine blk_alloc ?_ _)); refine blk_put (cs := #[.int .i64 ((rd_T105 l0_1 x27_2).f0), .int .i64 0]) ?_ 1 _ rfl; (with_reducible repeat (first | refine blk_drewN ?_ _ | refine blk_drew ?_ | refine blk_alloc ?_ _)); refine blk_put (cs := #[.int .i64 0, .int .i64 0]) ?_ 0 _ rfl; (with_reducible repeat (first | refine blk_drewN ?_ _ | refine blk_drew ?_ | refine blk_alloc ?_ _)); exact BK273.out⟩
         have n2_ : Aside0 (Below w.heap.size w ((w49.setCell ⟨gb273, 0, none⟩ (.int .i64 ((rd_T105 l0_1 x27_2).f0))).setCell ⟨gb273, 1, none⟩ (.int .i64 ((rd_T105 l0_1 x27_2).f1)))) := ⟨by repeat (first | (with_reducible first | exact HB.out | apply below_alloc | apply pw_below_drewN | apply below_drew1 | refine below_set ?_ GE262.out | refine below_set ?_ GE273.out) | exact HB.out)⟩
         (try clear BK262)
         (try clear BK273)
         (try clear HB)
         generalize ((w49.setCell ⟨gb273, 0, none⟩ (.int .i64 ((rd_T105 l0_1 x27_2).f0))).setCell ⟨gb273, 1, none⟩ (.int .i64 ((rd_T105 l0_1 x27_2).f1))) = w52 at n0_ n1_ n2_ ⊢
         have BK262 := n0_
         have BK273 := n1_
         have HB := n2_
         clear n0_ n1_ n2_
         have n0_ := mkA (blk_drew BK262.out)
         have n1_ := mkA (blk_drew BK273.out)
         have n2_ := mkA (below_drew1 HB.out)
         clear BK262
         clear BK273
         clear HB
         have BK262 := n0_
         have BK273 := n1_
         have HB := n2_
         clear n0_ n1_ n2_
         refine start_ (n := 25) (S := fun w' => w'.cell? ⟨gb273, 0, none⟩ = some (.int .i64 ((rd_T105 l0_1 x27_2).f0)) ∧ w'.cell? ⟨gb273, 1, none⟩ = some (.int .i64 ((rd_T105 l0_1 x27_2).f1))) (ds := []) impl_validPiece.d0 (by kernel_rfl) rfl rfl ⟨(blk_cell BK273.out 0).trans rfl, (blk_cell BK273.out 1).trans rfl⟩ (fun hHeld => ?_); refine with_tabW impl_validPiece.tab6 impl_validPiece.bits6 (fun HT_ HW_ => ?_)
         generalize w52.drew = w53 at BK262 BK273 HB hHeld ⊢
         refine p1_ HT_.out 0 32 impl_validPiece.d1 ?_
         refine take_ (i := 1) (N := some 33) (v := ?_) (a' := ?_) impl_validPiece.d2 rfl rfl (take_ofW HT_.out HW_.out (by kernel_rfl)) (fun _ _ _ h => h) (Or.inl ⟨by rfl, ?_⟩) hHeld ?_ ?_
         rotate_left
         · rintro w' ⟨s0, s1⟩
           go_simp
           with_reducible rfl
         rotate_left
         · simp only [Act.put, sA, sB, sC, i64_w, i32_w]
           rfl
         refine one_ (i := 2) (N := some 34) impl_validPiece.d3 rfl rfl (one_of HT_.out (by kernel_rfl)) (by decide) (fun K hK => ?_)
         refine goes_ Try.func57 (by kernel_rfl) rfl #[.int .i64 ((rd_T105 l0_1 x27_2).f0), .int .i64 0, .int .i64 5] (by rfl) rfl rfl (by (try simp only [List.map_toArray, List.map_cons, List.map_nil]); first | done | rfl | (simp only [List.length_drop, List.length_take]; rfl)) ?_
         with_reducible refine (impl_within.calls ((rd_T105 l0_1 x27_2).f0) 0 5 false _ A17.out).mono ?_
         rintro e w' ⟨rfl, ⟨nd, rfl⟩⟩
         refine ⟨_, rfl, ?_⟩
         refine hK.out _ _ ⟨(blk_cell BK273.out 0).trans rfl, (blk_cell BK273.out 1).trans rfl⟩ (fun hHeld => ?_)
         clear hK K
         refine norm_ (a' := ?_) ?_ ?_
         rotate_left
         · show Act.put _ (some 34) _ = _
           simp only [Act.put, sA, sB, sC, i64_w, i32_w]
           rfl
         refine p1_ HT_.out 3 35 impl_validPiece.d4 ?_
         refine p1_ HT_.out 4 36 impl_validPiece.d5 ?_
         refine p0_ HT_.out 5 37 impl_validPiece.d6 ?_
         refine p0_ HT_.out 6 38 impl_validPiece.d7 ?_
         refine p0_ HT_.out 7 39 impl_validPiece.d8 ?_
         refine p0_ HT_.out 8 40 impl_validPiece.d9 ?_
         refine p1_ HT_.out 9 41 impl_validPiece.d10 ?_
         refine p1_ HT_.out 10 42 impl_validPiece.d11 ?_
         refine p0_ HT_.out 11 43 impl_validPiece.d12 ?_
         refine p0_ HT_.out 12 44 impl_validPiece.d13 ?_
         refine p0_ HT_.out 13 45 impl_validPiece.d14 ?_
         refine p0_ HT_.out 14 46 impl_validPiece.d15 ?_
         refine p0_ HT_.out 15 47 impl_validPiece.d26 ?_
         refine p0_ HT_.out 16 48 impl_validPiece.d27 ?_
         refine p0_ HT_.out 17 49 impl_validPiece.d18 ?_
         refine p0_ HT_.out 18 50 impl_validPiece.d19 ?_
         refine p0_ HT_.out 19 51 impl_validPiece.d20 ?_
         refine p0_ HT_.out 20 52 impl_validPiece.d21 ?_
         refine p0_ HT_.out 21 53 impl_validPiece.d22 ?_
         refine p0_ HT_.out 22 54 impl_validPiece.d23 ?_
         refine p0_ HT_.out 23 55 impl_validPiece.d24 ?_
         refine p1_ HT_.out 24 56 impl_validPiece.d25 ?_
         refine done_ (done_of HT_.out (by kernel_rfl)) ?_
         try go_wp2
         go_ret
         exact ⟨by first | rfl | (simp [errW_none, errW_some] <;> rfl) | (simp [*, errW_none, errW_some] <;> rfl), by repeat (first | (with_reducible first | exact HB.out | apply below_alloc | apply pw_below_drewN | apply below_drew1 | refine below_set ?_ GE262.out | refine below_set ?_ GE273.out) | exact HB.out)⟩
       subst c18
       have H1 : ((impl_within.f ((rd_T105 l0_1 x27_2).f1) 0 5).bind fun t275 => (if t275 = true then (if x27_2 > 0 then (if 0 ≤ (wrap64 (x27_2 - 1)) then (if (wrap64 (x27_2 - 1)) < (l0_1.length : Int) then ((impl_compareCells.f ((rd_T105 l0_1 (wrap64 (x27_2 - 1))).f0) ((rd_T105 l0_1 (wrap64 (x27_2 - 1))).f1) ((rd_T105 l0_1 x27_2).f0) ((rd_T105 l0_1 x27_2).f1)).bind fun t277 => (if t277 ≥ 0 then (some false) else (impl_validPiece.l0 k2 l0_1 (l0_1.length : Int) (wrap64 (x27_2 + 1)) a0_0 l0_1 a0_2 a0_3))) else (none)) else (none)) else (impl_validPiece.l0 k2 l0_1 (l0_1.length : Int) (wrap64 (x27_2 + 1)) a0_0 l0_1 a0_2 a0_3)) else (some false))) = some r := by rw [if_pos rfl] at H; exact H
       clear H
       have H := H1
       clear H1
       replace H := Option.bind_eq_some_iff.mp H
       obtain ⟨t275, A190, H⟩ := H
       replace H : (if t275 = true then (if x27_2 > 0 then (if 0 ≤ (wrap64 (x27_2 - 1)) then (if (wrap64 (x27_2 - 1)) < (l0_1.length : Int) then ((impl_compareCells.f ((rd_T105 l0_1 (wrap64 (x27_2 - 1))).f0) ((rd_T105 l0_1 (wrap64 (x27_2 - 1))).f1) ((rd_T105 l0_1 x27_2).f0) ((rd_T105 l0_1 x27_2).f1)).bind fun t277 => (if t277 ≥ 0 then (some false) else (impl_validPiece.l0 k2 l0_1 (l0_1.length : Int) (wrap64 (x27_2 + 1)) a0_0 l0_1 a0_2 a0_3))) else (none)) else (none)) else (impl_validPiece.l0 k2 l0_1 (l0_1.length : Int) (wrap64 (x27_2 + 1)) a0_0 l0_1 a0_2 a0_3)) else (some false)) = some r := H
       have A19 := mkA A190
       clear A190
       by_cases c20 : t275 = true
       rotate_left
       · replace c20 := Bool.eq_false_iff.mpr c20
         subst c20
         have H1 : (some false) = some r := by rw [if_neg (show ¬ (false = true) by decide)] at H; exact H
         clear H
         have H := H1
         clear H1
         obtain rfl := Option.some.inj H
         have p272 : 0 ≤ (x27_2 : Int) := dt_
         have q272 : x27_2 < (l0_1.length : Int) := dt_
         obtain ⟨ad272, e272, hx272_0, hx272_1⟩ := at_T105 HR0_1.out x27_2 p272 q272
         cases e272
         replace hx272_0 := bc_ HB.out hx272_0
         replace hx272_1 := bc_ HB.out hx272_1
         replace p272 := eq_true p272
         replace q272 := eq_true q272
         try go_wp2_with (first | ((with_reducible refine gate_dst (N := 4) rfl ?_); (try (refine gate_guard (by rfl) ?_; dsimp only)); refine box_event ?hg (N := 4) ?hd (cs := #[.int .i64 0, .int .i64 0]) (t := 105) ?hr ?_; (case hd => rfl); (case hg => rfl); (case hr => first | (go_simp; done) | (go_simp; rfl)); intro gb273 hg w44 hbox hb; have n0_ := mkA (blk_below (g := gb262) (o := .cells #[.string a0_0, .slice (some ad272) l0_1.length c0_1, .int .i64 a0_2, .bool a0_3] 53 (0, 0)) (bl_ BK262.out) hb); have n1_ := mkA (below_step (bs1_ HB.out GE262.out) hb); have n2_ := mkA (hbox); have n3_ := mkA ((by rw [hg]; exact (below_size (bs1_ HB.out GE262.out)) : w.heap.size ≤ gb273)); have n4_ := mkA ((by rw [hg]; exact (below_size (bs1_ HB.out GE262.out)) : w.heap.size ≤ gb273)); have n5_ := mkA ((by rw [hg]; exact Nat.ne_of_lt (blk_lt (g := gb262) (o := .cells #[.string a0_0, .slice (some ad272) l0_1.length c0_1, .int .i64 a0_2, .bool a0_3] 53 (0, 0)) (bl_ BK262.out)) : gb262 ≠ gb273)); have n6_ := mkA ((by rw [hg]; exact Nat.ne_of_gt (blk_lt (g := gb262) (o := .cells #[.string a0_0, .slice (some ad272) l0_1.length c0_1, .int .i64 a0_2, .bool a0_3] 53 (0, 0)) (bl_ BK262.out)) : gb273 ≠ gb262)); clear BK262; clear HB; have BK262 := n0_; have HB := n1_; have BK273 := n2_; have GW273 := n3_; have GE273 := n4_; have NB262_273 := n5_; have NB273_262 := n6_; clear n0_ n1_ n2_ n3_ n4_ n5_ n6_; clear hb hbox hg; have hnb45 := NB273_262.out; have hnc45 := NB262_273.out; have hcz46_0 : w44.cell? ⟨gb273, 0, none⟩ = some (.int .i64 0) := (blk_cell BK273.out 0).trans rfl; have hcz46_1 : w44.cell? ⟨gb273, 1, none⟩ = some (.int .i64 0) := (blk_cell BK273.out 1).trans rfl; have hfz46_0 := blk_frozen BK273.out 0; have hfz46_1 := blk_frozen BK273.out 1))
         have n0_ : Aside0 (((w44.setCell ⟨gb273, 0, none⟩ (.int .i64 ((rd_T105 l0_1 x27_2).f0))).setCell ⟨gb273, 1, none⟩ (.int .i64 ((rd_T105 l0_1 x27_2).f1))).heap[gb262]? = some (.cells #[.string a0_0, .slice (some ad272) l0_1.length c0_1, .int .i64 a0_2, .bool a0_3] 53 (0, 0))) := ⟨by (with_reducible repeat (first | refine blk_drewN ?_ _ | refine blk_drew ?_ | refine blk_alloc ?_ _)); refine blk_far ?_ NB262_273.out _; (with_reducible repeat (first | refine blk_drewN ?_ _ | refine blk_drew ?_ | refine blk_alloc ?_ _)); refine blk_far ?_ NB262_273.out _; (with_reducible repeat (first | refine blk_drewN ?_ _ | refine blk_drew ?_ | refine blk_alloc ?_ _)); exact BK262.out⟩
         have n1_ : Aside0 (((w44.setCell ⟨gb273, 0, none⟩ (.int .i64 ((rd_T105 l0_1 x27_2).f0))).setCell ⟨gb273, 1, none⟩ (.int .i64 ((rd_T105 l0_1 x27_2).f1))).heap[gb273]? = some (.cells #[.int .i64 ((rd_T105 l0_1 x27_2).f0), .int .i64 ((rd_T105 l0_1 x27_2).f1)] 105 (0, 0))) := ⟨by (with_reducible repeat (first | refine blk_drewN ?_ _ | refine blk_drew ?_ | refine blk_alloc ?_ _)); refine blk_put (cs := #[.int .i64 ((rd_T105 l0_1 x27_2).f0), .int .i64 0]) ?_ 1 _ rfl; (with_reducible repeat (first | refine blk_drewN ?_ _ | refine blk_drew ?_ | refine blk_alloc ?_ _)); refine blk_put (cs := #[.int .i64 0, .int .i64 0]) ?_ 0 _ rfl; (with_reducible repeat (first | refine blk_drewN ?_ _ | refine blk_drew ?_ | refine blk_alloc ?_ _)); exact BK273.out⟩
         have n2_ : Aside0 (Below w.heap.size w ((w44.setCell ⟨gb273, 0, none⟩ (.int .i64 ((rd_T105 l0_1 x27_2).f0))).setCell ⟨gb273, 1, none⟩ (.int .i64 ((rd_T105 l0_1 x27_2).f1)))) := ⟨by repeat (first | (with_reducible first | exact HB.out | apply below_alloc | apply pw_below_drewN | apply below_drew1 | refine below_set ?_ GE262.out | refine below_set ?_ GE273.out) | exact HB.out)⟩
         (try clear BK262)
         (try clear BK273)
         (try clear HB)
         generalize ((w44.setCell ⟨gb273, 0, none⟩ (.int .i64 ((rd_T105 l0_1 x27_2).f0))).setCell ⟨gb273, 1, none⟩ (.int .i64 ((rd_T105 l0_1 x27_2).f1))) = w47 at n0_ n1_ n2_ ⊢
         have BK262 := n0_
         have BK273 := n1_
         have HB := n2_
         clear n0_ n1_ n2_
         have n0_ := mkA (blk_drew BK262.out)
         have n1_ := mkA (blk_drew BK273.out)
         have n2_ := mkA (below_drew1 HB.out)
         clear BK262
         clear BK273
         clear HB
         have BK262 := n0_
         have BK273 := n1_
         have HB := n2_
         clear n0_ n1_ n2_
         refine start_ (n := 25) (S := fun w' => w'.cell? ⟨gb273, 0, none⟩ = some (.int .i64 ((rd_T105 l0_1 x27_2).f0)) ∧ w'.cell? ⟨gb273, 1, none⟩ = some (.int .i64 ((rd_T105 l0_1 x27_2).f1))) (ds := []) impl_validPiece.d0 (by kernel_rfl) rfl rfl ⟨(blk_cell BK273.out 0).trans rfl, (blk_cell BK273.out 1).trans rfl⟩ (fun hHeld => ?_); refine with_tabW impl_validPiece.tab6 impl_validPiece.bits6 (fun HT_ HW_ => ?_)
         generalize w47.drew = w48 at BK262 BK273 HB hHeld ⊢
         refine p1_ HT_.out 0 32 impl_validPiece.d1 ?_
         refine take_ (i := 1) (N := some 33) (v := ?_) (a' := ?_) impl_validPiece.d2 rfl rfl (take_ofW HT_.out HW_.out (by kernel_rfl)) (fun _ _ _ h => h) (Or.inl ⟨by rfl, ?_⟩) hHeld ?_ ?_
         rotate_left
         · rintro w' ⟨s0, s1⟩
           go_simp
           with_reducible rfl
         rotate_left
         · simp only [Act.put, sA, sB, sC, i64_w, i32_w]
           rfl
         refine one_ (i := 2) (N := some 34) impl_validPiece.d3 rfl rfl (one_of HT_.out (by kernel_rfl)) (by decide) (fun K hK => ?_)
         refine goes_ Try.func57 (by kernel_rfl) rfl #[.int .i64 ((rd_T105 l0_1 x27_2).f0), .int .i64 0, .int .i64 5] (by rfl) rfl rfl (by (try simp only [List.map_toArray, List.map_cons, List.map_nil]); first | done | rfl | (simp only [List.length_drop, List.length_take]; rfl)) ?_
         with_reducible refine (impl_within.calls ((rd_T105 l0_1 x27_2).f0) 0 5 true _ A17.out).mono ?_
         rintro e w' ⟨rfl, ⟨nd, rfl⟩⟩
         refine ⟨_, rfl, ?_⟩
         refine hK.out _ _ ⟨(blk_cell BK273.out 0).trans rfl, (blk_cell BK273.out 1).trans rfl⟩ (fun hHeld => ?_)
         clear hK K
         refine norm_ (a' := ?_) ?_ ?_
         rotate_left
         · show Act.put _ (some 34) _ = _
           simp only [Act.put, sA, sB, sC, i64_w, i32_w]
           rfl
         refine p1_ HT_.out 3 35 impl_validPiece.d4 ?_
         refine p1_ HT_.out 4 36 impl_validPiece.d5 ?_
         refine p1_ HT_.out 5 37 impl_validPiece.d6 ?_
         refine take_ (i := 6) (N := some 38) (v := ?_) (a' := ?_) impl_validPiece.d7 rfl rfl (take_ofW HT_.out HW_.out (by kernel_rfl)) (fun _ _ _ h => h) (Or.inl ⟨by rfl, ?_⟩) hHeld ?_ ?_
         rotate_left
         · rintro w' ⟨s0, s1⟩
           go_simp
           with_reducible rfl
         rotate_left
         · simp only [Act.put, sA, sB, sC, i64_w, i32_w]
           rfl
         refine one_ (i := 7) (N := some 39) impl_validPiece.d8 rfl rfl (one_of HT_.out (by kernel_rfl)) (by decide) (fun K hK => ?_)
         refine goes_ Try.func57 (by kernel_rfl) rfl #[.int .i64 ((rd_T105 l0_1 x27_2).f1), .int .i64 0, .int .i64 5] (by rfl) rfl rfl (by (try simp only [List.map_toArray, List.map_cons, List.map_nil]); first | done | rfl | (simp only [List.length_drop, List.length_take]; rfl)) ?_
         with_reducible refine (impl_within.calls ((rd_T105 l0_1 x27_2).f1) 0 5 false _ A19.out).mono ?_
         rintro e w' ⟨rfl, ⟨nd, rfl⟩⟩
         refine ⟨_, rfl, ?_⟩
         refine hK.out _ _ ⟨(blk_cell BK273.out 0).trans rfl, (blk_cell BK273.out 1).trans rfl⟩ (fun hHeld => ?_)
         clear hK K
         refine norm_ (a' := ?_) ?_ ?_
         rotate_left
         · show Act.put _ (some 39) _ = _
           simp only [Act.put, sA, sB, sC, i64_w, i32_w]
           rfl
         refine p1_ HT_.out 8 40 impl_validPiece.d9 ?_
         refine p1_ HT_.out 9 41 impl_validPiece.d10 ?_
         refine p1_ HT_.out 10 42 impl_validPiece.d11 ?_
         refine p0_ HT_.out 11 43 impl_validPiece.d12 ?_
         refine p0_ HT_.out 12 44 impl_validPiece.d13 ?_
         refine p0_ HT_.out 13 45 impl_validPiece.d14 ?_
         refine p0_ HT_.out 14 46 impl_validPiece.d15 ?_
         refine p0_ HT_.out 15 47 impl_validPiece.d26 ?_
         refine p0_ HT_.out 16 48 impl_validPiece.d27 ?_
         refine p0_ HT_.out 17 49 impl_validPiece.d18 ?_
         refine p0_ HT_.out 18 50 impl_validPiece.d19 ?_
         refine p0_ HT_.out 19 51 impl_validPiece.d20 ?_
         refine p0_ HT_.out 20 52 impl_validPiece.d21 ?_
         refine p0_ HT_.out 21 53 impl_validPiece.d22 ?_
         refine p0_ HT_.out 22 54 impl_validPiece.d23 ?_
         refine p0_ HT_.out 23 55 impl_validPiece.d24 ?_
         refine p1_ HT_.out 24 56 impl_validPiece.d25 ?_
         refine done_ (done_of HT_.out (by kernel_rfl)) ?_
         try go_wp2
         go_ret
         exact ⟨by first | rfl | (simp [errW_none, errW_some] <;> rfl) | (simp [*, errW_none, errW_some] <;> rfl), by repeat (first | (with_reducible first | exact HB.out | apply below_alloc | apply pw_below_drewN | apply below_drew1 | refine below_set ?_ GE262.out | refine below_set ?_ GE273.out) | exact HB.out)⟩
       subst c20
       have H1 : (if x27_2 > 0 then (if 0 ≤ (wrap64 (x27_2 - 1)) then (if (wrap64 (x27_2 - 1)) < (l0_1.length : Int) then ((impl_compareCells.f ((rd_T105 l0_1 (wrap64 (x27_2 - 1))).f0) ((rd_T105 l0_1 (wrap64 (x27_2 - 1))).f1) ((rd_T105 l0_1 x27_2).f0) ((rd_T105 l0_1 x27_2).f1)).bind fun t277 => (if t277 ≥ 0 then (some false) else (impl_validPiece.l0 k2 l0_1 (l0_1.length : Int) (wrap64 (x27_2 + 1)) a0_0 l0_1 a0_2 a0_3))) else (none)) else (none)) else (impl_validPiece.l0 k2 l0_1 (l0_1.length : Int) (wrap64 (x27_2 + 1)) a0_0 l0_1 a0_2 a0_3)) = some r := by rw [if_pos rfl] at H; exact H
       clear H
       have H := H1
       clear H1
       by_cases c21 : x27_2 > 0
       rotate_left
       · rw [if_neg c21] at H
         have c21b0 : decide (0 < x27_2) = false := decide_eq_false c21
         clear c21
         have H' := mkA H
         clear H
         have p272 : 0 ≤ (x27_2 : Int) := dt_
         have q272 : x27_2 < (l0_1.length : Int) := dt_
         obtain ⟨ad272, e272, hx272_0, hx272_1⟩ := at_T105 HR0_1.out x27_2 p272 q272
         cases e272
         replace hx272_0 := bc_ HB.out hx272_0
         replace hx272_1 := bc_ HB.out hx272_1
         replace p272 := eq_true p272
         replace q272 := eq_true q272
         try go_wp2_with (first | ((with_reducible refine gate_dst (N := 4) rfl ?_); (try (refine gate_guard (by rfl) ?_; dsimp only)); refine box_event ?hg (N := 4) ?hd (cs := #[.int .i64 0, .int .i64 0]) (t := 105) ?hr ?_; (case hd => rfl); (case hg => rfl); (case hr => first | (go_simp; done) | (go_simp; rfl)); intro gb273 hg w39 hbox hb; have n0_ := mkA (blk_below (g := gb262) (o := .cells #[.string a0_0, .slice (some ad272) l0_1.length c0_1, .int .i64 a0_2, .bool a0_3] 53 (0, 0)) (bl_ BK262.out) hb); have n1_ := mkA (below_step (bs1_ HB.out GE262.out) hb); have n2_ := mkA (hbox); have n3_ := mkA ((by rw [hg]; exact (below_size (bs1_ HB.out GE262.out)) : w.heap.size ≤ gb273)); have n4_ := mkA ((by rw [hg]; exact (below_size (bs1_ HB.out GE262.out)) : w.heap.size ≤ gb273)); have n5_ := mkA ((by rw [hg]; exact Nat.ne_of_lt (blk_lt (g := gb262) (o := .cells #[.string a0_0, .slice (some ad272) l0_1.length c0_1, .int .i64 a0_2, .bool a0_3] 53 (0, 0)) (bl_ BK262.out)) : gb262 ≠ gb273)); have n6_ := mkA ((by rw [hg]; exact Nat.ne_of_gt (blk_lt (g := gb262) (o := .cells #[.string a0_0, .slice (some ad272) l0_1.length c0_1, .int .i64 a0_2, .bool a0_3] 53 (0, 0)) (bl_ BK262.out)) : gb273 ≠ gb262)); clear BK262; clear HB; have BK262 := n0_; have HB := n1_; have BK273 := n2_; have GW273 := n3_; have GE273 := n4_; have NB262_273 := n5_; have NB273_262 := n6_; clear n0_ n1_ n2_ n3_ n4_ n5_ n6_; clear hb hbox hg; have hnb40 := NB273_262.out; have hnc40 := NB262_273.out; have hcz41_0 : w39.cell? ⟨gb273, 0, none⟩ = some (.int .i64 0) := (blk_cell BK273.out 0).trans rfl; have hcz41_1 : w39.cell? ⟨gb273, 1, none⟩ = some (.int .i64 0) := (blk_cell BK273.out 1).trans rfl; have hfz41_0 := blk_frozen BK273.out 0; have hfz41_1 := blk_frozen BK273.out 1))
         have n0_ : Aside0 (((w39.setCell ⟨gb273, 0, none⟩ (.int .i64 ((rd_T105 l0_1 x27_2).f0))).setCell ⟨gb273, 1, none⟩ (.int .i64 ((rd_T105 l0_1 x27_2).f1))).heap[gb262]? = some (.cells #[.string a0_0, .slice (some ad272) l0_1.length c0_1, .int .i64 a0_2, .bool a0_3] 53 (0, 0))) := ⟨by (with_reducible repeat (first | refine blk_drewN ?_ _ | refine blk_drew ?_ | refine blk_alloc ?_ _)); refine blk_far ?_ NB262_273.out _; (with_reducible repeat (first | refine blk_drewN ?_ _ | refine blk_drew ?_ | refine blk_alloc ?_ _)); refine blk_far ?_ NB262_273.out _; (with_reducible repeat (first | refine blk_drewN ?_ _ | refine blk_drew ?_ | refine blk_alloc ?_ _)); exact BK262.out⟩
         have n1_ : Aside0 (((w39.setCell ⟨gb273, 0, none⟩ (.int .i64 ((rd_T105 l0_1 x27_2).f0))).setCell ⟨gb273, 1, none⟩ (.int .i64 ((rd_T105 l0_1 x27_2).f1))).heap[gb273]? = some (.cells #[.int .i64 ((rd_T105 l0_1 x27_2).f0), .int .i64 ((rd_T105 l0_1 x27_2).f1)] 105 (0, 0))) := ⟨by (with_reducible repeat (first | refine blk_drewN ?_ _ | refine blk_drew ?_ | refine blk_alloc ?_ _)); refine blk_put (cs := #[.int .i64 ((rd_T105 l0_1 x27_2).f0), .int .i64 0]) ?_ 1 _ rfl; (with_reducible repeat (first | refine blk_drewN ?_ _ | refine blk_drew ?_ | refine blk_alloc ?_ _)); refine blk_put (cs := #[.int .i64 0, .int .i64 0]) ?_ 0 _ rfl; (with_reducible repeat (first | refine blk_drewN ?_ _ | refine blk_drew ?_ | refine blk_alloc ?_ _)); exact BK273.out⟩
         have n2_ : Aside0 (Below w.heap.size w ((w39.setCell ⟨gb273, 0, none⟩ (.int .i64 ((rd_T105 l0_1 x27_2).f0))).setCell ⟨gb273, 1, none⟩ (.int .i64 ((rd_T105 l0_1 x27_2).f1)))) := ⟨by repeat (first | (with_reducible first | exact HB.out | apply below_alloc | apply pw_below_drewN | apply below_drew1 | refine below_set ?_ GE262.out | refine below_set ?_ GE273.out) | exact HB.out)⟩
         (try clear BK262)
         (try clear BK273)
         (try clear HB)
         generalize ((w39.setCell ⟨gb273, 0, none⟩ (.int .i64 ((rd_T105 l0_1 x27_2).f0))).setCell ⟨gb273, 1, none⟩ (.int .i64 ((rd_T105 l0_1 x27_2).f1))) = w42 at n0_ n1_ n2_ ⊢
         have BK262 := n0_
         have BK273 := n1_
         have HB := n2_
         clear n0_ n1_ n2_
         have n0_ := mkA (blk_drew BK262.out)
         have n1_ := mkA (blk_drew BK273.out)
         have n2_ := mkA (below_drew1 HB.out)
         clear BK262
         clear BK273
         clear HB
         have BK262 := n0_
         have BK273 := n1_
         have HB := n2_
         clear n0_ n1_ n2_
         refine start_ (n := 25) (S := fun w' => w'.cell? ⟨gb273, 0, none⟩ = some (.int .i64 ((rd_T105 l0_1 x27_2).f0)) ∧ w'.cell? ⟨gb273, 1, none⟩ = some (.int .i64 ((rd_T105 l0_1 x27_2).f1))) (ds := []) impl_validPiece.d0 (by kernel_rfl) rfl rfl ⟨(blk_cell BK273.out 0).trans rfl, (blk_cell BK273.out 1).trans rfl⟩ (fun hHeld => ?_); refine with_tabW impl_validPiece.tab6 impl_validPiece.bits6 (fun HT_ HW_ => ?_)
         generalize w42.drew = w43 at BK262 BK273 HB hHeld ⊢
         refine p1_ HT_.out 0 32 impl_validPiece.d1 ?_
         refine take_ (i := 1) (N := some 33) (v := ?_) (a' := ?_) impl_validPiece.d2 rfl rfl (take_ofW HT_.out HW_.out (by kernel_rfl)) (fun _ _ _ h => h) (Or.inl ⟨by rfl, ?_⟩) hHeld ?_ ?_
         rotate_left
         · rintro w' ⟨s0, s1⟩
           go_simp
           with_reducible rfl
         rotate_left
         · simp only [Act.put, sA, sB, sC, i64_w, i32_w]
           rfl
         refine one_ (i := 2) (N := some 34) impl_validPiece.d3 rfl rfl (one_of HT_.out (by kernel_rfl)) (by decide) (fun K hK => ?_)
         refine goes_ Try.func57 (by kernel_rfl) rfl #[.int .i64 ((rd_T105 l0_1 x27_2).f0), .int .i64 0, .int .i64 5] (by rfl) rfl rfl (by (try simp only [List.map_toArray, List.map_cons, List.map_nil]); first | done | rfl | (simp only [List.length_drop, List.length_take]; rfl)) ?_
         with_reducible refine (impl_within.calls ((rd_T105 l0_1 x27_2).f0) 0 5 true _ A17.out).mono ?_
         rintro e w' ⟨rfl, ⟨nd, rfl⟩⟩
         refine ⟨_, rfl, ?_⟩
         refine hK.out _ _ ⟨(blk_cell BK273.out 0).trans rfl, (blk_cell BK273.out 1).trans rfl⟩ (fun hHeld => ?_)
         clear hK K
         refine norm_ (a' := ?_) ?_ ?_
         rotate_left
         · show Act.put _ (some 34) _ = _
           simp only [Act.put, sA, sB, sC, i64_w, i32_w]
           rfl
         refine p1_ HT_.out 3 35 impl_validPiece.d4 ?_
         refine p1_ HT_.out 4 36 impl_validPiece.d5 ?_
         refine p1_ HT_.out 5 37 impl_validPiece.d6 ?_
         refine take_ (i := 6) (N := some 38) (v := ?_) (a' := ?_) impl_validPiece.d7 rfl rfl (take_ofW HT_.out HW_.out (by kernel_rfl)) (fun _ _ _ h => h) (Or.inl ⟨by rfl, ?_⟩) hHeld ?_ ?_
         rotate_left
         · rintro w' ⟨s0, s1⟩
           go_simp
           with_reducible rfl
         rotate_left
         · simp only [Act.put, sA, sB, sC, i64_w, i32_w]
           rfl
         refine one_ (i := 7) (N := some 39) impl_validPiece.d8 rfl rfl (one_of HT_.out (by kernel_rfl)) (by decide) (fun K hK => ?_)
         refine goes_ Try.func57 (by kernel_rfl) rfl #[.int .i64 ((rd_T105 l0_1 x27_2).f1), .int .i64 0, .int .i64 5] (by rfl) rfl rfl (by (try simp only [List.map_toArray, List.map_cons, List.map_nil]); first | done | rfl | (simp only [List.length_drop, List.length_take]; rfl)) ?_
         with_reducible refine (impl_within.calls ((rd_T105 l0_1 x27_2).f1) 0 5 true _ A19.out).mono ?_
         rintro e w' ⟨rfl, ⟨nd, rfl⟩⟩
         refine ⟨_, rfl, ?_⟩
         refine hK.out _ _ ⟨(blk_cell BK273.out 0).trans rfl, (blk_cell BK273.out 1).trans rfl⟩ (fun hHeld => ?_)
         clear hK K
         refine norm_ (a' := ?_) ?_ ?_
         rotate_left
         · show Act.put _ (some 39) _ = _
           simp only [Act.put, sA, sB, sC, i64_w, i32_w]
           rfl
         refine p1_ HT_.out 8 40 impl_validPiece.d9 ?_
         refine p1_ HT_.out 9 41 impl_validPiece.d10 ?_
         refine p1_ HT_.out 10 42 impl_validPiece.d11 ?_
         refine p1_ HT_.out 11 43 impl_validPiece.d12 ?_
         refine p1_ HT_.out 12 44 impl_validPiece.d13 ?_
         refine p1_ HT_.out 13 45 impl_validPiece.d14 ?_
         refine p0_ HT_.out 14 46 impl_validPiece.d15 ?_
         refine p0_ HT_.out 15 47 impl_validPiece.d26 ?_
         refine p0_ HT_.out 16 48 impl_validPiece.d27 ?_
         refine p0_ HT_.out 17 49 impl_validPiece.d18 ?_
         refine p0_ HT_.out 18 50 impl_validPiece.d19 ?_
         refine p0_ HT_.out 19 51 impl_validPiece.d20 ?_
         refine p0_ HT_.out 20 52 impl_validPiece.d21 ?_
         refine p0_ HT_.out 21 53 impl_validPiece.d22 ?_
         refine p0_ HT_.out 22 54 impl_validPiece.d23 ?_
         refine p1_ HT_.out 23 55 impl_validPiece.d24 ?_
         refine p1_ HT_.out 24 56 impl_validPiece.d25 ?_
         refine done_ (done_of HT_.out (by kernel_rfl)) ?_
         try go_wp2
         go_roundg k2
         case measure => have := HJ1.out; have := HK2.out; omega
         case rel => exact ⟨(wrap64 (x27_2 + 1)), (by first | rfl | (simp; done) | (simp [*]; done) | (simp [i64_w, i32_w]; done)), H', ⟨by have := HJ1.out; have := HK2.out; omega⟩, ⟨by (with_reducible repeat (first | refine blk_drewN ?_ _ | refine blk_drew ?_ | refine blk_alloc ?_ _)); exact BK262.out⟩, ⟨by repeat (first | (with_reducible first | exact HB.out | apply below_alloc | apply pw_below_drewN | apply below_drew1 | refine below_set ?_ GE262.out | refine below_set ?_ GE273.out) | exact HB.out)⟩⟩
       rw [if_pos c21] at H
       have c21b0 : decide (0 < x27_2) = true := decide_eq_true c21
       clear c21
       obtain ⟨ji22, hji22⟩ : ∃ j_ : Int, (wrap64 (x27_2 - 1)) = j_ := ⟨_, rfl⟩
       replace H : (if 0 ≤ (ji22) then (if (ji22) < (l0_1.length : Int) then ((impl_compareCells.f ((rd_T105 l0_1 (ji22)).f0) ((rd_T105 l0_1 (ji22)).f1) ((rd_T105 l0_1 x27_2).f0) ((rd_T105 l0_1 x27_2).f1)).bind fun t277 => (if t277 ≥ 0 then (some false) else (impl_validPiece.l0 k2 l0_1 (l0_1.length : Int) (wrap64 (x27_2 + 1)) a0_0 l0_1 a0_2 a0_3))) else (none)) else (none)) = some r := by first | (rw [hji22] at H; exact H) | (simp only [hji22] at H ⊢; exact H)
       (try rw [hji22] at A17)
       (try rw [hji22] at A19)
       have hji22w : (IntKind.i64.wrap (x27_2 - 1)) = ji22 := (i64_w _).trans hji22
       by_cases c23 : 0 ≤ (ji22)
       rotate_left
       · rw [if_neg c23] at H
         exact absurd H (by simp)
       rw [if_pos c23] at H
       have c23b0 : decide (0 ≤ (ji22)) = true := decide_eq_true c23
       clear c23
       by_cases c24 : (ji22) < (l0_1.length : Int)
       rotate_left
       · rw [if_neg c24] at H
         exact absurd H (by simp)
       rw [if_pos c24] at H
       have c24b0 : decide ((ji22) < (l0_1.length : Int)) = true := decide_eq_true c24
       clear c24
       replace H := Option.bind_eq_some_iff.mp H
       obtain ⟨t277, A250, H⟩ := H
       replace H : (if t277 ≥ 0 then (some false) else (impl_validPiece.l0 k2 l0_1 (l0_1.length : Int) (wrap64 (x27_2 + 1)) a0_0 l0_1 a0_2 a0_3)) = some r := H
       have A25 := mkA A250
       clear A250
       by_cases c26 : t277 ≥ 0
       · rw [if_pos c26] at H
         have c26b0 : decide (0 ≤ t277) = true := decide_eq_true c26
         clear c26
         obtain rfl := Option.some.inj H
         have p272 : 0 ≤ (x27_2 : Int) := dt_
         have q272 : x27_2 < (l0_1.length : Int) := dt_
         obtain ⟨ad272, e272, hx272_0, hx272_1⟩ := at_T105 HR0_1.out x27_2 p272 q272
         cases e272
         replace hx272_0 := bc_ HB.out hx272_0
         replace hx272_1 := bc_ HB.out hx272_1
         replace p272 := eq_true p272
         replace q272 := eq_true q272
         try go_wp2_with (first | ((with_reducible refine gate_dst (N := 4) rfl ?_); (try (refine gate_guard (by rfl) ?_; dsimp only)); refine box_event ?hg (N := 4) ?hd (cs := #[.int .i64 0, .int .i64 0]) (t := 105) ?hr ?_; (case hd => rfl); (case hg => rfl); (case hr => first | (go_simp; done) | (go_simp; rfl)); intro gb273 hg w27 hbox hb; have n0_ := mkA (blk_below (g := gb262) (o := .cells #[.string a0_0, .slice (some ad272) l0_1.length c0_1, .int .i64 a0_2, .bool a0_3] 53 (0, 0)) (bl_ BK262.out) hb); have n1_ := mkA (below_step (bs1_ HB.out GE262.out) hb); have n2_ := mkA (hbox); have n3_ := mkA ((by rw [hg]; exact (below_size (bs1_ HB.out GE262.out)) : w.heap.size ≤ gb273)); have n4_ := mkA ((by rw [hg]; exact (below_size (bs1_ HB.out GE262.out)) : w.heap.size ≤ gb273)); have n5_ := mkA ((by rw [hg]; exact Nat.ne_of_lt (blk_lt (g := gb262) (o := .cells #[.string a0_0, .slice (some ad272) l0_1.length c0_1, .int .i64 a0_2, .bool a0_3] 53 (0, 0)) (bl_ BK262.out)) : gb262 ≠ gb273)); have n6_ := mkA ((by rw [hg]; exact Nat.ne_of_gt (blk_lt (g := gb262) (o := .cells #[.string a0_0, .slice (some ad272) l0_1.length c0_1, .int .i64 a0_2, .bool a0_3] 53 (0, 0)) (bl_ BK262.out)) : gb273 ≠ gb262)); clear BK262; clear HB; have BK262 := n0_; have HB := n1_; have BK273 := n2_; have GW273 := n3_; have GE273 := n4_; have NB262_273 := n5_; have NB273_262 := n6_; clear n0_ n1_ n2_ n3_ n4_ n5_ n6_; clear hb hbox hg; have hnb28 := NB273_262.out; have hnc28 := NB262_273.out; have hcz29_0 : w27.cell? ⟨gb273, 0, none⟩ = some (.int .i64 0) := (blk_cell BK273.out 0).trans rfl; have hcz29_1 : w27.cell? ⟨gb273, 1, none⟩ = some (.int .i64 0) := (blk_cell BK273.out 1).trans rfl; have hfz29_0 := blk_frozen BK273.out 0; have hfz29_1 := blk_frozen BK273.out 1))
         have n0_ : Aside0 (((w27.setCell ⟨gb273, 0, none⟩ (.int .i64 ((rd_T105 l0_1 x27_2).f0))).setCell ⟨gb273, 1, none⟩ (.int .i64 ((rd_T105 l0_1 x27_2).f1))).heap[gb262]? = some (.cells #[.string a0_0, .slice (some ad272) l0_1.length c0_1, .int .i64 a0_2, .bool a0_3] 53 (0, 0))) := ⟨by (with_reducible repeat (first | refine blk_drewN ?_ _ | refine blk_drew ?_ | refine blk_alloc ?_ _)); refine blk_far ?_ NB262_273.out _; (with_reducible repeat (first | refine blk_drewN ?_ _ | refine blk_drew ?_ | refine blk_alloc ?_ _)); refine blk_far ?_ NB262_273.out _; (with_reducible repeat (first | refine blk_drewN ?_ _ | refine blk_drew ?_ | refine blk_alloc ?_ _)); exact BK262.out⟩
         have n1_ : Aside0 (((w27.setCell ⟨gb273, 0, none⟩ (.int .i64 ((rd_T105 l0_1 x27_2).f0))).setCell ⟨gb273, 1, none⟩ (.int .i64 ((rd_T105 l0_1 x27_2).f1))).heap[gb273]? = some (.cells #[.int .i64 ((rd_T105 l0_1 x27_2).f0), .int .i64 ((rd_T105 l0_1 x27_2).f1)] 105 (0, 0))) := ⟨by (with_reducible repeat (first | refine blk_drewN ?_ _ | refine blk_drew ?_ | refine blk_alloc ?_ _)); refine blk_put (cs := #[.int .i64 ((rd_T105 l0_1 x27_2).f0), .int .i64 0]) ?_ 1 _ rfl; (with_reducible repeat (first | refine blk_drewN ?_ _ | refine blk_drew ?_ | refine blk_alloc ?_ _)); refine blk_put (cs := #[.int .i64 0, .int .i64 0]) ?_ 0 _ rfl; (with_reducible repeat (first | refine blk_drewN ?_ _ | refine blk_drew ?_ | refine blk_alloc ?_ _)); exact BK273.out⟩
         have n2_ : Aside0 (Below w.heap.size w ((w27.setCell ⟨gb273, 0, none⟩ (.int .i64 ((rd_T105 l0_1 x27_2).f0))).setCell ⟨gb273, 1, none⟩ (.int .i64 ((rd_T105 l0_1 x27_2).f1)))) := ⟨by repeat (first | (with_reducible first | exact HB.out | apply below_alloc | apply pw_below_drewN | apply below_drew1 | refine below_set ?_ GE262.out | refine below_set ?_ GE273.out) | exact HB.out)⟩
         (try clear BK262)
         (try clear BK273)
         (try clear HB)
         generalize ((w27.setCell ⟨gb273, 0, none⟩ (.int .i64 ((rd_T105 l0_1 x27_2).f0))).setCell ⟨gb273, 1, none⟩ (.int .i64 ((rd_T105 l0_1 x27_2).f1))) = w30 at n0_ n1_ n2_ ⊢
         have BK262 := n0_
         have BK273 := n1_
         have HB := n2_
         clear n0_ n1_ n2_
         have n0_ := mkA (blk_drew BK262.out)
         have n1_ := mkA (blk_drew BK273.out)
         have n2_ := mkA (below_drew1 HB.out)
         clear BK262
         clear BK273
         clear HB
         have BK262 := n0_
         have BK273 := n1_
         have HB := n2_
         clear n0_ n1_ n2_
         have p276 : 0 ≤ ((ji22) : Int) := dt_
         have q276 : (ji22) < (l0_1.length : Int) := dt_
         obtain ⟨ad276, e276, hx276_0, hx276_1⟩ := at_T105 HR0_1.out (ji22) p276 q276
         have hw276_1 := hx276_1
         have hw276_0 := hx276_0
         obtain rfl : ad272 = ad276 := (by injection e276)
         replace hx276_0 := bc_ HB.out hx276_0
         replace hx276_1 := bc_ HB.out hx276_1
         replace p276 := eq_true p276
         replace q276 := eq_true q276
         refine start_ (n := 25) (S := fun w' => w'.cell? ⟨gb273, 0, none⟩ = some (.int .i64 ((rd_T105 l0_1 x27_2).f0)) ∧ w'.cell? ⟨gb273, 1, none⟩ = some (.int .i64 ((rd_T105 l0_1 x27_2).f1)) ∧ w'.cell? ⟨gb262, 0, none⟩ = some (.string a0_0) ∧ w'.cell? ⟨gb262, 1, none⟩ = some (.slice (some ad272) l0_1.length c0_1) ∧ w'.cell? ⟨gb262, 2, none⟩ = some (.int .i64 a0_2) ∧ w'.cell? ⟨gb262, 3, none⟩ = some (.bool a0_3) ∧ w'.cell? (ad272.add (((ji22)).toNat * 2)) = some (.int .i64 ((rd_T105 l0_1 (ji22)).f0)) ∧ w'.cell? ⟨(ad272.add (((ji22)).toNat * 2)).block, (ad272.add (((ji22)).toNat * 2)).off + 1, none⟩ = some (.int .i64 ((rd_T105 l0_1 (ji22)).f1))) (ds := []) impl_validPiece.d0 (by kernel_rfl) rfl rfl ⟨(blk_cell BK273.out 0).trans rfl, (blk_cell BK273.out 1).trans rfl, (blk_cell BK262.out 0).trans rfl, (blk_cell BK262.out 1).trans rfl, (blk_cell BK262.out 2).trans rfl, (blk_cell BK262.out 3).trans rfl, (bc_ HB.out hw276_0 :), (bc_ HB.out hw276_1 :)⟩ (fun hHeld => ?_); refine with_tabW impl_validPiece.tab6 impl_validPiece.bits6 (fun HT_ HW_ => ?_)
         generalize w30.drew = w31 at BK262 BK273 HB hx276_0 hx276_1 hHeld ⊢
         refine p1_ HT_.out 0 32 impl_validPiece.d1 ?_
         refine take_ (i := 1) (N := some 33) (v := ?_) (a' := ?_) impl_validPiece.d2 rfl rfl (take_ofW HT_.out HW_.out (by kernel_rfl)) (fun _ _ _ h => h) (Or.inl ⟨by rfl, ?_⟩) hHeld ?_ ?_
         rotate_left
         · rintro w' ⟨s0, s1, s2, s3, s4, s5, s6, s7⟩
           go_simp
           with_reducible rfl
         rotate_left
         · simp only [Act.put, sA, sB, sC, i64_w, i32_w]
           rfl
         refine one_ (i := 2) (N := some 34) impl_validPiece.d3 rfl rfl (one_of HT_.out (by kernel_rfl)) (by decide) (fun K hK => ?_)
         refine goes_ Try.func57 (by kernel_rfl) rfl #[.int .i64 ((rd_T105 l0_1 x27_2).f0), .int .i64 0, .int .i64 5] (by rfl) rfl rfl (by (try simp only [List.map_toArray, List.map_cons, List.map_nil]); first | done | rfl | (simp only [List.length_drop, List.length_take]; rfl)) ?_
         with_reducible refine (impl_within.calls ((rd_T105 l0_1 x27_2).f0) 0 5 true _ A17.out).mono ?_
         rintro e w' ⟨rfl, ⟨nd, rfl⟩⟩
         refine ⟨_, rfl, ?_⟩
         refine hK.out _ _ ⟨(blk_cell BK273.out 0).trans rfl, (blk_cell BK273.out 1).trans rfl, (blk_cell BK262.out 0).trans rfl, (blk_cell BK262.out 1).trans rfl, (blk_cell BK262.out 2).trans rfl, (blk_cell BK262.out 3).trans rfl, (bc_ HB.out hw276_0 :), (bc_ HB.out hw276_1 :)⟩ (fun hHeld => ?_)
         clear hK K
         refine norm_ (a' := ?_) ?_ ?_
         rotate_left
         · show Act.put _ (some 34) _ = _
           simp only [Act.put, sA, sB, sC, i64_w, i32_w]
           rfl
         refine p1_ HT_.out 3 35 impl_validPiece.d4 ?_
         refine p1_ HT_.out 4 36 impl_validPiece.d5 ?_
         refine p1_ HT_.out 5 37 impl_validPiece.d6 ?_
         refine take_ (i := 6) (N := some 38) (v := ?_) (a' := ?_) impl_validPiece.d7 rfl rfl (take_ofW HT_.out HW_.out (by kernel_rfl)) (fun _ _ _ h => h) (Or.inl ⟨by rfl, ?_⟩) hHeld ?_ ?_
         rotate_left
         · rintro w' ⟨s0, s1, s2, s3, s4, s5, s6, s7⟩
           go_simp
           with_reducible rfl
         rotate_left
         · simp only [Act.put, sA, sB, sC, i64_w, i32_w]
           rfl
         refine one_ (i := 7) (N := some 39) impl_validPiece.d8 rfl rfl (one_of HT_.out (by kernel_rfl)) (by decide) (fun K hK => ?_)
         refine goes_ Try.func57 (by kernel_rfl) rfl #[.int .i64 ((rd_T105 l0_1 x27_2).f1), .int .i64 0, .int .i64 5] (by rfl) rfl rfl (by (try simp only [List.map_toArray, List.map_cons, List.map_nil]); first | done | rfl | (simp only [List.length_drop, List.length_take]; rfl)) ?_
         with_reducible refine (impl_within.calls ((rd_T105 l0_1 x27_2).f1) 0 5 true _ A19.out).mono ?_
         rintro e w' ⟨rfl, ⟨nd, rfl⟩⟩
         refine ⟨_, rfl, ?_⟩
         refine hK.out _ _ ⟨(blk_cell BK273.out 0).trans rfl, (blk_cell BK273.out 1).trans rfl, (blk_cell BK262.out 0).trans rfl, (blk_cell BK262.out 1).trans rfl, (blk_cell BK262.out 2).trans rfl, (blk_cell BK262.out 3).trans rfl, (bc_ HB.out hw276_0 :), (bc_ HB.out hw276_1 :)⟩ (fun hHeld => ?_)
         clear hK K
         refine norm_ (a' := ?_) ?_ ?_
         rotate_left
         · show Act.put _ (some 39) _ = _
           simp only [Act.put, sA, sB, sC, i64_w, i32_w]
           rfl
         refine p1_ HT_.out 8 40 impl_validPiece.d9 ?_
         refine p1_ HT_.out 9 41 impl_validPiece.d10 ?_
         refine p1_ HT_.out 10 42 impl_validPiece.d11 ?_
         refine p1_ HT_.out 11 43 impl_validPiece.d12 ?_
         refine p1_ HT_.out 12 44 impl_validPiece.d13 ?_
         refine p1_ HT_.out 13 45 impl_validPiece.d14 ?_
         refine p1_ HT_.out 14 46 impl_validPiece.d15 ?_
         refine p1_ HT_.out 16 48 impl_validPiece.d16 ?_
         refine p1_ HT_.out 17 49 impl_validPiece.d17 ?_
         refine take_ (i := 15) (N := some 47) (v := ?_) (a' := ?_) impl_validPiece.d18 rfl rfl (take_ofW HT_.out HW_.out (by kernel_rfl)) (fun _ _ _ h => h) (Or.inl ⟨by rfl, ?_⟩) hHeld ?_ ?_
         rotate_left
         · rintro w' ⟨s0, s1, s2, s3, s4, s5, s6, s7⟩
           go_simp
           with_reducible rfl
         rotate_left
         · simp only [Act.put, sA, sB, sC, i64_w, i32_w]
           rfl
         refine p1_ HT_.out 18 50 impl_validPiece.d19 ?_
         refine take_ (i := 19) (N := some 51) (v := ?_) (a' := ?_) impl_validPiece.d20 rfl rfl (take_ofW HT_.out HW_.out (by kernel_rfl)) (fun _ _ _ h => h) (Or.inl ⟨by rfl, ?_⟩) hHeld ?_ ?_
         rotate_left
         · rintro w' ⟨s0, s1, s2, s3, s4, s5, s6, s7⟩
           go_simp
           with_reducible rfl
         rotate_left
         · simp only [Act.put, sA, sB, sC, i64_w, i32_w]
           rfl
         refine take_ (i := 20) (N := some 52) (v := ?_) (a' := ?_) impl_validPiece.d21 rfl rfl (take_ofW HT_.out HW_.out (by kernel_rfl)) (fun _ _ _ h => h) (Or.inl ⟨by rfl, ?_⟩) hHeld ?_ ?_
         rotate_left
         · rintro w' ⟨s0, s1, s2, s3, s4, s5, s6, s7⟩
           go_simp
           with_reducible rfl
         rotate_left
         · simp only [Act.put, sA, sB, sC, i64_w, i32_w]
           rfl
         refine one_ (i := 21) (N := some 53) impl_validPiece.d22 rfl rfl (one_of HT_.out (by kernel_rfl)) (by decide) (fun K hK => ?_)
         refine goes_ Try.func89 (by kernel_rfl) rfl #[.agg #[.int .i64 ((rd_T105 l0_1 (ji22)).f0), .int .i64 ((rd_T105 l0_1 (ji22)).f1)], .agg #[.int .i64 ((rd_T105 l0_1 x27_2).f0), .int .i64 ((rd_T105 l0_1 x27_2).f1)]] (by rfl) rfl rfl (by (try simp only [List.map_toArray, List.map_cons, List.map_nil]); first | done | (simp only [hji22]; rfl) | rfl | (simp only [List.length_drop, List.length_take]; rfl)) ?_
         with_reducible refine (impl_compareCells.calls ((rd_T105 l0_1 (ji22)).f0) ((rd_T105 l0_1 (ji22)).f1) ((rd_T105 l0_1 x27_2).f0) ((rd_T105 l0_1 x27_2).f1) t277 _ A25.out).mono ?_
         rintro e w32 ⟨rfl, hb⟩
         refine ⟨_, rfl, ?_⟩
         have n0_ := mkA (blk_below (g := gb262) (o := .cells #[.string a0_0, .slice (some ad272) l0_1.length c0_1, .int .i64 a0_2, .bool a0_3] 53 (0, 0)) (bl_ BK262.out) hb)
         have n1_ := mkA (blk_below (g := gb273) (o := .cells #[.int .i64 ((rd_T105 l0_1 x27_2).f0), .int .i64 ((rd_T105 l0_1 x27_2).f1)] 105 (0, 0)) (bl_ BK273.out) hb)
         have n2_ := mkA (below_step (bs2_ HB.out GE262.out GE273.out) hb)
         clear BK262
         clear BK273
         clear HB
         have BK262 := n0_
         have BK273 := n1_
         have HB := n2_
         clear n0_ n1_ n2_
         (try clear hb)
         (try clear hb2)
         (try clear hk)
         (try clear hi)
         refine hK.out _ _ ⟨(blk_cell BK273.out 0).trans rfl, (blk_cell BK273.out 1).trans rfl, (blk_cell BK262.out 0).trans rfl, (blk_cell BK262.out 1).trans rfl, (blk_cell BK262.out 2).trans rfl, (blk_cell BK262.out 3).trans rfl, (bc_ HB.out hw276_0 :), (bc_ HB.out hw276_1 :)⟩ (fun hHeld => ?_)
         clear hK K
         refine norm_ (a' := ?_) ?_ ?_
         rotate_left
         · show Act.put _ (some 53) _ = _
           simp only [Act.put, sA, sB, sC, i64_w, i32_w]
           rfl
         refine p1_ HT_.out 22 54 impl_validPiece.d23 ?_
         refine p1_ HT_.out 23 55 impl_validPiece.d24 ?_
         refine p1_ HT_.out 24 56 impl_validPiece.d25 ?_
         refine done_ (done_of HT_.out (by kernel_rfl)) ?_
         try go_wp2
         go_ret
         exact ⟨by first | rfl | (simp [errW_none, errW_some] <;> rfl) | (simp only [← hji22]; first | rfl | (simp [errW_none, errW_some] <;> rfl)) | (simp [*, errW_none, errW_some] <;> rfl), by repeat (first | (with_reducible first | exact HB.out | apply below_alloc | apply pw_below_drewN | apply below_drew1 | refine below_set ?_ GE262.out | refine below_set ?_ GE273.out) | exact HB.out)⟩
       · rw [if_neg c26] at H
         have c26b0 : decide (0 ≤ t277) = false := decide_eq_false c26
         clear c26
         have H' := mkA H
         clear H
         have p272 : 0 ≤ (x27_2 : Int) := dt_
         have q272 : x27_2 < (l0_1.length : Int) := dt_
         obtain ⟨ad272, e272, hx272_0, hx272_1⟩ := at_T105 HR0_1.out x27_2 p272 q272
         cases e272
         replace hx272_0 := bc_ HB.out hx272_0
         replace hx272_1 := bc_ HB.out hx272_1
         replace p272 := eq_true p272
         replace q272 := eq_true q272
         try go_wp2_with (first | ((with_reducible refine gate_dst (N := 4) rfl ?_); (try (refine gate_guard (by rfl) ?_; dsimp only)); refine box_event ?hg (N := 4) ?hd (cs := #[.int .i64 0, .int .i64 0]) (t := 105) ?hr ?_; (case hd => rfl); (case hg => rfl); (case hr => first | (go_simp; done) | (go_simp; rfl)); intro gb273 hg w33 hbox hb; have n0_ := mkA (blk_below (g := gb262) (o := .cells #[.string a0_0, .slice (some ad272) l0_1.length c0_1, .int .i64 a0_2, .bool a0_3] 53 (0, 0)) (bl_ BK262.out) hb); have n1_ := mkA (below_step (bs1_ HB.out GE262.out) hb); have n2_ := mkA (hbox); have n3_ := mkA ((by rw [hg]; exact (below_size (bs1_ HB.out GE262.out)) : w.heap.size ≤ gb273)); have n4_ := mkA ((by rw [hg]; exact (below_size (bs1_ HB.out GE262.out)) : w.heap.size ≤ gb273)); have n5_ := mkA ((by rw [hg]; exact Nat.ne_of_lt (blk_lt (g := gb262) (o := .cells #[.string a0_0, .slice (some ad272) l0_1.length c0_1, .int .i64 a0_2, .bool a0_3] 53 (0, 0)) (bl_ BK262.out)) : gb262 ≠ gb273)); have n6_ := mkA ((by rw [hg]; exact Nat.ne_of_gt (blk_lt (g := gb262) (o := .cells #[.string a0_0, .slice (some ad272) l0_1.length c0_1, .int .i64 a0_2, .bool a0_3] 53 (0, 0)) (bl_ BK262.out)) : gb273 ≠ gb262)); clear BK262; clear HB; have BK262 := n0_; have HB := n1_; have BK273 := n2_; have GW273 := n3_; have GE273 := n4_; have NB262_273 := n5_; have NB273_262 := n6_; clear n0_ n1_ n2_ n3_ n4_ n5_ n6_; clear hb hbox hg; have hnb34 := NB273_262.out; have hnc34 := NB262_273.out; have hcz35_0 : w33.cell? ⟨gb273, 0, none⟩ = some (.int .i64 0) := (blk_cell BK273.out 0).trans rfl; have hcz35_1 : w33.cell? ⟨gb273, 1, none⟩ = some (.int .i64 0) := (blk_cell BK273.out 1).trans rfl; have hfz35_0 := blk_frozen BK273.out 0; have hfz35_1 := blk_frozen BK273.out 1))
         have n0_ : Aside0 (((w33.setCell ⟨gb273, 0, none⟩ (.int .i64 ((rd_T105 l0_1 x27_2).f0))).setCell ⟨gb273, 1, none⟩ (.int .i64 ((rd_T105 l0_1 x27_2).f1))).heap[gb262]? = some (.cells #[.string a0_0, .slice (some ad272) l0_1.length c0_1, .int .i64 a0_2, .bool a0_3] 53 (0, 0))) := ⟨by (with_reducible repeat (first | refine blk_drewN ?_ _ | refine blk_drew ?_ | refine blk_alloc ?_ _)); refine blk_far ?_ NB262_273.out _; (with_reducible repeat (first | refine blk_drewN ?_ _ | refine blk_drew ?_ | refine blk_alloc ?_ _)); refine blk_far ?_ NB262_273.out _; (with_reducible repeat (first | refine blk_drewN ?_ _ | refine blk_drew ?_ | refine blk_alloc ?_ _)); exact BK262.out⟩
         have n1_ : Aside0 (((w33.setCell ⟨gb273, 0, none⟩ (.int .i64 ((rd_T105 l0_1 x27_2).f0))).setCell ⟨gb273, 1, none⟩ (.int .i64 ((rd_T105 l0_1 x27_2).f1))).heap[gb273]? = some (.cells #[.int .i64 ((rd_T105 l0_1 x27_2).f0), .int .i64 ((rd_T105 l0_1 x27_2).f1)] 105 (0, 0))) := ⟨by (with_reducible repeat (first | refine blk_drewN ?_ _ | refine blk_drew ?_ | refine blk_alloc ?_ _)); refine blk_put (cs := #[.int .i64 ((rd_T105 l0_1 x27_2).f0), .int .i64 0]) ?_ 1 _ rfl; (with_reducible repeat (first | refine blk_drewN ?_ _ | refine blk_drew ?_ | refine blk_alloc ?_ _)); refine blk_put (cs := #[.int .i64 0, .int .i64 0]) ?_ 0 _ rfl; (with_reducible repeat (first | refine blk_drewN ?_ _ | refine blk_drew ?_ | refine blk_alloc ?_ _)); exact BK273.out⟩
         have n2_ : Aside0 (Below w.heap.size w ((w33.setCell ⟨gb273, 0, none⟩ (.int .i64 ((rd_T105 l0_1 x27_2).f0))).setCell ⟨gb273, 1, none⟩ (.int .i64 ((rd_T105 l0_1 x27_2).f1)))) := ⟨by repeat (first | (with_reducible first | exact HB.out | apply below_alloc | apply pw_below_drewN | apply below_drew1 | refine below_set ?_ GE262.out | refine below_set ?_ GE273.out) | exact HB.out)⟩
         (try clear BK262)
         (try clear BK273)
         (try clear HB)
         generalize ((w33.setCell ⟨gb273, 0, none⟩ (.int .i64 ((rd_T105 l0_1 x27_2).f0))).setCell ⟨gb273, 1, none⟩ (.int .i64 ((rd_T105 l0_1 x27_2).f1))) = w36 at n0_ n1_ n2_ ⊢
         have BK262 := n0_
         have BK273 := n1_
         have HB := n2_
         clear n0_ n1_ n2_
         have n0_ := mkA (blk_drew BK262.out)
         have n1_ := mkA (blk_drew BK273.out)
         have n2_ := mkA (below_drew1 HB.out)
         clear BK262
         clear BK273
         clear HB
         have BK262 := n0_
         have BK273 := n1_
         have HB := n2_
         clear n0_ n1_ n2_
         have p276 : 0 ≤ ((ji22) : Int) := dt_
         have q276 : (ji22) < (l0_1.length : Int) := dt_
         obtain ⟨ad276, e276, hx276_0, hx276_1⟩ := at_T105 HR0_1.out (ji22) p276 q276
         have hw276_1 := hx276_1
         have hw276_0 := hx276_0
         obtain rfl : ad272 = ad276 := (by injection e276)
         replace hx276_0 := bc_ HB.out hx276_0
         replace hx276_1 := bc_ HB.out hx276_1
         replace p276 := eq_true p276
         replace q276 := eq_true q276
         refine start_ (n := 25) (S := fun w' => w'.cell? ⟨gb273, 0, none⟩ = some (.int .i64 ((rd_T105 l0_1 x27_2).f0)) ∧ w'.cell? ⟨gb273, 1, none⟩ = some (.int .i64 ((rd_T105 l0_1 x27_2).f1)) ∧ w'.cell? ⟨gb262, 0, none⟩ = some (.string a0_0) ∧ w'.cell? ⟨gb262, 1, none⟩ = some (.slice (some ad272) l0_1.length c0_1) ∧ w'.cell? ⟨gb262, 2, none⟩ = some (.int .i64 a0_2) ∧ w'.cell? ⟨gb262, 3, none⟩ = some (.bool a0_3) ∧ w'.cell? (ad272.add (((ji22)).toNat * 2)) = some (.int .i64 ((rd_T105 l0_1 (ji22)).f0)) ∧ w'.cell? ⟨(ad272.add (((ji22)).toNat * 2)).block, (ad272.add (((ji22)).toNat * 2)).off + 1, none⟩ = some (.int .i64 ((rd_T105 l0_1 (ji22)).f1))) (ds := []) impl_validPiece.d0 (by kernel_rfl) rfl rfl ⟨(blk_cell BK273.out 0).trans rfl, (blk_cell BK273.out 1).trans rfl, (blk_cell BK262.out 0).trans rfl, (blk_cell BK262.out 1).trans rfl, (blk_cell BK262.out 2).trans rfl, (blk_cell BK262.out 3).trans rfl, (bc_ HB.out hw276_0 :), (bc_ HB.out hw276_1 :)⟩ (fun hHeld => ?_); refine with_tabW impl_validPiece.tab6 impl_validPiece.bits6 (fun HT_ HW_ => ?_)
         generalize w36.drew = w37 at BK262 BK273 HB hx276_0 hx276_1 hHeld ⊢
         refine p1_ HT_.out 0 32 impl_validPiece.d1 ?_
         refine take_ (i := 1) (N := some 33) (v := ?_) (a' := ?_) impl_validPiece.d2 rfl rfl (take_ofW HT_.out HW_.out (by kernel_rfl)) (fun _ _ _ h => h) (Or.inl ⟨by rfl, ?_⟩) hHeld ?_ ?_
         rotate_left
         · rintro w' ⟨s0, s1, s2, s3, s4, s5, s6, s7⟩
           go_simp
           with_reducible rfl
         rotate_left
         · simp only [Act.put, sA, sB, sC, i64_w, i32_w]
           rfl
         refine one_ (i := 2) (N := some 34) impl_validPiece.d3 rfl rfl (one_of HT_.out (by kernel_rfl)) (by decide) (fun K hK => ?_)
         refine goes_ Try.func57 (by kernel_rfl) rfl #[.int .i64 ((rd_T105 l0_1 x27_2).f0), .int .i64 0, .int .i64 5] (by rfl) rfl rfl (by (try simp only [List.map_toArray, List.map_cons, List.map_nil]); first | done | rfl | (simp only [List.length_drop, List.length_take]; rfl)) ?_
         with_reducible refine (impl_within.calls ((rd_T105 l0_1 x27_2).f0) 0 5 true _ A17.out).mono ?_
         rintro e w' ⟨rfl, ⟨nd, rfl⟩⟩
         refine ⟨_, rfl, ?_⟩
         refine hK.out _ _ ⟨(blk_cell BK273.out 0).trans rfl, (blk_cell BK273.out 1).trans rfl, (blk_cell BK262.out 0).trans rfl, (blk_cell BK262.out 1).trans rfl, (blk_cell BK262.out 2).trans rfl, (blk_cell BK262.out 3).trans rfl, (bc_ HB.out hw276_0 :), (bc_ HB.out hw276_1 :)⟩ (fun hHeld => ?_)
         clear hK K
         refine norm_ (a' := ?_) ?_ ?_
         rotate_left
         · show Act.put _ (some 34) _ = _
           simp only [Act.put, sA, sB, sC, i64_w, i32_w]
           rfl
         refine p1_ HT_.out 3 35 impl_validPiece.d4 ?_
         refine p1_ HT_.out 4 36 impl_validPiece.d5 ?_
         refine p1_ HT_.out 5 37 impl_validPiece.d6 ?_
         refine take_ (i := 6) (N := some 38) (v := ?_) (a' := ?_) impl_validPiece.d7 rfl rfl (take_ofW HT_.out HW_.out (by kernel_rfl)) (fun _ _ _ h => h) (Or.inl ⟨by rfl, ?_⟩) hHeld ?_ ?_
         rotate_left
         · rintro w' ⟨s0, s1, s2, s3, s4, s5, s6, s7⟩
           go_simp
           with_reducible rfl
         rotate_left
         · simp only [Act.put, sA, sB, sC, i64_w, i32_w]
           rfl
         refine one_ (i := 7) (N := some 39) impl_validPiece.d8 rfl rfl (one_of HT_.out (by kernel_rfl)) (by decide) (fun K hK => ?_)
         refine goes_ Try.func57 (by kernel_rfl) rfl #[.int .i64 ((rd_T105 l0_1 x27_2).f1), .int .i64 0, .int .i64 5] (by rfl) rfl rfl (by (try simp only [List.map_toArray, List.map_cons, List.map_nil]); first | done | rfl | (simp only [List.length_drop, List.length_take]; rfl)) ?_
         with_reducible refine (impl_within.calls ((rd_T105 l0_1 x27_2).f1) 0 5 true _ A19.out).mono ?_
         rintro e w' ⟨rfl, ⟨nd, rfl⟩⟩
         refine ⟨_, rfl, ?_⟩
         refine hK.out _ _ ⟨(blk_cell BK273.out 0).trans rfl, (blk_cell BK273.out 1).trans rfl, (blk_cell BK262.out 0).trans rfl, (blk_cell BK262.out 1).trans rfl, (blk_cell BK262.out 2).trans rfl, (blk_cell BK262.out 3).trans rfl, (bc_ HB.out hw276_0 :), (bc_ HB.out hw276_1 :)⟩ (fun hHeld => ?_)
         clear hK K
         refine norm_ (a' := ?_) ?_ ?_
         rotate_left
         · show Act.put _ (some 39) _ = _
           simp only [Act.put, sA, sB, sC, i64_w, i32_w]
           rfl
         refine p1_ HT_.out 8 40 impl_validPiece.d9 ?_
         refine p1_ HT_.out 9 41 impl_validPiece.d10 ?_
         refine p1_ HT_.out 10 42 impl_validPiece.d11 ?_
         refine p1_ HT_.out 11 43 impl_validPiece.d12 ?_
         refine p1_ HT_.out 12 44 impl_validPiece.d13 ?_
         refine p1_ HT_.out 13 45 impl_validPiece.d14 ?_
         refine p1_ HT_.out 14 46 impl_validPiece.d15 ?_
         refine p1_ HT_.out 16 48 impl_validPiece.d16 ?_
         refine p1_ HT_.out 17 49 impl_validPiece.d17 ?_
         refine take_ (i := 15) (N := some 47) (v := ?_) (a' := ?_) impl_validPiece.d18 rfl rfl (take_ofW HT_.out HW_.out (by kernel_rfl)) (fun _ _ _ h => h) (Or.inl ⟨by rfl, ?_⟩) hHeld ?_ ?_
         rotate_left
         · rintro w' ⟨s0, s1, s2, s3, s4, s5, s6, s7⟩
           go_simp
           with_reducible rfl
         rotate_left
         · simp only [Act.put, sA, sB, sC, i64_w, i32_w]
           rfl
         refine p1_ HT_.out 18 50 impl_validPiece.d19 ?_
         refine take_ (i := 19) (N := some 51) (v := ?_) (a' := ?_) impl_validPiece.d20 rfl rfl (take_ofW HT_.out HW_.out (by kernel_rfl)) (fun _ _ _ h => h) (Or.inl ⟨by rfl, ?_⟩) hHeld ?_ ?_
         rotate_left
         · rintro w' ⟨s0, s1, s2, s3, s4, s5, s6, s7⟩
           go_simp
           with_reducible rfl
         rotate_left
         · simp only [Act.put, sA, sB, sC, i64_w, i32_w]
           rfl
         refine take_ (i := 20) (N := some 52) (v := ?_) (a' := ?_) impl_validPiece.d21 rfl rfl (take_ofW HT_.out HW_.out (by kernel_rfl)) (fun _ _ _ h => h) (Or.inl ⟨by rfl, ?_⟩) hHeld ?_ ?_
         rotate_left
         · rintro w' ⟨s0, s1, s2, s3, s4, s5, s6, s7⟩
           go_simp
           with_reducible rfl
         rotate_left
         · simp only [Act.put, sA, sB, sC, i64_w, i32_w]
           rfl
         refine one_ (i := 21) (N := some 53) impl_validPiece.d22 rfl rfl (one_of HT_.out (by kernel_rfl)) (by decide) (fun K hK => ?_)
         refine goes_ Try.func89 (by kernel_rfl) rfl #[.agg #[.int .i64 ((rd_T105 l0_1 (ji22)).f0), .int .i64 ((rd_T105 l0_1 (ji22)).f1)], .agg #[.int .i64 ((rd_T105 l0_1 x27_2).f0), .int .i64 ((rd_T105 l0_1 x27_2).f1)]] (by rfl) rfl rfl (by (try simp only [List.map_toArray, List.map_cons, List.map_nil]); first | done | (simp only [hji22]; rfl) | rfl | (simp only [List.length_drop, List.length_take]; rfl)) ?_
         with_reducible refine (impl_compareCells.calls ((rd_T105 l0_1 (ji22)).f0) ((rd_T105 l0_1 (ji22)).f1) ((rd_T105 l0_1 x27_2).f0) ((rd_T105 l0_1 x27_2).f1) t277 _ A25.out).mono ?_
         rintro e w38 ⟨rfl, hb⟩
         refine ⟨_, rfl, ?_⟩
         have n0_ := mkA (blk_below (g := gb262) (o := .cells #[.string a0_0, .slice (some ad272) l0_1.length c0_1, .int .i64 a0_2, .bool a0_3] 53 (0, 0)) (bl_ BK262.out) hb)
         have n1_ := mkA (blk_below (g := gb273) (o := .cells #[.int .i64 ((rd_T105 l0_1 x27_2).f0), .int .i64 ((rd_T105 l0_1 x27_2).f1)] 105 (0, 0)) (bl_ BK273.out) hb)
         have n2_ := mkA (below_step (bs2_ HB.out GE262.out GE273.out) hb)
         clear BK262
         clear BK273
         clear HB
         have BK262 := n0_
         have BK273 := n1_
         have HB := n2_
         clear n0_ n1_ n2_
         (try clear hb)
         (try clear hb2)
         (try clear hk)
         (try clear hi)
         refine hK.out _ _ ⟨(blk_cell BK273.out 0).trans rfl, (blk_cell BK273.out 1).trans rfl, (blk_cell BK262.out 0).trans rfl, (blk_cell BK262.out 1).trans rfl, (blk_cell BK262.out 2).trans rfl, (blk_cell BK262.out 3).trans rfl, (bc_ HB.out hw276_0 :), (bc_ HB.out hw276_1 :)⟩ (fun hHeld => ?_)
         clear hK K
         refine norm_ (a' := ?_) ?_ ?_
         rotate_left
         · show Act.put _ (some 53) _ = _
           simp only [Act.put, sA, sB, sC, i64_w, i32_w]
           rfl
         refine p1_ HT_.out 22 54 impl_validPiece.d23 ?_
         refine p1_ HT_.out 23 55 impl_validPiece.d24 ?_
         refine p1_ HT_.out 24 56 impl_validPiece.d25 ?_
         refine done_ (done_of HT_.out (by kernel_rfl)) ?_
         try go_wp2
         go_roundg k2
         case measure => have := HJ1.out; have := HK2.out; omega
         case rel => exact ⟨(wrap64 (x27_2 + 1)), (by first | rfl | (simp; done) | (simp [*]; done) | (simp [i64_w, i32_w]; done)), H', ⟨by have := HJ1.out; have := HK2.out; omega⟩, ⟨by (with_reducible repeat (first | refine blk_drewN ?_ _ | refine blk_drew ?_ | refine blk_alloc ?_ _)); exact BK262.out⟩, ⟨by repeat (first | (with_reducible first | exact HB.out | apply below_alloc | apply pw_below_drewN | apply below_drew1 | refine below_set ?_ GE262.out | refine below_set ?_ GE273.out) | exact HB.out)⟩⟩
end Go.Proofs.Ytakagkflgkoiiaa.GFnExactTurnsOfPiece

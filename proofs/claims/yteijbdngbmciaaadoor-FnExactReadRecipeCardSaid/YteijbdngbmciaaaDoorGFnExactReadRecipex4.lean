-- Written by the session's own program (gen.py) out of the translation's print. Lean checks it.
import Derived.Test.YteijbdngbmciaaaDoorGFnExactReadRecipex0
import Derived.Test.YteijbdngbmciaaaDoorGFnExactReadRecipex2
import Derived.Test.YteijbdngbmciaaaDoorGFnExactReadRecipex3
namespace Go.Proofs.YteijbdngbmciaaaDoor.GFnExactReadRecipe
open Go.RowKit Go.Proofs.YteijbdngbmciaaaDoorW.PrintWords Go.Proofs.YteijbdngbmciaaaDoorW.PrintLast Go.Proofs.YteijbdngbmciaaaDoorW.PrintMore
attribute [local go_sem] max2_int min2_int max_two min_two max_three min_three max_four min_four   -- for this text's walks alone
set_option linter.unusedVariables false
set_option linter.unusedSimpArgs false

/-! ### spec_l21ReadStep: function 23 -/
mutual
def spec_l21ReadStep.j0 : Nat → List ByteArray → List Int → Bool → Bool → Option (Int × Int × Int × Bool)
  | 0, _, _, _, _ => none
  | k + 1, x4, x5, x6, x20 => if x20 = true then (if 0 < (x5.length : Int) then (if 1 < (x5.length : Int) then (some (1, rd x5 0, rd x5 1, true)) else (none)) else (none)) else (if 0 < (x4.length : Int) then (if (rdOf ByteArray.empty x4 0).toList = ([100, 121, 101] : List UInt8) then (if x6 = true then (spec_l21ReadStep.j1 k x4 x5 x6 ((x5.length : Int) == 2)) else (spec_l21ReadStep.j1 k x4 x5 x6 false)) else (spec_l21ReadStep.j1 k x4 x5 x6 false)) else (none))
def spec_l21ReadStep.j1 : Nat → List ByteArray → List Int → Bool → Bool → Option (Int × Int × Int × Bool)
  | 0, _, _, _, _ => none
  | k + 1, x4, x5, x6, x40 => if x40 = true then (if 0 < (x5.length : Int) then (if 1 < (x5.length : Int) then (some (2, rd x5 0, rd x5 1, true)) else (none)) else (none)) else (if 0 < (x4.length : Int) then (if (rdOf ByteArray.empty x4 0).toList = ([98, 108, 101, 97, 99, 104] : List UInt8) then (if x6 = true then (if (x5.length : Int) = 1 then (if 0 < (x5.length : Int) then (some (3, rd x5 0, 0, true)) else (none)) else (some (0, 0, 0, false))) else (some (0, 0, 0, false))) else (some (0, 0, 0, false))) else (none))
end
def spec_l21ReadStep.f (k : Nat) (a0 : ByteArray) : Option (Int × Int × Int × Bool) := (spec_l01Split.f k a0 58).bind fun t158 => (if (t158.length : Int) = 2 then (if 1 < (t158.length : Int) then ((spec_ReadList.f k (rdOf ByteArray.empty t158 1)).bind fun bt162 => (if 0 < (t158.length : Int) then (if (rdOf ByteArray.empty t158 0).toList = ([115, 97, 110, 100] : List UInt8) then (if bt162.2 = true then (spec_l21ReadStep.j0 k t158 bt162.1 bt162.2 ((bt162.1.length : Int) == 2)) else (spec_l21ReadStep.j0 k t158 bt162.1 bt162.2 false)) else (spec_l21ReadStep.j0 k t158 bt162.1 bt162.2 false)) else (none))) else (none)) else (some (0, 0, 0, false)))
theorem spec_l21ReadStep.mono_l : ∀ k, (∀ y0 y1 y2 y3, LeO (spec_l21ReadStep.j0 k y0 y1 y2 y3) (spec_l21ReadStep.j0 (k + 1) y0 y1 y2 y3)) ∧ (∀ y0 y1 y2 y3, LeO (spec_l21ReadStep.j1 k y0 y1 y2 y3) (spec_l21ReadStep.j1 (k + 1) y0 y1 y2 y3))
  | 0 => ⟨fun _ _ _ _ r h => by simp [spec_l21ReadStep.j0] at h, fun _ _ _ _ r h => by simp [spec_l21ReadStep.j1] at h⟩
  | k + 1 => by
    obtain ⟨ih0, ih1⟩ := spec_l21ReadStep.mono_l k
    refine ⟨?_, ?_⟩
    · intro y0 y1 y2 y3
      unfold spec_l21ReadStep.j0
      repeat' first
      | (with_reducible exact ih0 _ _ _ _)
      | (with_reducible exact ih1 _ _ _ _)
      | (with_reducible exact spec_ReadList.mono _ _)
      | (with_reducible exact spec_l01Split.mono _ _ _)
      | (with_reducible exact LeO.refl _)
      | (with_reducible exact LeO.none _)
      | (with_reducible refine LeO.ite ?_ ?_)
      | (with_reducible refine LeO.bind ?_ (fun _ => ?_))
      | exact ih0 _ _ _ _
      | exact ih1 _ _ _ _
      | exact spec_ReadList.mono _ _
      | exact spec_l01Split.mono _ _ _
      | exact LeO.none _
      | refine LeO.ite ?_ ?_
      | refine LeO.bind ?_ (fun _ => ?_)
    · intro y0 y1 y2 y3
      unfold spec_l21ReadStep.j1
      repeat' first
      | (with_reducible exact ih0 _ _ _ _)
      | (with_reducible exact ih1 _ _ _ _)
      | (with_reducible exact spec_ReadList.mono _ _)
      | (with_reducible exact spec_l01Split.mono _ _ _)
      | (with_reducible exact LeO.refl _)
      | (with_reducible exact LeO.none _)
      | (with_reducible refine LeO.ite ?_ ?_)
      | (with_reducible refine LeO.bind ?_ (fun _ => ?_))
      | exact ih0 _ _ _ _
      | exact ih1 _ _ _ _
      | exact spec_ReadList.mono _ _
      | exact spec_l01Split.mono _ _ _
      | exact LeO.none _
      | refine LeO.ite ?_ ?_
      | refine LeO.bind ?_ (fun _ => ?_)
theorem spec_l21ReadStep.mono : ∀ a0 k, LeO (spec_l21ReadStep.f k a0) (spec_l21ReadStep.f (k + 1) a0) := by
  intro a0 k
  obtain ⟨ih0, ih1⟩ := spec_l21ReadStep.mono_l k
  unfold spec_l21ReadStep.f
  repeat' first
      | (with_reducible exact ih0 _ _ _ _)
      | (with_reducible exact ih1 _ _ _ _)
      | (with_reducible exact spec_ReadList.mono _ _)
      | (with_reducible exact spec_l01Split.mono _ _ _)
      | (with_reducible exact LeO.refl _)
      | (with_reducible exact LeO.none _)
      | (with_reducible refine LeO.ite ?_ ?_)
      | (with_reducible refine LeO.bind ?_ (fun _ => ?_))
      | exact ih0 _ _ _ _
      | exact ih1 _ _ _ _
      | exact spec_ReadList.mono _ _
      | exact spec_l01Split.mono _ _ _
      | exact LeO.none _
      | refine LeO.ite ?_ ?_
      | refine LeO.bind ?_ (fun _ => ?_)
def spec_l21ReadStep.T6 : Bool × List (List Nat × List Nat) := (true, [([], []), ([0], [0]), ([1], [1]), ([], []), ([3], [3]), ([4], [4]), ([2, 5], [2, 5]), ([6, 0, 1, 2, 3, 4, 5, 6], [6]), ([7, 0, 1, 2, 3, 4, 5, 6, 7], [])])
def spec_l21ReadStep.B6 : List Nat := [0, 1, 3, 0, 8, 24, 63, 127, 255]
theorem spec_l21ReadStep.tab6 : rtab .any (opsOf Tryd.f23 6) = spec_l21ReadStep.T6 := by kernel_rfl
theorem spec_l21ReadStep.bits6 : waitsOk spec_l21ReadStep.T6.2 spec_l21ReadStep.B6 = true := by kernel_rfl
def spec_l21ReadStep.T8 : Bool × List (List Nat × List Nat) := (true, [([], []), ([0], [0]), ([1], [1]), ([], []), ([3], [3]), ([4], [4]), ([2, 5], [2, 5]), ([6, 0, 1, 2, 3, 4, 5, 6], [6]), ([7, 0, 1, 2, 3, 4, 5, 6, 7], [])])
def spec_l21ReadStep.B8 : List Nat := [0, 1, 3, 0, 8, 24, 63, 127, 255]
theorem spec_l21ReadStep.tab8 : rtab .any (opsOf Tryd.f23 8) = spec_l21ReadStep.T8 := by kernel_rfl
theorem spec_l21ReadStep.bits8 : waitsOk spec_l21ReadStep.T8.2 spec_l21ReadStep.B8 = true := by kernel_rfl
open List renaming setIfInBounds_toArray → sA, set_cons_zero → sB, set_cons_succ → sC
open Go.Proofs.YteijbdngbmciaaaDoorW.PrintWords.Aside0 renaming mk → mkA
open Go.Proofs.YteijbdngbmciaaaDoorX (dt_ bc_ p0_ p1_ bl_ cb_ bs0_ bs1_ bs2_ bs3_ bs4_ bs5_ bs6_ bs7_ bs8_ bs9_ bs10_ bs11_ bs12_)
abbrev spec_l21ReadStep.d0 : Array Bool := #[false, false, false, false, false, false, false, false, false]
abbrev spec_l21ReadStep.d1 : Array Bool := #[true, false, false, false, false, false, false, false, false]
abbrev spec_l21ReadStep.d2 : Array Bool := #[true, true, false, false, false, false, false, false, false]
abbrev spec_l21ReadStep.d3 : Array Bool := #[true, true, false, true, false, false, false, false, false]
abbrev spec_l21ReadStep.d4 : Array Bool := #[true, true, false, true, true, false, false, false, false]
abbrev spec_l21ReadStep.d5 : Array Bool := #[true, true, true, true, true, false, false, false, false]
abbrev spec_l21ReadStep.d6 : Array Bool := #[true, true, true, true, true, true, false, false, false]
abbrev spec_l21ReadStep.d7 : Array Bool := #[true, true, true, true, true, true, true, false, false]
abbrev spec_l21ReadStep.d8 : Array Bool := #[true, true, true, true, true, true, true, true, false]
abbrev spec_l21ReadStep.d9 : Array Bool := #[true, true, true, true, true, true, true, true, true]
set_option maxHeartbeats 8000000 in
set_option maxRecDepth 100000 in
theorem spec_l21ReadStep.calls (k : Nat) (a0 : ByteArray) (r1 : Int) (r2 : Int) (r3 : Int) (r4 : Bool) (w : World) (h : spec_l21ReadStep.f k a0 = some (r1, r2, r3, r4)) :
 Calls Tryd.prog 23 #[.string a0] w fun e w' => e = .returned (.tuple #[.agg #[.int .i64 r1, .int .i64 r2, .int .i64 r3], .bool r4]) ∧ Below w.heap.size w w' := by
 have hu44 := Tryd.underlying44
 have HB := mkA (Below.refl w.heap.size w)
 have H : ((spec_l01Split.f k a0 58).bind fun t158 => (if (t158.length : Int) = 2 then (if 1 < (t158.length : Int) then ((spec_ReadList.f k (rdOf ByteArray.empty t158 1)).bind fun bt162 => (if 0 < (t158.length : Int) then (if (rdOf ByteArray.empty t158 0).toList = ([115, 97, 110, 100] : List UInt8) then (if bt162.2 = true then (spec_l21ReadStep.j0 k t158 bt162.1 bt162.2 ((bt162.1.length : Int) == 2)) else (spec_l21ReadStep.j0 k t158 bt162.1 bt162.2 false)) else (spec_l21ReadStep.j0 k t158 bt162.1 bt162.2 false)) else (none))) else (none)) else (some (0, 0, 0, false)))) = some (r1, r2, r3, r4) := h
 clear h
 replace H := Option.bind_eq_some_iff.mp H
 obtain ⟨t158, A20, H⟩ := H
 replace H : (if (t158.length : Int) = 2 then (if 1 < (t158.length : Int) then ((spec_ReadList.f k (rdOf ByteArray.empty t158 1)).bind fun bt162 => (if 0 < (t158.length : Int) then (if (rdOf ByteArray.empty t158 0).toList = ([115, 97, 110, 100] : List UInt8) then (if bt162.2 = true then (spec_l21ReadStep.j0 k t158 bt162.1 bt162.2 ((bt162.1.length : Int) == 2)) else (spec_l21ReadStep.j0 k t158 bt162.1 bt162.2 false)) else (spec_l21ReadStep.j0 k t158 bt162.1 bt162.2 false)) else (none))) else (none)) else (some (0, 0, 0, false))) = some (r1, r2, r3, r4) := H
 have A2 := mkA A20
 clear A20
 by_cases c3 : (t158.length : Int) = 2
 rotate_left
 · rw [if_neg c3] at H
   have c3b0 : ((t158.length : Int) == 2) = false := beq_eq_false_iff_ne.mpr c3
   have c3b1 : ((t158.length : Int) != 2) = true := bne_iff_ne.mpr c3
   simp only [Option.some.injEq, Prod.mk.injEq] at H
   obtain ⟨rfl, rfl, rfl, rfl⟩ := H
   go_enter Tryd.func23, Tryd.ntmps23
   go_wp2_with (first | ((with_reducible refine gate_dst (N := 2) rfl ?_); (try (refine gate_guard (by rfl) ?_; dsimp only)); refine box_event ?hg (N := 2) ?hd (cs := #[.int .i64 0, .int .i64 0, .int .i64 0]) (t := 44) ?hr ?_; (case hd => rfl); (case hg => rfl); (case hr => first | (go_simp; done) | (go_simp; rfl)); intro gb157 hg w47 hbox hb; have n0_ := mkA (below_step (bs0_ HB.out) hb); have n1_ := mkA (hbox); have n2_ := mkA ((by rw [hg]; exact (below_size (bs0_ HB.out)) : w.heap.size ≤ gb157)); have n3_ := mkA ((by rw [hg]; exact (below_size (bs0_ HB.out)) : w.heap.size ≤ gb157)); clear HB; have HB := n0_; have BK157 := n1_; have GW157 := n2_; have GE157 := n3_; clear n0_ n1_ n2_ n3_; clear hb hbox hg) | ((with_reducible refine gate_callee (f := 22) rfl ?_); refine goesL_ (some 8) rfl rfl Tryd.func22 (by kernel_rfl) rfl #[.string a0, .int .u8 58] rfl (by (try simp only [List.map_toArray, List.map_cons, List.map_nil]); first | done | rfl | (simp only [List.length_drop, List.length_take]; rfl)) ?_; (with_reducible refine (spec_l01Split.calls k a0 58 t158 _ A2.out).mono ?_); rintro e w48 ⟨v159, rfl, ho0, hb⟩; refine ⟨_, rfl, ?_⟩; have n0_ := mkA (Kd.R_lower ho0 (below_size (bs1_ HB.out GE157.out))); have n1_ := mkA (blk_below (g := gb157) (o := .cells #[.int .i64 0, .int .i64 0, .int .i64 0] 44 (0, 0)) (bl_ BK157.out) hb); have n2_ := mkA (below_step (bs1_ HB.out GE157.out) hb); clear BK157; clear HB; have HO160 := n0_; have BK157 := n1_; have HB := n2_; clear n0_ n1_ n2_; (try clear hb); (try clear hb2); (try clear hk); (try clear hi); (try clear ho0); obtain ⟨Ao49, co49, eo49⟩ := Kd.R_slice HO160.out; subst eo49; have hcz50_0 : w48.cell? ⟨gb157, 0, none⟩ = some (.int .i64 0) := (blk_cell BK157.out 0).trans rfl; have hcz50_1 : w48.cell? ⟨gb157, 1, none⟩ = some (.int .i64 0) := (blk_cell BK157.out 1).trans rfl; have hcz50_2 : w48.cell? ⟨gb157, 2, none⟩ = some (.int .i64 0) := (blk_cell BK157.out 2).trans rfl; have hfz50_0 := blk_frozen BK157.out 0; have hfz50_1 := blk_frozen BK157.out 1; have hfz50_2 := blk_frozen BK157.out 2))
   refine bodyPost_ret (results_ct rfl _ _ gb157 44 #[.int .i64 0, .int .i64 0, .int .i64 0] (0, 0) _ rfl (by (with_reducible repeat (first | refine blk_drewN ?_ _ | refine blk_drew ?_ | refine blk_alloc ?_ _)); refine blk_put (cs := #[.int .i64 0, .int .i64 0, .int .i64 0]) ?_ 2 _ rfl; (with_reducible repeat (first | refine blk_drewN ?_ _ | refine blk_drew ?_ | refine blk_alloc ?_ _)); refine blk_put (cs := #[.int .i64 0, .int .i64 0, .int .i64 0]) ?_ 1 _ rfl; (with_reducible repeat (first | refine blk_drewN ?_ _ | refine blk_drew ?_ | refine blk_alloc ?_ _)); refine blk_put (cs := #[.int .i64 0, .int .i64 0, .int .i64 0]) ?_ 0 _ rfl; (with_reducible repeat (first | refine blk_drewN ?_ _ | refine blk_drew ?_ | refine blk_alloc ?_ _)); exact BK157.out) Tryd.underlying44 rfl (by kernel_rfl)) rfl ?_
   exact ⟨by first | rfl | (simp [errW_none, errW_some] <;> rfl) | (simp [*, errW_none, errW_some] <;> rfl), by repeat (first | (with_reducible first | exact HB.out | apply below_alloc | apply pw_below_drewN | apply below_drew1 | refine below_set ?_ GE157.out) | exact HB.out)⟩

 rw [if_pos c3] at H
 have c3b0 : ((t158.length : Int) == 2) = true := beq_iff_eq.mpr c3
 have c3b1 : ((t158.length : Int) != 2) = false := bne_eq_false_iff_eq.mpr c3
 clear c3
 by_cases c4 : 1 < (t158.length : Int)
 rotate_left
 · rw [if_neg c4] at H
   exact absurd H (by simp)
 rw [if_pos c4] at H
 have c4b0 : decide (1 < (t158.length : Int)) = true := decide_eq_true c4
 have c4b1 : decide (1 < t158.length) = true := decide_eq_true (by omega)
 clear c4
 replace H := Option.bind_eq_some_iff.mp H
 obtain ⟨⟨t162, t163⟩, A50, H⟩ := H
 replace H : (if 0 < (t158.length : Int) then (if (rdOf ByteArray.empty t158 0).toList = ([115, 97, 110, 100] : List UInt8) then (if t163 = true then (spec_l21ReadStep.j0 k t158 t162 t163 ((t162.length : Int) == 2)) else (spec_l21ReadStep.j0 k t158 t162 t163 false)) else (spec_l21ReadStep.j0 k t158 t162 t163 false)) else (none)) = some (r1, r2, r3, r4) := H
 have A5 := mkA A50
 clear A50
 have HC6 := mkA H
 clear H
 go_enter Tryd.func23, Tryd.ntmps23
 go_upto_region 5 with (first | ((with_reducible refine gate_dst (N := 2) rfl ?_); (try (refine gate_guard (by rfl) ?_; dsimp only)); refine box_event ?hg (N := 2) ?hd (cs := #[.int .i64 0, .int .i64 0, .int .i64 0]) (t := 44) ?hr ?_; (case hd => rfl); (case hg => rfl); (case hr => first | (go_simp; done) | (go_simp; rfl)); intro gb157 hg w7 hbox hb; have n0_ := mkA (below_step (bs0_ HB.out) hb); have n1_ := mkA (hbox); have n2_ := mkA ((by rw [hg]; exact (below_size (bs0_ HB.out)) : w.heap.size ≤ gb157)); have n3_ := mkA ((by rw [hg]; exact (below_size (bs0_ HB.out)) : w.heap.size ≤ gb157)); clear HB; have HB := n0_; have BK157 := n1_; have GW157 := n2_; have GE157 := n3_; clear n0_ n1_ n2_ n3_; clear hb hbox hg) | ((with_reducible refine gate_callee (f := 22) rfl ?_); refine goesL_ (some 8) rfl rfl Tryd.func22 (by kernel_rfl) rfl #[.string a0, .int .u8 58] rfl (by (try simp only [List.map_toArray, List.map_cons, List.map_nil]); first | done | rfl | (simp only [List.length_drop, List.length_take]; rfl)) ?_; (with_reducible refine (spec_l01Split.calls k a0 58 t158 _ A2.out).mono ?_); rintro e w8 ⟨v159, rfl, ho0, hb⟩; refine ⟨_, rfl, ?_⟩; have n0_ := mkA (Kd.R_lower ho0 (below_size (bs1_ HB.out GE157.out))); have n1_ := mkA (blk_below (g := gb157) (o := .cells #[.int .i64 0, .int .i64 0, .int .i64 0] 44 (0, 0)) (bl_ BK157.out) hb); have n2_ := mkA (below_step (bs1_ HB.out GE157.out) hb); clear BK157; clear HB; have HO160 := n0_; have BK157 := n1_; have HB := n2_; clear n0_ n1_ n2_; (try clear hb); (try clear hb2); (try clear hk); (try clear hi); (try clear ho0); obtain ⟨Ao9, co9, eo9⟩ := Kd.R_slice HO160.out; subst eo9; have p161 : 0 ≤ (1 : Int) := (by omega); have q161 : 1 < (t158.length : Int) := dt_; obtain ⟨ad161, e161, hx161_0⟩ := Kd.at_string (Kd.R_reads' HO160.out).2.2 1 p161 q161; cases e161; (try simp only [show (1 : Int).toNat = 1 from rfl, Nat.reduceMul, Nat.reduceEqDiff, Go.Addr.add, ↓reduceIte] at hx161_0); have qi161 : (1 < t158.length) = True := eq_true (by omega); (try rw [show ((1 : Int)).toNat = 1 from rfl] at hx161_0); replace p161 := eq_true p161; replace q161 := eq_true q161) | ((with_reducible refine gate_callee (f := 39) rfl ?_); refine goesL_ (some 17) rfl rfl Tryd.func39 (by kernel_rfl) rfl #[.string (rdOf ByteArray.empty t158 1)] rfl (by (try simp only [List.map_toArray, List.map_cons, List.map_nil]); first | done | rfl | (simp only [List.length_drop, List.length_take]; rfl)) ?_; (with_reducible refine (spec_ReadList.calls k (rdOf ByteArray.empty t158 1) t162 t163 _ A5.out).mono ?_); rintro e w10 ⟨v164, rfl, ho0, hb⟩; refine ⟨_, rfl, ?_⟩; have n0_ := mkA (Kd.R_below (by (with_reducible repeat (first | apply Kd.R_alloc | apply Kd.R_drewN | apply Kd.R_drew)); exact HO160.out) hb); have n1_ := mkA (Kd.R_lower ho0 (below_size (bs1_ HB.out GE157.out))); have n2_ := mkA (blk_below (g := gb157) (o := .cells #[.int .i64 0, .int .i64 0, .int .i64 0] 44 (0, 0)) (bl_ BK157.out) hb); have n3_ := mkA (below_step (bs1_ HB.out GE157.out) hb); clear HO160; clear BK157; clear HB; have HO160 := n0_; have HO165 := n1_; have BK157 := n2_; have HB := n3_; clear n0_ n1_ n2_ n3_; (try clear hb); (try clear hb2); (try clear hk); (try clear hi); (try clear ho0)))
 (try simp only [Act.put, sA, sB, sC])
 go_cut [20] (fun v20 wc => ∃ (kq : Nat) (x20_5 : Bool), v20 = .bool x20_5 ∧ Aside0 (spec_l21ReadStep.j0 kq t158 t162 t163 x20_5 = some (r1, r2, r3, r4)) ∧ Aside0 (kq ≤ k) ∧ Aside0 (Kd.R Kd.string 9 wc w.heap.size (fun _ => True) (.slice (some ad161) t158.length co9) t158) ∧ Aside0 (Kd.R (Kd.int .i64) 2 wc w.heap.size (fun _ => True) v164 t162) ∧ Aside0 (wc.heap[gb157]? = some (.cells #[.int .i64 0, .int .i64 0, .int .i64 0] 44 (0, 0))) ∧ Aside0 (Below w.heap.size w wc))
 case first =>
  have H := HC6.out
  clear HC6
  by_cases c11 : 0 < (t158.length : Int)
  rotate_left
  · rw [if_neg c11] at H
    exact absurd H (by simp)
  rw [if_pos c11] at H
  have c11b0 : decide (0 < (t158.length : Int)) = true := decide_eq_true c11
  have c11b1 : decide (0 < t158.length) = true := decide_eq_true (by omega)
  clear c11
  (first | rw [c11b0] | (simp only [i64_w, i32_w]; rw [c11b0]) | skip)
  by_cases c12 : (rdOf ByteArray.empty t158 0).toList = ([115, 97, 110, 100] : List UInt8)
  rotate_left
  · rw [if_neg c12] at H
    have c12b0 : ((rdOf ByteArray.empty t158 0).toList == ([115, 97, 110, 100] : List UInt8)) = false := beq_eq_false_iff_ne.mpr c12
    have c12b1 : ((rdOf ByteArray.empty t158 0).toList != ([115, 97, 110, 100] : List UInt8)) = true := bne_iff_ne.mpr c12
    have H' := mkA H
    clear H
    have p166 : 0 ≤ (0 : Int) := (by omega)
    have q166 : 0 < (t158.length : Int) := dt_
    obtain ⟨ad166, e166, hx166_0⟩ := Kd.at_string (Kd.R_reads' HO160.out).2.2 0 p166 q166
    obtain rfl : ad161 = ad166 := (by injection e166)
    have qi166 : (0 < t158.length) = True := eq_true (by omega)
    (try rw [show ((0 : Int)).toNat = 0 from rfl] at hx166_0)
    (try rw [Addr.add_zero'] at hx166_0)
    replace p166 := eq_true p166
    replace q166 := eq_true q166
    go_wp2
    go_meet
    case rel => exact ⟨_, (false), (by first | rfl | (simp; done) | (simp [*]; done) | (simp [i64_w, i32_w]; done)), H', ⟨by first | omega | exact Nat.le_refl _⟩, ⟨by (with_reducible repeat (first | apply Kd.R_alloc | apply Kd.R_drewN | apply Kd.R_drew)); exact HO160.out⟩, ⟨by (with_reducible repeat (first | apply Kd.R_alloc | apply Kd.R_drewN | apply Kd.R_drew)); exact HO165.out⟩, ⟨by (with_reducible repeat (first | refine blk_drewN ?_ _ | refine blk_drew ?_ | refine blk_alloc ?_ _)); exact BK157.out⟩, ⟨by repeat (first | (with_reducible first | exact HB.out | apply below_alloc | apply pw_below_drewN | apply below_drew1 | refine below_set ?_ GE157.out) | exact HB.out)⟩⟩
  rw [if_pos c12] at H
  have c12b0 : ((rdOf ByteArray.empty t158 0).toList == ([115, 97, 110, 100] : List UInt8)) = true := beq_iff_eq.mpr c12
  have c12b1 : ((rdOf ByteArray.empty t158 0).toList != ([115, 97, 110, 100] : List UInt8)) = false := bne_eq_false_iff_eq.mpr c12
  clear c12
  by_cases c13 : t163 = true
  rotate_left
  · replace c13 := Bool.eq_false_iff.mpr c13
    subst c13
    have H1 : (spec_l21ReadStep.j0 k t158 t162 false false) = some (r1, r2, r3, r4) := by rw [if_neg (show ¬ (false = true) by decide)] at H; exact H
    clear H
    have H := H1
    clear H1
    have H' := mkA H
    clear H
    have p166 : 0 ≤ (0 : Int) := (by omega)
    have q166 : 0 < (t158.length : Int) := dt_
    obtain ⟨ad166, e166, hx166_0⟩ := Kd.at_string (Kd.R_reads' HO160.out).2.2 0 p166 q166
    obtain rfl : ad161 = ad166 := (by injection e166)
    have qi166 : (0 < t158.length) = True := eq_true (by omega)
    (try rw [show ((0 : Int)).toNat = 0 from rfl] at hx166_0)
    (try rw [Addr.add_zero'] at hx166_0)
    replace p166 := eq_true p166
    replace q166 := eq_true q166
    go_wp2
    go_meet
    case rel => exact ⟨_, (false), (by first | rfl | (simp; done) | (simp [*]; done) | (simp [i64_w, i32_w]; done)), H', ⟨by first | omega | exact Nat.le_refl _⟩, ⟨by (with_reducible repeat (first | apply Kd.R_alloc | apply Kd.R_drewN | apply Kd.R_drew)); exact HO160.out⟩, ⟨by (with_reducible repeat (first | apply Kd.R_alloc | apply Kd.R_drewN | apply Kd.R_drew)); exact HO165.out⟩, ⟨by (with_reducible repeat (first | refine blk_drewN ?_ _ | refine blk_drew ?_ | refine blk_alloc ?_ _)); exact BK157.out⟩, ⟨by repeat (first | (with_reducible first | exact HB.out | apply below_alloc | apply pw_below_drewN | apply below_drew1 | refine below_set ?_ GE157.out) | exact HB.out)⟩⟩
  subst c13
  have H1 : (spec_l21ReadStep.j0 k t158 t162 true ((t162.length : Int) == 2)) = some (r1, r2, r3, r4) := by rw [if_pos rfl] at H; exact H
  clear H
  have H := H1
  clear H1
  have H' := mkA H
  clear H
  have p166 : 0 ≤ (0 : Int) := (by omega)
  have q166 : 0 < (t158.length : Int) := dt_
  obtain ⟨ad166, e166, hx166_0⟩ := Kd.at_string (Kd.R_reads' HO160.out).2.2 0 p166 q166
  obtain rfl : ad161 = ad166 := (by injection e166)
  have qi166 : (0 < t158.length) = True := eq_true (by omega)
  (try rw [show ((0 : Int)).toNat = 0 from rfl] at hx166_0)
  (try rw [Addr.add_zero'] at hx166_0)
  replace p166 := eq_true p166
  replace q166 := eq_true q166
  obtain ⟨Ao14, co14, eo14⟩ := Kd.R_slice HO165.out
  subst eo14
  go_wp2
  go_meet
  case rel => exact ⟨_, (((t162.length : Int) == 2)), (by first | rfl | (simp; done) | (simp [*]; done) | (simp [i64_w, i32_w]; done)), H', ⟨by first | omega | exact Nat.le_refl _⟩, ⟨by (with_reducible repeat (first | apply Kd.R_alloc | apply Kd.R_drewN | apply Kd.R_drew)); exact HO160.out⟩, ⟨by (with_reducible repeat (first | apply Kd.R_alloc | apply Kd.R_drewN | apply Kd.R_drew)); exact HO165.out⟩, ⟨by (with_reducible repeat (first | refine blk_drewN ?_ _ | refine blk_drew ?_ | refine blk_alloc ?_ _)); exact BK157.out⟩, ⟨by repeat (first | (with_reducible first | exact HB.out | apply below_alloc | apply pw_below_drewN | apply below_drew1 | refine below_set ?_ GE157.out) | exact HB.out)⟩⟩
 case rest =>
  clear HC6
  try clear c1
  try clear p1
  try clear q1
  try clear hx1
  try clear qi1
  try clear c2
  try clear p2
  try clear c3
  try clear c3b0
  try clear c3b1
  try clear c4
  try clear c4b0
  try clear c4b1
  try clear c11
  try clear c11b0
  try clear c11b1
  try clear c12
  try clear c12b0
  try clear c12b1
  try clear c13
  try clear hx161_0
  try clear hx166_0
  try clear p161
  try clear p166
  try clear q161
  try clear q166
  obtain ⟨kq, x20_5, rfl, HA, HJ5, HO_4, HO_5, BK157, HB⟩ := hcut
  cases kq with
  | zero => exact absurd HA.out (by simp [spec_l21ReadStep.j0])
  | succ kj5 =>
   have H := HA.out
   clear HA
   simp only [spec_l21ReadStep.j0] at H
   by_cases c15 : x20_5 = true
   · subst c15
     have H1 : (if 0 < (t162.length : Int) then (if 1 < (t162.length : Int) then (some (1, rd t162 0, rd t162 1, true)) else (none)) else (none)) = some (r1, r2, r3, r4) := by rw [if_pos rfl] at H; exact H
     clear H
     have H := H1
     clear H1
     by_cases c16 : 0 < (t162.length : Int)
     rotate_left
     · rw [if_neg c16] at H
       exact absurd H (by simp)
     rw [if_pos c16] at H
     have c16b0 : decide (0 < (t162.length : Int)) = true := decide_eq_true c16
     have c16b1 : decide (0 < t162.length) = true := decide_eq_true (by omega)
     clear c16
     by_cases c17 : 1 < (t162.length : Int)
     rotate_left
     · rw [if_neg c17] at H
       exact absurd H (by simp)
     rw [if_pos c17] at H
     have c17b0 : decide (1 < (t162.length : Int)) = true := decide_eq_true c17
     have c17b1 : decide (1 < t162.length) = true := decide_eq_true (by omega)
     clear c17
     simp only [Option.some.injEq, Prod.mk.injEq] at H
     obtain ⟨rfl, rfl, rfl, rfl⟩ := H
     try go_wp2
     have n0_ := mkA (Kd.R_drew HO_4.out)
     have n1_ := mkA (Kd.R_drew HO_5.out)
     have n2_ := mkA (blk_drew BK157.out)
     have n3_ := mkA (below_drew1 HB.out)
     clear HO_4
     clear HO_5
     clear BK157
     clear HB
     have HO_4 := n0_
     have HO_5 := n1_
     have BK157 := n2_
     have HB := n3_
     clear n0_ n1_ n2_ n3_
     obtain ⟨Ao19, co19, eo19⟩ := Kd.R_slice HO_5.out
     (first | subst eo19 | (injection eo19 with f1_ f2_ f3_; have f4_ := f1_.symm; have f5_ := f3_.symm; clear f1_ f2_ f3_; subst f4_; subst f5_))
     have p167 : 0 ≤ (0 : Int) := (by omega)
     have q167 : 0 < (t162.length : Int) := dt_
     obtain ⟨ad167, e167, hx167_0⟩ := Kd.at_int (Kd.R_reads' HO_5.out).2.2 0 p167 q167
     cases e167
     have qi167 : (0 < t162.length) = True := eq_true (by omega)
     (try rw [show ((0 : Int)).toNat = 0 from rfl] at hx167_0)
     (try rw [Addr.add_zero'] at hx167_0)
     replace p167 := eq_true p167
     replace q167 := eq_true q167
     have p168 : 0 ≤ (1 : Int) := (by omega)
     have q168 : 1 < (t162.length : Int) := dt_
     obtain ⟨ad168, e168, hx168_0⟩ := Kd.at_int (Kd.R_reads' HO_5.out).2.2 1 p168 q168
     obtain rfl : ad167 = ad168 := (by injection e168)
     (try simp only [show (1 : Int).toNat = 1 from rfl, Nat.reduceMul, Nat.reduceEqDiff, Go.Addr.add, ↓reduceIte] at hx168_0)
     have qi168 : (1 < t162.length) = True := eq_true (by omega)
     (try rw [show ((1 : Int)).toNat = 1 from rfl] at hx168_0)
     replace p168 := eq_true p168
     replace q168 := eq_true q168
     refine start_ (n := 9) (S := fun w' => w'.cell? ad167 = some (.int .i64 (rd t162 0)) ∧ w'.cell? ⟨ad167.block, ad167.off + 1, none⟩ = some (.int .i64 (rd t162 1))) (ds := []) spec_l21ReadStep.d0 (by kernel_rfl) rfl rfl ⟨hx167_0, hx168_0⟩ (fun hHeld => ?_); refine with_tabW spec_l21ReadStep.tab6 spec_l21ReadStep.bits6 (fun HT_ HW_ => ?_)
     generalize wc.drew = w18 at HO_4 HO_5 BK157 HB hx167_0 hx168_0 hHeld ⊢
     refine p1_ HT_.out 0 33 spec_l21ReadStep.d1 ?_
     refine p1_ HT_.out 1 34 spec_l21ReadStep.d2 ?_
     refine p1_ HT_.out 3 36 spec_l21ReadStep.d3 ?_
     refine p1_ HT_.out 4 37 spec_l21ReadStep.d4 ?_
     refine take_ (i := 2) (N := some 35) (v := ?_) (a' := ?_) spec_l21ReadStep.d5 rfl rfl (take_ofW HT_.out HW_.out (by kernel_rfl)) (fun _ _ _ h => h) (Or.inl ⟨by rfl, ?_⟩) hHeld ?_ ?_
     rotate_left
     · rintro w' ⟨s0, s1⟩
       go_simp
       with_reducible rfl
     rotate_left
     · simp only [Act.put, sA, sB, sC, i64_w, i32_w]
       rfl
     refine take_ (i := 5) (N := some 38) (v := ?_) (a' := ?_) spec_l21ReadStep.d6 rfl rfl (take_ofW HT_.out HW_.out (by kernel_rfl)) (fun _ _ _ h => h) (Or.inl ⟨by rfl, ?_⟩) hHeld ?_ ?_
     rotate_left
     · rintro w' ⟨s0, s1⟩
       go_simp
       with_reducible rfl
     rotate_left
     · simp only [Act.put, sA, sB, sC, i64_w, i32_w]
       rfl
     refine p1_ HT_.out 6 39 spec_l21ReadStep.d7 ?_
     refine one_ (i := 7) (N := none) spec_l21ReadStep.d8 rfl rfl (one_of HT_.out (by kernel_rfl)) (by decide) (fun K hK => ?_)
     have hs20 : w18.cell? ⟨gb157, 0, none⟩ = some (.int .i64 0) := (blk_cell BK157.out 0).trans rfl
     have hfs20 := blk_frozen BK157.out 0
     have hs21 : w18.cell? ⟨gb157, 1, none⟩ = some (.int .i64 0) := (blk_cell BK157.out 1).trans rfl
     have hfs21 := blk_frozen BK157.out 1
     have hs22 : w18.cell? ⟨gb157, 2, none⟩ = some (.int .i64 0) := (blk_cell BK157.out 2).trans rfl
     have hfs22 := blk_frozen BK157.out 2
     refine skip_ (w1 := ?_) (by rfl) rfl ?_ ?_
     rotate_left
     · go_simp
       rfl
     refine hK.out _ _ ⟨((cell_far (p := ⟨gb157, _, none⟩) (by first | exact Kd.own_blk (Kd.R_ne HO_5.out BK157.out (by decide)) | (rw [add_block]; exact Kd.own_blk (Kd.R_ne HO_5.out BK157.out (by decide))) | (show (Addr.add _ _).block ≠ _; rw [add_block]; exact Kd.own_blk (Kd.R_ne HO_5.out BK157.out (by decide))) | (dsimp only; exact Kd.own_blk (Kd.R_ne HO_5.out BK157.out (by decide)))) _).trans (((cell_far (p := ⟨gb157, _, none⟩) (by first | exact Kd.own_blk (Kd.R_ne HO_5.out BK157.out (by decide)) | (rw [add_block]; exact Kd.own_blk (Kd.R_ne HO_5.out BK157.out (by decide))) | (show (Addr.add _ _).block ≠ _; rw [add_block]; exact Kd.own_blk (Kd.R_ne HO_5.out BK157.out (by decide))) | (dsimp only; exact Kd.own_blk (Kd.R_ne HO_5.out BK157.out (by decide)))) _).trans (((cell_far (p := ⟨gb157, _, none⟩) (by first | exact Kd.own_blk (Kd.R_ne HO_5.out BK157.out (by decide)) | (rw [add_block]; exact Kd.own_blk (Kd.R_ne HO_5.out BK157.out (by decide))) | (show (Addr.add _ _).block ≠ _; rw [add_block]; exact Kd.own_blk (Kd.R_ne HO_5.out BK157.out (by decide))) | (dsimp only; exact Kd.own_blk (Kd.R_ne HO_5.out BK157.out (by decide)))) _).trans (hHeld.1)))))), ((cell_far (p := ⟨gb157, _, none⟩) (by first | exact Kd.own_blk (Kd.R_ne HO_5.out BK157.out (by decide)) | (rw [add_block]; exact Kd.own_blk (Kd.R_ne HO_5.out BK157.out (by decide))) | (show (Addr.add _ _).block ≠ _; rw [add_block]; exact Kd.own_blk (Kd.R_ne HO_5.out BK157.out (by decide))) | (dsimp only; exact Kd.own_blk (Kd.R_ne HO_5.out BK157.out (by decide)))) _).trans (((cell_far (p := ⟨gb157, _, none⟩) (by first | exact Kd.own_blk (Kd.R_ne HO_5.out BK157.out (by decide)) | (rw [add_block]; exact Kd.own_blk (Kd.R_ne HO_5.out BK157.out (by decide))) | (show (Addr.add _ _).block ≠ _; rw [add_block]; exact Kd.own_blk (Kd.R_ne HO_5.out BK157.out (by decide))) | (dsimp only; exact Kd.own_blk (Kd.R_ne HO_5.out BK157.out (by decide)))) _).trans (((cell_far (p := ⟨gb157, _, none⟩) (by first | exact Kd.own_blk (Kd.R_ne HO_5.out BK157.out (by decide)) | (rw [add_block]; exact Kd.own_blk (Kd.R_ne HO_5.out BK157.out (by decide))) | (show (Addr.add _ _).block ≠ _; rw [add_block]; exact Kd.own_blk (Kd.R_ne HO_5.out BK157.out (by decide))) | (dsimp only; exact Kd.own_blk (Kd.R_ne HO_5.out BK157.out (by decide)))) _).trans (hHeld.2))))))⟩ (fun hHeld => ?_)
     clear hK K
     refine p1_ HT_.out 8 3 spec_l21ReadStep.d9 ?_
     refine done_ (done_of HT_.out (by kernel_rfl)) ?_
     try go_wp2
     refine bodyPost_ret (results_ct rfl _ _ gb157 44 #[.int .i64 1, .int .i64 (rd t162 0), .int .i64 (rd t162 1)] (0, 0) _ rfl (by (with_reducible repeat (first | refine blk_drewN ?_ _ | refine blk_drew ?_ | refine blk_alloc ?_ _)); refine blk_put (cs := #[.int .i64 1, .int .i64 (rd t162 0), .int .i64 0]) ?_ 2 _ rfl; (with_reducible repeat (first | refine blk_drewN ?_ _ | refine blk_drew ?_ | refine blk_alloc ?_ _)); refine blk_put (cs := #[.int .i64 1, .int .i64 0, .int .i64 0]) ?_ 1 _ rfl; (with_reducible repeat (first | refine blk_drewN ?_ _ | refine blk_drew ?_ | refine blk_alloc ?_ _)); refine blk_put (cs := #[.int .i64 0, .int .i64 0, .int .i64 0]) ?_ 0 _ rfl; (with_reducible repeat (first | refine blk_drewN ?_ _ | refine blk_drew ?_ | refine blk_alloc ?_ _)); exact BK157.out) Tryd.underlying44 rfl (by kernel_rfl)) rfl ?_
     exact ⟨by first | rfl | (simp [errW_none, errW_some] <;> rfl) | (simp [*, errW_none, errW_some] <;> rfl), by repeat (first | (with_reducible first | exact HB.out | apply below_alloc | apply pw_below_drewN | apply below_drew1 | refine below_set ?_ GE157.out) | exact HB.out)⟩
   · replace c15 := Bool.eq_false_iff.mpr c15
     subst c15
     have H1 : (if 0 < (t158.length : Int) then (if (rdOf ByteArray.empty t158 0).toList = ([100, 121, 101] : List UInt8) then (if t163 = true then (spec_l21ReadStep.j1 kj5 t158 t162 t163 ((t162.length : Int) == 2)) else (spec_l21ReadStep.j1 kj5 t158 t162 t163 false)) else (spec_l21ReadStep.j1 kj5 t158 t162 t163 false)) else (none)) = some (r1, r2, r3, r4) := by rw [if_neg (show ¬ (false = true) by decide)] at H; exact H
     clear H
     have H := H1
     clear H1
     have HC23 := mkA H
     clear H
     go_upto_region 7 with (fail)
     go_cut [40] (fun v40 wc => ∃ (kq : Nat) (x40_22 : Bool), v40 = .bool x40_22 ∧ Aside0 (spec_l21ReadStep.j1 kq t158 t162 t163 x40_22 = some (r1, r2, r3, r4)) ∧ Aside0 (kq ≤ kj5) ∧ Aside0 (Kd.R Kd.string 9 wc w.heap.size (fun _ => True) (.slice (some ad161) t158.length co9) t158) ∧ Aside0 (Kd.R (Kd.int .i64) 2 wc w.heap.size (fun _ => True) v164 t162) ∧ Aside0 (wc.heap[gb157]? = some (.cells #[.int .i64 0, .int .i64 0, .int .i64 0] 44 (0, 0))) ∧ Aside0 (Below w.heap.size w wc))
     case first =>
      have H := HC23.out
      clear HC23
      by_cases c24 : 0 < (t158.length : Int)
      rotate_left
      · rw [if_neg c24] at H
        exact absurd H (by simp)
      rw [if_pos c24] at H
      have c24b0 : decide (0 < (t158.length : Int)) = true := decide_eq_true c24
      have c24b1 : decide (0 < t158.length) = true := decide_eq_true (by omega)
      clear c24
      (first | rw [c24b0] | (simp only [i64_w, i32_w]; rw [c24b0]) | skip)
      by_cases c25 : (rdOf ByteArray.empty t158 0).toList = ([100, 121, 101] : List UInt8)
      rotate_left
      · rw [if_neg c25] at H
        have c25b0 : ((rdOf ByteArray.empty t158 0).toList == ([100, 121, 101] : List UInt8)) = false := beq_eq_false_iff_ne.mpr c25
        have c25b1 : ((rdOf ByteArray.empty t158 0).toList != ([100, 121, 101] : List UInt8)) = true := bne_iff_ne.mpr c25
        have H' := mkA H
        clear H
        have p169 : 0 ≤ (0 : Int) := (by omega)
        have q169 : 0 < (t158.length : Int) := dt_
        obtain ⟨ad169, e169, hx169_0⟩ := Kd.at_string (Kd.R_reads' HO_4.out).2.2 0 p169 q169
        obtain rfl : ad161 = ad169 := (by injection e169)
        have qi169 : (0 < t158.length) = True := eq_true (by omega)
        (try rw [show ((0 : Int)).toNat = 0 from rfl] at hx169_0)
        (try rw [Addr.add_zero'] at hx169_0)
        replace p169 := eq_true p169
        replace q169 := eq_true q169
        go_wp2
        go_meet
        case rel => exact ⟨_, (false), (by first | rfl | (simp; done) | (simp [*]; done) | (simp [i64_w, i32_w]; done)), H', ⟨by have := HJ5.out; first | omega | exact Nat.le_refl _⟩, ⟨by (with_reducible repeat (first | apply Kd.R_alloc | apply Kd.R_drewN | apply Kd.R_drew)); exact HO_4.out⟩, ⟨by (with_reducible repeat (first | apply Kd.R_alloc | apply Kd.R_drewN | apply Kd.R_drew)); exact HO_5.out⟩, ⟨by (with_reducible repeat (first | refine blk_drewN ?_ _ | refine blk_drew ?_ | refine blk_alloc ?_ _)); exact BK157.out⟩, ⟨by repeat (first | (with_reducible first | exact HB.out | apply below_alloc | apply pw_below_drewN | apply below_drew1 | refine below_set ?_ GE157.out) | exact HB.out)⟩⟩
      rw [if_pos c25] at H
      have c25b0 : ((rdOf ByteArray.empty t158 0).toList == ([100, 121, 101] : List UInt8)) = true := beq_iff_eq.mpr c25
      have c25b1 : ((rdOf ByteArray.empty t158 0).toList != ([100, 121, 101] : List UInt8)) = false := bne_eq_false_iff_eq.mpr c25
      clear c25
      by_cases c26 : t163 = true
      rotate_left
      · replace c26 := Bool.eq_false_iff.mpr c26
        subst c26
        have H1 : (spec_l21ReadStep.j1 kj5 t158 t162 false false) = some (r1, r2, r3, r4) := by rw [if_neg (show ¬ (false = true) by decide)] at H; exact H
        clear H
        have H := H1
        clear H1
        have H' := mkA H
        clear H
        have p169 : 0 ≤ (0 : Int) := (by omega)
        have q169 : 0 < (t158.length : Int) := dt_
        obtain ⟨ad169, e169, hx169_0⟩ := Kd.at_string (Kd.R_reads' HO_4.out).2.2 0 p169 q169
        obtain rfl : ad161 = ad169 := (by injection e169)
        have qi169 : (0 < t158.length) = True := eq_true (by omega)
        (try rw [show ((0 : Int)).toNat = 0 from rfl] at hx169_0)
        (try rw [Addr.add_zero'] at hx169_0)
        replace p169 := eq_true p169
        replace q169 := eq_true q169
        go_wp2
        go_meet
        case rel => exact ⟨_, (false), (by first | rfl | (simp; done) | (simp [*]; done) | (simp [i64_w, i32_w]; done)), H', ⟨by have := HJ5.out; first | omega | exact Nat.le_refl _⟩, ⟨by (with_reducible repeat (first | apply Kd.R_alloc | apply Kd.R_drewN | apply Kd.R_drew)); exact HO_4.out⟩, ⟨by (with_reducible repeat (first | apply Kd.R_alloc | apply Kd.R_drewN | apply Kd.R_drew)); exact HO_5.out⟩, ⟨by (with_reducible repeat (first | refine blk_drewN ?_ _ | refine blk_drew ?_ | refine blk_alloc ?_ _)); exact BK157.out⟩, ⟨by repeat (first | (with_reducible first | exact HB.out | apply below_alloc | apply pw_below_drewN | apply below_drew1 | refine below_set ?_ GE157.out) | exact HB.out)⟩⟩
      subst c26
      have H1 : (spec_l21ReadStep.j1 kj5 t158 t162 true ((t162.length : Int) == 2)) = some (r1, r2, r3, r4) := by rw [if_pos rfl] at H; exact H
      clear H
      have H := H1
      clear H1
      have H' := mkA H
      clear H
      have p169 : 0 ≤ (0 : Int) := (by omega)
      have q169 : 0 < (t158.length : Int) := dt_
      obtain ⟨ad169, e169, hx169_0⟩ := Kd.at_string (Kd.R_reads' HO_4.out).2.2 0 p169 q169
      obtain rfl : ad161 = ad169 := (by injection e169)
      have qi169 : (0 < t158.length) = True := eq_true (by omega)
      (try rw [show ((0 : Int)).toNat = 0 from rfl] at hx169_0)
      (try rw [Addr.add_zero'] at hx169_0)
      replace p169 := eq_true p169
      replace q169 := eq_true q169
      obtain ⟨Ao27, co27, eo27⟩ := Kd.R_slice HO_5.out
      subst eo27
      go_wp2
      go_meet
      case rel => exact ⟨_, (((t162.length : Int) == 2)), (by first | rfl | (simp; done) | (simp [*]; done) | (simp [i64_w, i32_w]; done)), H', ⟨by have := HJ5.out; first | omega | exact Nat.le_refl _⟩, ⟨by (with_reducible repeat (first | apply Kd.R_alloc | apply Kd.R_drewN | apply Kd.R_drew)); exact HO_4.out⟩, ⟨by (with_reducible repeat (first | apply Kd.R_alloc | apply Kd.R_drewN | apply Kd.R_drew)); exact HO_5.out⟩, ⟨by (with_reducible repeat (first | refine blk_drewN ?_ _ | refine blk_drew ?_ | refine blk_alloc ?_ _)); exact BK157.out⟩, ⟨by repeat (first | (with_reducible first | exact HB.out | apply below_alloc | apply pw_below_drewN | apply below_drew1 | refine below_set ?_ GE157.out) | exact HB.out)⟩⟩
     case rest =>
      clear HC23
      try clear c1
      try clear p1
      try clear q1
      try clear hx1
      try clear qi1
      try clear c2
      try clear p2
      try clear c3
      try clear c3b0
      try clear c3b1
      try clear c4
      try clear c4b0
      try clear c4b1
      try clear c11
      try clear c11b0
      try clear c11b1
      try clear c12
      try clear c12b0
      try clear c12b1
      try clear c13
      try clear c15
      try clear c16
      try clear c16b0
      try clear c16b1
      try clear p16
      try clear q16
      try clear hx16
      try clear qi16
      try clear c17
      try clear c17b0
      try clear c17b1
      try clear c22
      try clear c23
      try clear c24
      try clear c24b0
      try clear c24b1
      try clear c25
      try clear c25b0
      try clear c25b1
      try clear c26
      try clear hx161_0
      try clear hx166_0
      try clear hx167_0
      try clear hx168_0
      try clear hx169_0
      try clear p1
      try clear p161
      try clear p166
      try clear p167
      try clear p168
      try clear p169
      try clear p2
      try clear q1
      try clear q161
      try clear q166
      try clear q167
      try clear q168
      try clear q169
      obtain ⟨kq, x40_22, rfl, HA, HJ22, HO_4, HO_5, BK157, HB⟩ := hcut
      cases kq with
      | zero => exact absurd HA.out (by simp [spec_l21ReadStep.j1])
      | succ kj22 =>
       have H := HA.out
       clear HA
       simp only [spec_l21ReadStep.j1] at H
       by_cases c28 : x40_22 = true
       · subst c28
         have H1 : (if 0 < (t162.length : Int) then (if 1 < (t162.length : Int) then (some (2, rd t162 0, rd t162 1, true)) else (none)) else (none)) = some (r1, r2, r3, r4) := by rw [if_pos rfl] at H; exact H
         clear H
         have H := H1
         clear H1
         by_cases c29 : 0 < (t162.length : Int)
         rotate_left
         · rw [if_neg c29] at H
           exact absurd H (by simp)
         rw [if_pos c29] at H
         have c29b0 : decide (0 < (t162.length : Int)) = true := decide_eq_true c29
         have c29b1 : decide (0 < t162.length) = true := decide_eq_true (by omega)
         clear c29
         by_cases c30 : 1 < (t162.length : Int)
         rotate_left
         · rw [if_neg c30] at H
           exact absurd H (by simp)
         rw [if_pos c30] at H
         have c30b0 : decide (1 < (t162.length : Int)) = true := decide_eq_true c30
         have c30b1 : decide (1 < t162.length) = true := decide_eq_true (by omega)
         clear c30
         simp only [Option.some.injEq, Prod.mk.injEq] at H
         obtain ⟨rfl, rfl, rfl, rfl⟩ := H
         try go_wp2
         have n0_ := mkA (Kd.R_drew HO_4.out)
         have n1_ := mkA (Kd.R_drew HO_5.out)
         have n2_ := mkA (blk_drew BK157.out)
         have n3_ := mkA (below_drew1 HB.out)
         clear HO_4
         clear HO_5
         clear BK157
         clear HB
         have HO_4 := n0_
         have HO_5 := n1_
         have BK157 := n2_
         have HB := n3_
         clear n0_ n1_ n2_ n3_
         obtain ⟨Ao32, co32, eo32⟩ := Kd.R_slice HO_5.out
         (first | subst eo32 | (injection eo32 with f1_ f2_ f3_; have f4_ := f1_.symm; have f5_ := f3_.symm; clear f1_ f2_ f3_; subst f4_; subst f5_))
         have p170 : 0 ≤ (0 : Int) := (by omega)
         have q170 : 0 < (t162.length : Int) := dt_
         obtain ⟨ad170, e170, hx170_0⟩ := Kd.at_int (Kd.R_reads' HO_5.out).2.2 0 p170 q170
         cases e170
         have qi170 : (0 < t162.length) = True := eq_true (by omega)
         (try rw [show ((0 : Int)).toNat = 0 from rfl] at hx170_0)
         (try rw [Addr.add_zero'] at hx170_0)
         replace p170 := eq_true p170
         replace q170 := eq_true q170
         have p171 : 0 ≤ (1 : Int) := (by omega)
         have q171 : 1 < (t162.length : Int) := dt_
         obtain ⟨ad171, e171, hx171_0⟩ := Kd.at_int (Kd.R_reads' HO_5.out).2.2 1 p171 q171
         obtain rfl : ad170 = ad171 := (by injection e171)
         (try simp only [show (1 : Int).toNat = 1 from rfl, Nat.reduceMul, Nat.reduceEqDiff, Go.Addr.add, ↓reduceIte] at hx171_0)
         have qi171 : (1 < t162.length) = True := eq_true (by omega)
         (try rw [show ((1 : Int)).toNat = 1 from rfl] at hx171_0)
         replace p171 := eq_true p171
         replace q171 := eq_true q171
         refine start_ (n := 9) (S := fun w' => w'.cell? ad170 = some (.int .i64 (rd t162 0)) ∧ w'.cell? ⟨ad170.block, ad170.off + 1, none⟩ = some (.int .i64 (rd t162 1))) (ds := []) spec_l21ReadStep.d0 (by kernel_rfl) rfl rfl ⟨hx170_0, hx171_0⟩ (fun hHeld => ?_); refine with_tabW spec_l21ReadStep.tab8 spec_l21ReadStep.bits8 (fun HT_ HW_ => ?_)
         generalize wc.drew = w31 at HO_4 HO_5 BK157 HB hx170_0 hx171_0 hHeld ⊢
         refine p1_ HT_.out 0 53 spec_l21ReadStep.d1 ?_
         refine p1_ HT_.out 1 54 spec_l21ReadStep.d2 ?_
         refine p1_ HT_.out 3 56 spec_l21ReadStep.d3 ?_
         refine p1_ HT_.out 4 57 spec_l21ReadStep.d4 ?_
         refine take_ (i := 2) (N := some 55) (v := ?_) (a' := ?_) spec_l21ReadStep.d5 rfl rfl (take_ofW HT_.out HW_.out (by kernel_rfl)) (fun _ _ _ h => h) (Or.inl ⟨by rfl, ?_⟩) hHeld ?_ ?_
         rotate_left
         · rintro w' ⟨s0, s1⟩
           go_simp
           with_reducible rfl
         rotate_left
         · simp only [Act.put, sA, sB, sC, i64_w, i32_w]
           rfl
         refine take_ (i := 5) (N := some 58) (v := ?_) (a' := ?_) spec_l21ReadStep.d6 rfl rfl (take_ofW HT_.out HW_.out (by kernel_rfl)) (fun _ _ _ h => h) (Or.inl ⟨by rfl, ?_⟩) hHeld ?_ ?_
         rotate_left
         · rintro w' ⟨s0, s1⟩
           go_simp
           with_reducible rfl
         rotate_left
         · simp only [Act.put, sA, sB, sC, i64_w, i32_w]
           rfl
         refine p1_ HT_.out 6 59 spec_l21ReadStep.d7 ?_
         refine one_ (i := 7) (N := none) spec_l21ReadStep.d8 rfl rfl (one_of HT_.out (by kernel_rfl)) (by decide) (fun K hK => ?_)
         have hs33 : w31.cell? ⟨gb157, 0, none⟩ = some (.int .i64 0) := (blk_cell BK157.out 0).trans rfl
         have hfs33 := blk_frozen BK157.out 0
         have hs34 : w31.cell? ⟨gb157, 1, none⟩ = some (.int .i64 0) := (blk_cell BK157.out 1).trans rfl
         have hfs34 := blk_frozen BK157.out 1
         have hs35 : w31.cell? ⟨gb157, 2, none⟩ = some (.int .i64 0) := (blk_cell BK157.out 2).trans rfl
         have hfs35 := blk_frozen BK157.out 2
         refine skip_ (w1 := ?_) (by rfl) rfl ?_ ?_
         rotate_left
         · go_simp
           rfl
         refine hK.out _ _ ⟨((cell_far (p := ⟨gb157, _, none⟩) (by first | exact Kd.own_blk (Kd.R_ne HO_5.out BK157.out (by decide)) | (rw [add_block]; exact Kd.own_blk (Kd.R_ne HO_5.out BK157.out (by decide))) | (show (Addr.add _ _).block ≠ _; rw [add_block]; exact Kd.own_blk (Kd.R_ne HO_5.out BK157.out (by decide))) | (dsimp only; exact Kd.own_blk (Kd.R_ne HO_5.out BK157.out (by decide)))) _).trans (((cell_far (p := ⟨gb157, _, none⟩) (by first | exact Kd.own_blk (Kd.R_ne HO_5.out BK157.out (by decide)) | (rw [add_block]; exact Kd.own_blk (Kd.R_ne HO_5.out BK157.out (by decide))) | (show (Addr.add _ _).block ≠ _; rw [add_block]; exact Kd.own_blk (Kd.R_ne HO_5.out BK157.out (by decide))) | (dsimp only; exact Kd.own_blk (Kd.R_ne HO_5.out BK157.out (by decide)))) _).trans (((cell_far (p := ⟨gb157, _, none⟩) (by first | exact Kd.own_blk (Kd.R_ne HO_5.out BK157.out (by decide)) | (rw [add_block]; exact Kd.own_blk (Kd.R_ne HO_5.out BK157.out (by decide))) | (show (Addr.add _ _).block ≠ _; rw [add_block]; exact Kd.own_blk (Kd.R_ne HO_5.out BK157.out (by decide))) | (dsimp only; exact Kd.own_blk (Kd.R_ne HO_5.out BK157.out (by decide)))) _).trans (hHeld.1)))))), ((cell_far (p := ⟨gb157, _, none⟩) (by first | exact Kd.own_blk (Kd.R_ne HO_5.out BK157.out (by decide)) | (rw [add_block]; exact Kd.own_blk (Kd.R_ne HO_5.out BK157.out (by decide))) | (show (Addr.add _ _).block ≠ _; rw [add_block]; exact Kd.own_blk (Kd.R_ne HO_5.out BK157.out (by decide))) | (dsimp only; exact Kd.own_blk (Kd.R_ne HO_5.out BK157.out (by decide)))) _).trans (((cell_far (p := ⟨gb157, _, none⟩) (by first | exact Kd.own_blk (Kd.R_ne HO_5.out BK157.out (by decide)) | (rw [add_block]; exact Kd.own_blk (Kd.R_ne HO_5.out BK157.out (by decide))) | (show (Addr.add _ _).block ≠ _; rw [add_block]; exact Kd.own_blk (Kd.R_ne HO_5.out BK157.out (by decide))) | (dsimp only; exact Kd.own_blk (Kd.R_ne HO_5.out BK157.out (by decide)))) _).trans (((cell_far (p := ⟨gb157, _, none⟩) (by first | exact Kd.own_blk (Kd.R_ne HO_5.out BK157.out (by decide)) | (rw [add_block]; exact Kd.own_blk (Kd.R_ne HO_5.out BK157.out (by decide))) | (show (Addr.add _ _).block ≠ _; rw [add_block]; exact Kd.own_blk (Kd.R_ne HO_5.out BK157.out (by decide))) | (dsimp only; exact Kd.own_blk (Kd.R_ne HO_5.out BK157.out (by decide)))) _).trans (hHeld.2))))))⟩ (fun hHeld => ?_)
         clear hK K
         refine p1_ HT_.out 8 3 spec_l21ReadStep.d9 ?_
         refine done_ (done_of HT_.out (by kernel_rfl)) ?_
         try go_wp2
         refine bodyPost_ret (results_ct rfl _ _ gb157 44 #[.int .i64 2, .int .i64 (rd t162 0), .int .i64 (rd t162 1)] (0, 0) _ rfl (by (with_reducible repeat (first | refine blk_drewN ?_ _ | refine blk_drew ?_ | refine blk_alloc ?_ _)); refine blk_put (cs := #[.int .i64 2, .int .i64 (rd t162 0), .int .i64 0]) ?_ 2 _ rfl; (with_reducible repeat (first | refine blk_drewN ?_ _ | refine blk_drew ?_ | refine blk_alloc ?_ _)); refine blk_put (cs := #[.int .i64 2, .int .i64 0, .int .i64 0]) ?_ 1 _ rfl; (with_reducible repeat (first | refine blk_drewN ?_ _ | refine blk_drew ?_ | refine blk_alloc ?_ _)); refine blk_put (cs := #[.int .i64 0, .int .i64 0, .int .i64 0]) ?_ 0 _ rfl; (with_reducible repeat (first | refine blk_drewN ?_ _ | refine blk_drew ?_ | refine blk_alloc ?_ _)); exact BK157.out) Tryd.underlying44 rfl (by kernel_rfl)) rfl ?_
         exact ⟨by first | rfl | (simp [errW_none, errW_some] <;> rfl) | (simp [*, errW_none, errW_some] <;> rfl), by repeat (first | (with_reducible first | exact HB.out | apply below_alloc | apply pw_below_drewN | apply below_drew1 | refine below_set ?_ GE157.out) | exact HB.out)⟩
       · replace c28 := Bool.eq_false_iff.mpr c28
         subst c28
         have H1 : (if 0 < (t158.length : Int) then (if (rdOf ByteArray.empty t158 0).toList = ([98, 108, 101, 97, 99, 104] : List UInt8) then (if t163 = true then (if (t162.length : Int) = 1 then (if 0 < (t162.length : Int) then (some (3, rd t162 0, 0, true)) else (none)) else (some (0, 0, 0, false))) else (some (0, 0, 0, false))) else (some (0, 0, 0, false))) else (none)) = some (r1, r2, r3, r4) := by rw [if_neg (show ¬ (false = true) by decide)] at H; exact H
         clear H
         have H := H1
         clear H1
         by_cases c36 : 0 < (t158.length : Int)
         rotate_left
         · rw [if_neg c36] at H
           exact absurd H (by simp)
         rw [if_pos c36] at H
         have c36b0 : decide (0 < (t158.length : Int)) = true := decide_eq_true c36
         have c36b1 : decide (0 < t158.length) = true := decide_eq_true (by omega)
         clear c36
         by_cases c37 : (rdOf ByteArray.empty t158 0).toList = ([98, 108, 101, 97, 99, 104] : List UInt8)
         rotate_left
         · rw [if_neg c37] at H
           have c37b0 : ((rdOf ByteArray.empty t158 0).toList == ([98, 108, 101, 97, 99, 104] : List UInt8)) = false := beq_eq_false_iff_ne.mpr c37
           have c37b1 : ((rdOf ByteArray.empty t158 0).toList != ([98, 108, 101, 97, 99, 104] : List UInt8)) = true := bne_iff_ne.mpr c37
           simp only [Option.some.injEq, Prod.mk.injEq] at H
           obtain ⟨rfl, rfl, rfl, rfl⟩ := H
           have p172 : 0 ≤ (0 : Int) := (by omega)
           have q172 : 0 < (t158.length : Int) := dt_
           obtain ⟨ad172, e172, hx172_0⟩ := Kd.at_string (Kd.R_reads' HO_4.out).2.2 0 p172 q172
           obtain rfl : ad161 = ad172 := (by injection e172)
           have qi172 : (0 < t158.length) = True := eq_true (by omega)
           (try rw [show ((0 : Int)).toNat = 0 from rfl] at hx172_0)
           (try rw [Addr.add_zero'] at hx172_0)
           replace p172 := eq_true p172
           replace q172 := eq_true q172
           have hcz46_0 : wc.cell? ⟨gb157, 0, none⟩ = some (.int .i64 0) := (blk_cell BK157.out 0).trans rfl
           have hcz46_1 : wc.cell? ⟨gb157, 1, none⟩ = some (.int .i64 0) := (blk_cell BK157.out 1).trans rfl
           have hcz46_2 : wc.cell? ⟨gb157, 2, none⟩ = some (.int .i64 0) := (blk_cell BK157.out 2).trans rfl
           have hfz46_0 := blk_frozen BK157.out 0
           have hfz46_1 := blk_frozen BK157.out 1
           have hfz46_2 := blk_frozen BK157.out 2
           go_wp2
           refine bodyPost_ret (results_ct rfl _ _ gb157 44 #[.int .i64 0, .int .i64 0, .int .i64 0] (0, 0) _ rfl (by (with_reducible repeat (first | refine blk_drewN ?_ _ | refine blk_drew ?_ | refine blk_alloc ?_ _)); refine blk_put (cs := #[.int .i64 0, .int .i64 0, .int .i64 0]) ?_ 2 _ rfl; (with_reducible repeat (first | refine blk_drewN ?_ _ | refine blk_drew ?_ | refine blk_alloc ?_ _)); refine blk_put (cs := #[.int .i64 0, .int .i64 0, .int .i64 0]) ?_ 1 _ rfl; (with_reducible repeat (first | refine blk_drewN ?_ _ | refine blk_drew ?_ | refine blk_alloc ?_ _)); refine blk_put (cs := #[.int .i64 0, .int .i64 0, .int .i64 0]) ?_ 0 _ rfl; (with_reducible repeat (first | refine blk_drewN ?_ _ | refine blk_drew ?_ | refine blk_alloc ?_ _)); exact BK157.out) Tryd.underlying44 rfl (by kernel_rfl)) rfl ?_
           exact ⟨by first | rfl | (simp [errW_none, errW_some] <;> rfl) | (simp [*, errW_none, errW_some] <;> rfl), by repeat (first | (with_reducible first | exact HB.out | apply below_alloc | apply pw_below_drewN | apply below_drew1 | refine below_set ?_ GE157.out) | exact HB.out)⟩
         rw [if_pos c37] at H
         have c37b0 : ((rdOf ByteArray.empty t158 0).toList == ([98, 108, 101, 97, 99, 104] : List UInt8)) = true := beq_iff_eq.mpr c37
         have c37b1 : ((rdOf ByteArray.empty t158 0).toList != ([98, 108, 101, 97, 99, 104] : List UInt8)) = false := bne_eq_false_iff_eq.mpr c37
         clear c37
         by_cases c38 : t163 = true
         rotate_left
         · replace c38 := Bool.eq_false_iff.mpr c38
           subst c38
           have H1 : (some (0, 0, 0, false)) = some (r1, r2, r3, r4) := by rw [if_neg (show ¬ (false = true) by decide)] at H; exact H
           clear H
           have H := H1
           clear H1
           simp only [Option.some.injEq, Prod.mk.injEq] at H
           obtain ⟨rfl, rfl, rfl, rfl⟩ := H
           have p172 : 0 ≤ (0 : Int) := (by omega)
           have q172 : 0 < (t158.length : Int) := dt_
           obtain ⟨ad172, e172, hx172_0⟩ := Kd.at_string (Kd.R_reads' HO_4.out).2.2 0 p172 q172
           obtain rfl : ad161 = ad172 := (by injection e172)
           have qi172 : (0 < t158.length) = True := eq_true (by omega)
           (try rw [show ((0 : Int)).toNat = 0 from rfl] at hx172_0)
           (try rw [Addr.add_zero'] at hx172_0)
           replace p172 := eq_true p172
           replace q172 := eq_true q172
           have hcz45_0 : wc.cell? ⟨gb157, 0, none⟩ = some (.int .i64 0) := (blk_cell BK157.out 0).trans rfl
           have hcz45_1 : wc.cell? ⟨gb157, 1, none⟩ = some (.int .i64 0) := (blk_cell BK157.out 1).trans rfl
           have hcz45_2 : wc.cell? ⟨gb157, 2, none⟩ = some (.int .i64 0) := (blk_cell BK157.out 2).trans rfl
           have hfz45_0 := blk_frozen BK157.out 0
           have hfz45_1 := blk_frozen BK157.out 1
           have hfz45_2 := blk_frozen BK157.out 2
           go_wp2
           refine bodyPost_ret (results_ct rfl _ _ gb157 44 #[.int .i64 0, .int .i64 0, .int .i64 0] (0, 0) _ rfl (by (with_reducible repeat (first | refine blk_drewN ?_ _ | refine blk_drew ?_ | refine blk_alloc ?_ _)); refine blk_put (cs := #[.int .i64 0, .int .i64 0, .int .i64 0]) ?_ 2 _ rfl; (with_reducible repeat (first | refine blk_drewN ?_ _ | refine blk_drew ?_ | refine blk_alloc ?_ _)); refine blk_put (cs := #[.int .i64 0, .int .i64 0, .int .i64 0]) ?_ 1 _ rfl; (with_reducible repeat (first | refine blk_drewN ?_ _ | refine blk_drew ?_ | refine blk_alloc ?_ _)); refine blk_put (cs := #[.int .i64 0, .int .i64 0, .int .i64 0]) ?_ 0 _ rfl; (with_reducible repeat (first | refine blk_drewN ?_ _ | refine blk_drew ?_ | refine blk_alloc ?_ _)); exact BK157.out) Tryd.underlying44 rfl (by kernel_rfl)) rfl ?_
           exact ⟨by first | rfl | (simp [errW_none, errW_some] <;> rfl) | (simp [*, errW_none, errW_some] <;> rfl), by repeat (first | (with_reducible first | exact HB.out | apply below_alloc | apply pw_below_drewN | apply below_drew1 | refine below_set ?_ GE157.out) | exact HB.out)⟩
         subst c38
         have H1 : (if (t162.length : Int) = 1 then (if 0 < (t162.length : Int) then (some (3, rd t162 0, 0, true)) else (none)) else (some (0, 0, 0, false))) = some (r1, r2, r3, r4) := by rw [if_pos rfl] at H; exact H
         clear H
         have H := H1
         clear H1
         by_cases c39 : (t162.length : Int) = 1
         rotate_left
         · rw [if_neg c39] at H
           have c39b0 : ((t162.length : Int) == 1) = false := beq_eq_false_iff_ne.mpr c39
           have c39b1 : ((t162.length : Int) != 1) = true := bne_iff_ne.mpr c39
           simp only [Option.some.injEq, Prod.mk.injEq] at H
           obtain ⟨rfl, rfl, rfl, rfl⟩ := H
           have p172 : 0 ≤ (0 : Int) := (by omega)
           have q172 : 0 < (t158.length : Int) := dt_
           obtain ⟨ad172, e172, hx172_0⟩ := Kd.at_string (Kd.R_reads' HO_4.out).2.2 0 p172 q172
           obtain rfl : ad161 = ad172 := (by injection e172)
           have qi172 : (0 < t158.length) = True := eq_true (by omega)
           (try rw [show ((0 : Int)).toNat = 0 from rfl] at hx172_0)
           (try rw [Addr.add_zero'] at hx172_0)
           replace p172 := eq_true p172
           replace q172 := eq_true q172
           obtain ⟨Ao43, co43, eo43⟩ := Kd.R_slice HO_5.out
           subst eo43
           have hcz44_0 : wc.cell? ⟨gb157, 0, none⟩ = some (.int .i64 0) := (blk_cell BK157.out 0).trans rfl
           have hcz44_1 : wc.cell? ⟨gb157, 1, none⟩ = some (.int .i64 0) := (blk_cell BK157.out 1).trans rfl
           have hcz44_2 : wc.cell? ⟨gb157, 2, none⟩ = some (.int .i64 0) := (blk_cell BK157.out 2).trans rfl
           have hfz44_0 := blk_frozen BK157.out 0
           have hfz44_1 := blk_frozen BK157.out 1
           have hfz44_2 := blk_frozen BK157.out 2
           go_wp2
           refine bodyPost_ret (results_ct rfl _ _ gb157 44 #[.int .i64 0, .int .i64 0, .int .i64 0] (0, 0) _ rfl (by (with_reducible repeat (first | refine blk_drewN ?_ _ | refine blk_drew ?_ | refine blk_alloc ?_ _)); refine blk_put (cs := #[.int .i64 0, .int .i64 0, .int .i64 0]) ?_ 2 _ rfl; (with_reducible repeat (first | refine blk_drewN ?_ _ | refine blk_drew ?_ | refine blk_alloc ?_ _)); refine blk_put (cs := #[.int .i64 0, .int .i64 0, .int .i64 0]) ?_ 1 _ rfl; (with_reducible repeat (first | refine blk_drewN ?_ _ | refine blk_drew ?_ | refine blk_alloc ?_ _)); refine blk_put (cs := #[.int .i64 0, .int .i64 0, .int .i64 0]) ?_ 0 _ rfl; (with_reducible repeat (first | refine blk_drewN ?_ _ | refine blk_drew ?_ | refine blk_alloc ?_ _)); exact BK157.out) Tryd.underlying44 rfl (by kernel_rfl)) rfl ?_
           exact ⟨by first | rfl | (simp [errW_none, errW_some] <;> rfl) | (simp [*, errW_none, errW_some] <;> rfl), by repeat (first | (with_reducible first | exact HB.out | apply below_alloc | apply pw_below_drewN | apply below_drew1 | refine below_set ?_ GE157.out) | exact HB.out)⟩
         rw [if_pos c39] at H
         have c39b0 : ((t162.length : Int) == 1) = true := beq_iff_eq.mpr c39
         have c39b1 : ((t162.length : Int) != 1) = false := bne_eq_false_iff_eq.mpr c39
         clear c39
         by_cases c40 : 0 < (t162.length : Int)
         rotate_left
         · rw [if_neg c40] at H
           exact absurd H (by simp)
         rw [if_pos c40] at H
         have c40b0 : decide (0 < (t162.length : Int)) = true := decide_eq_true c40
         have c40b1 : decide (0 < t162.length) = true := decide_eq_true (by omega)
         clear c40
         simp only [Option.some.injEq, Prod.mk.injEq] at H
         obtain ⟨rfl, rfl, rfl, rfl⟩ := H
         have p172 : 0 ≤ (0 : Int) := (by omega)
         have q172 : 0 < (t158.length : Int) := dt_
         obtain ⟨ad172, e172, hx172_0⟩ := Kd.at_string (Kd.R_reads' HO_4.out).2.2 0 p172 q172
         obtain rfl : ad161 = ad172 := (by injection e172)
         have qi172 : (0 < t158.length) = True := eq_true (by omega)
         (try rw [show ((0 : Int)).toNat = 0 from rfl] at hx172_0)
         (try rw [Addr.add_zero'] at hx172_0)
         replace p172 := eq_true p172
         replace q172 := eq_true q172
         obtain ⟨Ao41, co41, eo41⟩ := Kd.R_slice HO_5.out
         subst eo41
         have p173 : 0 ≤ (0 : Int) := (by omega)
         have q173 : 0 < (t162.length : Int) := dt_
         obtain ⟨ad173, e173, hx173_0⟩ := Kd.at_int (Kd.R_reads' HO_5.out).2.2 0 p173 q173
         cases e173
         have qi173 : (0 < t162.length) = True := eq_true (by omega)
         (try rw [show ((0 : Int)).toNat = 0 from rfl] at hx173_0)
         (try rw [Addr.add_zero'] at hx173_0)
         replace p173 := eq_true p173
         replace q173 := eq_true q173
         have hcz42_0 : wc.cell? ⟨gb157, 0, none⟩ = some (.int .i64 0) := (blk_cell BK157.out 0).trans rfl
         have hcz42_1 : wc.cell? ⟨gb157, 1, none⟩ = some (.int .i64 0) := (blk_cell BK157.out 1).trans rfl
         have hcz42_2 : wc.cell? ⟨gb157, 2, none⟩ = some (.int .i64 0) := (blk_cell BK157.out 2).trans rfl
         have hfz42_0 := blk_frozen BK157.out 0
         have hfz42_1 := blk_frozen BK157.out 1
         have hfz42_2 := blk_frozen BK157.out 2
         go_wp2
         refine bodyPost_ret (results_ct rfl _ _ gb157 44 #[.int .i64 3, .int .i64 (rd t162 0), .int .i64 0] (0, 0) _ rfl (by (with_reducible repeat (first | refine blk_drewN ?_ _ | refine blk_drew ?_ | refine blk_alloc ?_ _)); refine blk_put (cs := #[.int .i64 3, .int .i64 (rd t162 0), .int .i64 0]) ?_ 2 _ rfl; (with_reducible repeat (first | refine blk_drewN ?_ _ | refine blk_drew ?_ | refine blk_alloc ?_ _)); refine blk_put (cs := #[.int .i64 3, .int .i64 0, .int .i64 0]) ?_ 1 _ rfl; (with_reducible repeat (first | refine blk_drewN ?_ _ | refine blk_drew ?_ | refine blk_alloc ?_ _)); refine blk_put (cs := #[.int .i64 0, .int .i64 0, .int .i64 0]) ?_ 0 _ rfl; (with_reducible repeat (first | refine blk_drewN ?_ _ | refine blk_drew ?_ | refine blk_alloc ?_ _)); exact BK157.out) Tryd.underlying44 rfl (by kernel_rfl)) rfl ?_
         exact ⟨by first | rfl | (simp [errW_none, errW_some] <;> rfl) | (simp [*, errW_none, errW_some] <;> rfl), by repeat (first | (with_reducible first | exact HB.out | apply below_alloc | apply pw_below_drewN | apply below_drew1 | refine below_set ?_ GE157.out) | exact HB.out)⟩
end Go.Proofs.YteijbdngbmciaaaDoor.GFnExactReadRecipe

-- Written by the session's own program (gen.py) out of the translation's print. Lean checks it.
import Derived.Test.YtjmjbmahljlnlaaDoorGFnExactReadBladex0
import Derived.Test.YtjmjbmahljlnlaaDoorGFnExactReadBladex1
import Derived.Test.YtjmjbmahljlnlaaDoorGFnExactReadBladex2
namespace Go.Proofs.YtjmjbmahljlnlaaDoor.GFnExactReadBlade
open Go.RowKit Go.Proofs.YtjmjbmahljlnlaaDoorW.PrintWords Go.Proofs.YtjmjbmahljlnlaaDoorW.PrintLast Go.Proofs.YtjmjbmahljlnlaaDoorW.PrintMore
attribute [local go_sem] max2_int min2_int max_two min_two max_three min_three max_four min_four   -- for this text's walks alone
set_option linter.unusedVariables false
set_option linter.unusedSimpArgs false

/-! ### spec_ReadBlade: function 13 -/
def spec_ReadBlade.j0 : Nat → List ByteArray → List Int → Bool → Option (ByteArray × Int × Int × Int × Bool)
  | 0, _, _, _ => none
  | k + 1, x4, x5, x27 => if x27 = true then (some ((⟨#[]⟩ : ByteArray), 0, 0, 0, false)) else (if 0 < (x4.length : Int) then (if 0 < (x5.length : Int) then (if 1 < (x5.length : Int) then (if 2 < (x5.length : Int) then ((spec_l16Ok.f k [(⟨rdOf ByteArray.empty x4 0, rd x5 0, rd x5 1, rd x5 2⟩ : S34)]).bind fun t152 => (if t152 = true then (some (rdOf ByteArray.empty x4 0, rd x5 0, rd x5 1, rd x5 2, true)) else (some ((⟨#[]⟩ : ByteArray), 0, 0, 0, false)))) else (none)) else (none)) else (none)) else (none))
def spec_ReadBlade.f (k : Nat) (a0 : ByteArray) : Option (ByteArray × Int × Int × Int × Bool) := (spec_l01Split.f k a0 32).bind fun t139 => (if (t139.length : Int) = 2 then (if 1 < (t139.length : Int) then ((spec_ReadList.f k (rdOf ByteArray.empty t139 1)).bind fun bt143 => (if bt143.2 = true then (spec_ReadBlade.j0 k t139 bt143.1 ((bt143.1.length : Int) != 3)) else (spec_ReadBlade.j0 k t139 bt143.1 true))) else (none)) else (some ((⟨#[]⟩ : ByteArray), 0, 0, 0, false)))
theorem spec_ReadBlade.mono_l : ∀ k, (∀ y0 y1 y2, LeO (spec_ReadBlade.j0 k y0 y1 y2) (spec_ReadBlade.j0 (k + 1) y0 y1 y2))
  | 0 => fun _ _ _ r h => by simp [spec_ReadBlade.j0] at h
  | k + 1 => by
    have ih0 := spec_ReadBlade.mono_l k
    · intro y0 y1 y2
      unfold spec_ReadBlade.j0
      repeat' first
      | (with_reducible exact ih0 _ _ _)
      | (with_reducible exact spec_ReadList.mono _ _)
      | (with_reducible exact spec_l01Split.mono _ _ _)
      | (with_reducible exact spec_l16Ok.mono _ _)
      | (with_reducible exact LeO.refl _)
      | (with_reducible exact LeO.none _)
      | (with_reducible refine LeO.ite ?_ ?_)
      | (with_reducible refine LeO.bind ?_ (fun _ => ?_))
      | exact ih0 _ _ _
      | exact spec_ReadList.mono _ _
      | exact spec_l01Split.mono _ _ _
      | exact spec_l16Ok.mono _ _
      | exact LeO.none _
      | refine LeO.ite ?_ ?_
      | refine LeO.bind ?_ (fun _ => ?_)
theorem spec_ReadBlade.mono : ∀ a0 k, LeO (spec_ReadBlade.f k a0) (spec_ReadBlade.f (k + 1) a0) := by
  intro a0 k
  have ih0 := spec_ReadBlade.mono_l k
  unfold spec_ReadBlade.f
  repeat' first
      | (with_reducible exact ih0 _ _ _)
      | (with_reducible exact spec_ReadList.mono _ _)
      | (with_reducible exact spec_l01Split.mono _ _ _)
      | (with_reducible exact spec_l16Ok.mono _ _)
      | (with_reducible exact LeO.refl _)
      | (with_reducible exact LeO.none _)
      | (with_reducible refine LeO.ite ?_ ?_)
      | (with_reducible refine LeO.bind ?_ (fun _ => ?_))
      | exact ih0 _ _ _
      | exact spec_ReadList.mono _ _
      | exact spec_l01Split.mono _ _ _
      | exact spec_l16Ok.mono _ _
      | exact LeO.none _
      | refine LeO.ite ?_ ?_
      | refine LeO.bind ?_ (fun _ => ?_)
def spec_ReadBlade.T7 : Bool × List (List Nat × List Nat) := (true, [([], []), ([0], [0]), ([1], [1]), ([], []), ([3], [3]), ([4], [4]), ([], []), ([6], [6]), ([7], [7]), ([], []), ([9], [9]), ([10], [10]), ([2, 5, 8, 11], [2, 5, 8, 11]), ([], []), ([13, 12, 0, 1, 2, 3, 4, 5, 6, 7, 8, 9, 10, 11, 12, 13], [12, 13])])
def spec_ReadBlade.B7 : List Nat := [0, 1, 3, 0, 8, 24, 0, 64, 192, 0, 512, 1536, 4095, 0, 16383]
theorem spec_ReadBlade.tab7 : rtab .any (opsOf Tryd.f13 7) = spec_ReadBlade.T7 := by kernel_rfl
theorem spec_ReadBlade.bits7 : waitsOk spec_ReadBlade.T7.2 spec_ReadBlade.B7 = true := by kernel_rfl
open List renaming setIfInBounds_toArray → sA, set_cons_zero → sB, set_cons_succ → sC
open Go.Proofs.YtjmjbmahljlnlaaDoorW.PrintWords.Aside0 renaming mk → mkA
open Go.Proofs.YtjmjbmahljlnlaaDoorX (dt_ bc_ p0_ p1_ bl_ cb_ bs0_ bs1_ bs2_ bs3_ bs4_ bs5_ bs6_ bs7_ bs8_ bs9_ bs10_ bs11_ bs12_)
abbrev spec_ReadBlade.d0 : Array Bool := #[false, false, false, false, false, false, false, false, false, false, false, false, false, false, false]
abbrev spec_ReadBlade.d1 : Array Bool := #[true, false, false, false, false, false, false, false, false, false, false, false, false, false, false]
abbrev spec_ReadBlade.d2 : Array Bool := #[true, true, false, false, false, false, false, false, false, false, false, false, false, false, false]
abbrev spec_ReadBlade.d3 : Array Bool := #[true, true, false, true, false, false, false, false, false, false, false, false, false, false, false]
abbrev spec_ReadBlade.d4 : Array Bool := #[true, true, false, true, true, false, false, false, false, false, false, false, false, false, false]
abbrev spec_ReadBlade.d5 : Array Bool := #[true, true, false, true, true, false, true, false, false, false, false, false, false, false, false]
abbrev spec_ReadBlade.d6 : Array Bool := #[true, true, false, true, true, false, true, true, false, false, false, false, false, false, false]
abbrev spec_ReadBlade.d7 : Array Bool := #[true, true, false, true, true, false, true, true, false, true, false, false, false, false, false]
abbrev spec_ReadBlade.d8 : Array Bool := #[true, true, false, true, true, false, true, true, false, true, true, false, false, false, false]
abbrev spec_ReadBlade.d9 : Array Bool := #[true, true, true, true, true, false, true, true, false, true, true, false, false, false, false]
abbrev spec_ReadBlade.d10 : Array Bool := #[true, true, true, true, true, true, true, true, false, true, true, false, false, false, false]
abbrev spec_ReadBlade.d11 : Array Bool := #[true, true, true, true, true, true, true, true, true, true, true, false, false, false, false]
abbrev spec_ReadBlade.d12 : Array Bool := #[true, true, true, true, true, true, true, true, true, true, true, true, false, false, false]
abbrev spec_ReadBlade.d13 : Array Bool := #[true, true, true, true, true, true, true, true, true, true, true, true, true, false, false]
abbrev spec_ReadBlade.d14 : Array Bool := #[true, true, true, true, true, true, true, true, true, true, true, true, true, true, false]
abbrev spec_ReadBlade.d15 : Array Bool := #[true, true, true, true, true, true, true, true, true, true, true, true, true, true, true]
set_option maxHeartbeats 8000000 in
set_option maxRecDepth 100000 in
theorem spec_ReadBlade.calls (k : Nat) (a0 : ByteArray) (r1 : ByteArray) (r2 : Int) (r3 : Int) (r4 : Int) (r5 : Bool) (w : World) (h : spec_ReadBlade.f k a0 = some (r1, r2, r3, r4, r5)) :
 Calls Tryd.prog 13 #[.string a0] w fun e w' => e = .returned (.tuple #[.agg #[.string r1, .int .i64 r2, .int .i64 r3, .int .i64 r4], .bool r5]) ∧ Below w.heap.size w w' := by
 have hu34 := Tryd.underlying34
 have HB := mkA (Below.refl w.heap.size w)
 have H : ((spec_l01Split.f k a0 32).bind fun t139 => (if (t139.length : Int) = 2 then (if 1 < (t139.length : Int) then ((spec_ReadList.f k (rdOf ByteArray.empty t139 1)).bind fun bt143 => (if bt143.2 = true then (spec_ReadBlade.j0 k t139 bt143.1 ((bt143.1.length : Int) != 3)) else (spec_ReadBlade.j0 k t139 bt143.1 true))) else (none)) else (some ((⟨#[]⟩ : ByteArray), 0, 0, 0, false)))) = some (r1, r2, r3, r4, r5) := h
 clear h
 replace H := Option.bind_eq_some_iff.mp H
 obtain ⟨t139, A20, H⟩ := H
 replace H : (if (t139.length : Int) = 2 then (if 1 < (t139.length : Int) then ((spec_ReadList.f k (rdOf ByteArray.empty t139 1)).bind fun bt143 => (if bt143.2 = true then (spec_ReadBlade.j0 k t139 bt143.1 ((bt143.1.length : Int) != 3)) else (spec_ReadBlade.j0 k t139 bt143.1 true))) else (none)) else (some ((⟨#[]⟩ : ByteArray), 0, 0, 0, false))) = some (r1, r2, r3, r4, r5) := H
 have A2 := mkA A20
 clear A20
 by_cases c3 : (t139.length : Int) = 2
 rotate_left
 · rw [if_neg c3] at H
   have c3b0 : ((t139.length : Int) == 2) = false := beq_eq_false_iff_ne.mpr c3
   have c3b1 : ((t139.length : Int) != 2) = true := bne_iff_ne.mpr c3
   simp only [Option.some.injEq, Prod.mk.injEq] at H
   obtain ⟨rfl, rfl, rfl, rfl, rfl⟩ := H
   go_enter Tryd.func13, Tryd.ntmps13
   go_wp2_with (first | ((with_reducible refine gate_dst (N := 2) rfl ?_); (try (refine gate_guard (by rfl) ?_; dsimp only)); refine box_event ?hg (N := 2) ?hd (cs := #[.string (⟨#[]⟩ : ByteArray), .int .i64 0, .int .i64 0, .int .i64 0]) (t := 34) ?hr ?_; (case hd => rfl); (case hg => rfl); (case hr => first | (go_simp; done) | (go_simp; rfl)); intro gb138 hg w40 hbox hb; have n0_ := mkA (below_step (bs0_ HB.out) hb); have n1_ := mkA (hbox); have n2_ := mkA ((by rw [hg]; exact (below_size (bs0_ HB.out)) : w.heap.size ≤ gb138)); have n3_ := mkA ((by rw [hg]; exact (below_size (bs0_ HB.out)) : w.heap.size ≤ gb138)); clear HB; have HB := n0_; have BK138 := n1_; have GW138 := n2_; have GE138 := n3_; clear n0_ n1_ n2_ n3_; clear hb hbox hg) | ((with_reducible refine gate_callee (f := 20) rfl ?_); refine goesL_ (some 9) rfl rfl Tryd.func20 (by kernel_rfl) rfl #[.string a0, .int .u8 32] rfl (by (try simp only [List.map_toArray, List.map_cons, List.map_nil]); first | done | rfl | (simp only [List.length_drop, List.length_take]; rfl)) ?_; (with_reducible refine (spec_l01Split.calls k a0 32 t139 _ A2.out).mono ?_); rintro e w41 ⟨v140, rfl, ho0, hb⟩; refine ⟨_, rfl, ?_⟩; have n0_ := mkA (Kd.R_lower ho0 (below_size (bs1_ HB.out GE138.out))); have n1_ := mkA (blk_below (g := gb138) (o := .cells #[.string (⟨#[]⟩ : ByteArray), .int .i64 0, .int .i64 0, .int .i64 0] 34 (0, 0)) (bl_ BK138.out) hb); have n2_ := mkA (below_step (bs1_ HB.out GE138.out) hb); clear BK138; clear HB; have HO141 := n0_; have BK138 := n1_; have HB := n2_; clear n0_ n1_ n2_; (try clear hb); (try clear hb2); (try clear hk); (try clear hi); (try clear ho0); obtain ⟨Ao42, co42, eo42⟩ := Kd.R_slice HO141.out; subst eo42; have hcz43_0 : w41.cell? ⟨gb138, 0, none⟩ = some (.string (⟨#[]⟩ : ByteArray)) := (blk_cell BK138.out 0).trans rfl; have hcz43_1 : w41.cell? ⟨gb138, 1, none⟩ = some (.int .i64 0) := (blk_cell BK138.out 1).trans rfl; have hcz43_2 : w41.cell? ⟨gb138, 2, none⟩ = some (.int .i64 0) := (blk_cell BK138.out 2).trans rfl; have hcz43_3 : w41.cell? ⟨gb138, 3, none⟩ = some (.int .i64 0) := (blk_cell BK138.out 3).trans rfl; have hfz43_0 := blk_frozen BK138.out 0; have hfz43_1 := blk_frozen BK138.out 1; have hfz43_2 := blk_frozen BK138.out 2; have hfz43_3 := blk_frozen BK138.out 3))
   refine bodyPost_ret (results_ct rfl _ _ gb138 34 #[.string (⟨#[]⟩ : ByteArray), .int .i64 0, .int .i64 0, .int .i64 0] (0, 0) _ rfl (by (with_reducible repeat (first | refine blk_drewN ?_ _ | refine blk_drew ?_ | refine blk_alloc ?_ _)); refine blk_put (cs := #[.string (⟨#[]⟩ : ByteArray), .int .i64 0, .int .i64 0, .int .i64 0]) ?_ 3 _ rfl; (with_reducible repeat (first | refine blk_drewN ?_ _ | refine blk_drew ?_ | refine blk_alloc ?_ _)); refine blk_put (cs := #[.string (⟨#[]⟩ : ByteArray), .int .i64 0, .int .i64 0, .int .i64 0]) ?_ 2 _ rfl; (with_reducible repeat (first | refine blk_drewN ?_ _ | refine blk_drew ?_ | refine blk_alloc ?_ _)); refine blk_put (cs := #[.string (⟨#[]⟩ : ByteArray), .int .i64 0, .int .i64 0, .int .i64 0]) ?_ 1 _ rfl; (with_reducible repeat (first | refine blk_drewN ?_ _ | refine blk_drew ?_ | refine blk_alloc ?_ _)); refine blk_put (cs := #[.string (⟨#[]⟩ : ByteArray), .int .i64 0, .int .i64 0, .int .i64 0]) ?_ 0 _ rfl; (with_reducible repeat (first | refine blk_drewN ?_ _ | refine blk_drew ?_ | refine blk_alloc ?_ _)); exact BK138.out) Tryd.underlying34 rfl (by kernel_rfl)) rfl ?_
   exact ⟨by first | rfl | (simp [errW_none, errW_some] <;> rfl) | (simp [*, errW_none, errW_some] <;> rfl), by repeat (first | (with_reducible first | exact HB.out | apply below_alloc | apply pw_below_drewN | apply below_drew1 | refine below_set ?_ GE138.out) | exact HB.out)⟩

 rw [if_pos c3] at H
 have c3b0 : ((t139.length : Int) == 2) = true := beq_iff_eq.mpr c3
 have c3b1 : ((t139.length : Int) != 2) = false := bne_eq_false_iff_eq.mpr c3
 clear c3
 by_cases c4 : 1 < (t139.length : Int)
 rotate_left
 · rw [if_neg c4] at H
   exact absurd H (by simp)
 rw [if_pos c4] at H
 have c4b0 : decide (1 < (t139.length : Int)) = true := decide_eq_true c4
 have c4b1 : decide (1 < t139.length) = true := decide_eq_true (by omega)
 clear c4
 replace H := Option.bind_eq_some_iff.mp H
 obtain ⟨⟨t143, t144⟩, A50, H⟩ := H
 replace H : (if t144 = true then (spec_ReadBlade.j0 k t139 t143 ((t143.length : Int) != 3)) else (spec_ReadBlade.j0 k t139 t143 true)) = some (r1, r2, r3, r4, r5) := H
 have A5 := mkA A50
 clear A50
 have HC6 := mkA H
 clear H
 go_enter Tryd.func13, Tryd.ntmps13
 go_upto_region 5 with (first | ((with_reducible refine gate_dst (N := 2) rfl ?_); (try (refine gate_guard (by rfl) ?_; dsimp only)); refine box_event ?hg (N := 2) ?hd (cs := #[.string (⟨#[]⟩ : ByteArray), .int .i64 0, .int .i64 0, .int .i64 0]) (t := 34) ?hr ?_; (case hd => rfl); (case hg => rfl); (case hr => first | (go_simp; done) | (go_simp; rfl)); intro gb138 hg w7 hbox hb; have n0_ := mkA (below_step (bs0_ HB.out) hb); have n1_ := mkA (hbox); have n2_ := mkA ((by rw [hg]; exact (below_size (bs0_ HB.out)) : w.heap.size ≤ gb138)); have n3_ := mkA ((by rw [hg]; exact (below_size (bs0_ HB.out)) : w.heap.size ≤ gb138)); clear HB; have HB := n0_; have BK138 := n1_; have GW138 := n2_; have GE138 := n3_; clear n0_ n1_ n2_ n3_; clear hb hbox hg) | ((with_reducible refine gate_callee (f := 20) rfl ?_); refine goesL_ (some 9) rfl rfl Tryd.func20 (by kernel_rfl) rfl #[.string a0, .int .u8 32] rfl (by (try simp only [List.map_toArray, List.map_cons, List.map_nil]); first | done | rfl | (simp only [List.length_drop, List.length_take]; rfl)) ?_; (with_reducible refine (spec_l01Split.calls k a0 32 t139 _ A2.out).mono ?_); rintro e w8 ⟨v140, rfl, ho0, hb⟩; refine ⟨_, rfl, ?_⟩; have n0_ := mkA (Kd.R_lower ho0 (below_size (bs1_ HB.out GE138.out))); have n1_ := mkA (blk_below (g := gb138) (o := .cells #[.string (⟨#[]⟩ : ByteArray), .int .i64 0, .int .i64 0, .int .i64 0] 34 (0, 0)) (bl_ BK138.out) hb); have n2_ := mkA (below_step (bs1_ HB.out GE138.out) hb); clear BK138; clear HB; have HO141 := n0_; have BK138 := n1_; have HB := n2_; clear n0_ n1_ n2_; (try clear hb); (try clear hb2); (try clear hk); (try clear hi); (try clear ho0); obtain ⟨Ao9, co9, eo9⟩ := Kd.R_slice HO141.out; subst eo9; have p142 : 0 ≤ (1 : Int) := (by omega); have q142 : 1 < (t139.length : Int) := dt_; obtain ⟨ad142, e142, hx142_0⟩ := Kd.at_string (Kd.R_reads' HO141.out).2.2 1 p142 q142; cases e142; (try simp only [show (1 : Int).toNat = 1 from rfl, Nat.reduceMul, Nat.reduceEqDiff, Go.Addr.add, ↓reduceIte] at hx142_0); have qi142 : (1 < t139.length) = True := eq_true (by omega); (try rw [show ((1 : Int)).toNat = 1 from rfl] at hx142_0); replace p142 := eq_true p142; replace q142 := eq_true q142) | ((with_reducible refine gate_callee (f := 21) rfl ?_); refine goesL_ (some 18) rfl rfl Tryd.func21 (by kernel_rfl) rfl #[.string (rdOf ByteArray.empty t139 1)] rfl (by (try simp only [List.map_toArray, List.map_cons, List.map_nil]); first | done | rfl | (simp only [List.length_drop, List.length_take]; rfl)) ?_; (with_reducible refine (spec_ReadList.calls k (rdOf ByteArray.empty t139 1) t143 t144 _ A5.out).mono ?_); rintro e w10 ⟨v145, rfl, ho0, hb⟩; refine ⟨_, rfl, ?_⟩; have n0_ := mkA (Kd.R_below (by (with_reducible repeat (first | apply Kd.R_alloc | apply Kd.R_drewN | apply Kd.R_drew)); exact HO141.out) hb); have n1_ := mkA (Kd.R_lower ho0 (below_size (bs1_ HB.out GE138.out))); have n2_ := mkA (blk_below (g := gb138) (o := .cells #[.string (⟨#[]⟩ : ByteArray), .int .i64 0, .int .i64 0, .int .i64 0] 34 (0, 0)) (bl_ BK138.out) hb); have n3_ := mkA (below_step (bs1_ HB.out GE138.out) hb); clear HO141; clear BK138; clear HB; have HO141 := n0_; have HO146 := n1_; have BK138 := n2_; have HB := n3_; clear n0_ n1_ n2_ n3_; (try clear hb); (try clear hb2); (try clear hk); (try clear hi); (try clear ho0)))
 (try simp only [Act.put, sA, sB, sC])
 go_cut [27] (fun v27 wc => ∃ (kq : Nat) (x27_5 : Bool), v27 = .bool x27_5 ∧ Aside0 (spec_ReadBlade.j0 kq t139 t143 x27_5 = some (r1, r2, r3, r4, r5)) ∧ Aside0 (kq ≤ k) ∧ Aside0 (Kd.R Kd.string 9 wc w.heap.size (fun _ => True) (.slice (some ad142) t139.length co9) t139) ∧ Aside0 (Kd.R (Kd.int .i64) 2 wc w.heap.size (fun _ => True) v145 t143) ∧ Aside0 (wc.heap[gb138]? = some (.cells #[.string (⟨#[]⟩ : ByteArray), .int .i64 0, .int .i64 0, .int .i64 0] 34 (0, 0))) ∧ Aside0 (Below w.heap.size w wc))
 case first =>
  have H := HC6.out
  clear HC6
  by_cases c11 : t144 = true
  rotate_left
  · replace c11 := Bool.eq_false_iff.mpr c11
    subst c11
    have H1 : (spec_ReadBlade.j0 k t139 t143 true) = some (r1, r2, r3, r4, r5) := by rw [if_neg (show ¬ (false = true) by decide)] at H; exact H
    clear H
    have H := H1
    clear H1
    have H' := mkA H
    clear H
    go_wp2
    go_meet
    case rel => exact ⟨_, (true), (by first | rfl | (simp; done) | (simp [*]; done) | (simp [i64_w, i32_w]; done)), H', ⟨by first | omega | exact Nat.le_refl _⟩, ⟨by (with_reducible repeat (first | apply Kd.R_alloc | apply Kd.R_drewN | apply Kd.R_drew)); exact HO141.out⟩, ⟨by (with_reducible repeat (first | apply Kd.R_alloc | apply Kd.R_drewN | apply Kd.R_drew)); exact HO146.out⟩, ⟨by (with_reducible repeat (first | refine blk_drewN ?_ _ | refine blk_drew ?_ | refine blk_alloc ?_ _)); exact BK138.out⟩, ⟨by repeat (first | (with_reducible first | exact HB.out | apply below_alloc | apply pw_below_drewN | apply below_drew1 | refine below_set ?_ GE138.out) | exact HB.out)⟩⟩
  subst c11
  have H1 : (spec_ReadBlade.j0 k t139 t143 ((t143.length : Int) != 3)) = some (r1, r2, r3, r4, r5) := by rw [if_pos rfl] at H; exact H
  clear H
  have H := H1
  clear H1
  have H' := mkA H
  clear H
  obtain ⟨Ao12, co12, eo12⟩ := Kd.R_slice HO146.out
  subst eo12
  go_wp2
  go_meet
  case rel => exact ⟨_, (((t143.length : Int) != 3)), (by first | rfl | (simp; done) | (simp [*]; done) | (simp [i64_w, i32_w]; done)), H', ⟨by first | omega | exact Nat.le_refl _⟩, ⟨by (with_reducible repeat (first | apply Kd.R_alloc | apply Kd.R_drewN | apply Kd.R_drew)); exact HO141.out⟩, ⟨by (with_reducible repeat (first | apply Kd.R_alloc | apply Kd.R_drewN | apply Kd.R_drew)); exact HO146.out⟩, ⟨by (with_reducible repeat (first | refine blk_drewN ?_ _ | refine blk_drew ?_ | refine blk_alloc ?_ _)); exact BK138.out⟩, ⟨by repeat (first | (with_reducible first | exact HB.out | apply below_alloc | apply pw_below_drewN | apply below_drew1 | refine below_set ?_ GE138.out) | exact HB.out)⟩⟩
 case rest =>
  clear HC6
  try clear c1
  try clear p1
  try clear q1
  try clear hx1
  try clear qi1
  try clear c2
  try clear p2
  try clear c3
  try clear c3b0
  try clear c3b1
  try clear c4
  try clear c4b0
  try clear c4b1
  try clear c11
  try clear hx142_0
  try clear p142
  try clear q142
  obtain ⟨kq, x27_5, rfl, HA, HJ5, HO_4, HO_5, BK138, HB⟩ := hcut
  cases kq with
  | zero => exact absurd HA.out (by simp [spec_ReadBlade.j0])
  | succ kj5 =>
   have H := HA.out
   clear HA
   simp only [spec_ReadBlade.j0] at H
   by_cases c13 : x27_5 = true
   · subst c13
     have H1 : (some ((⟨#[]⟩ : ByteArray), 0, 0, 0, false)) = some (r1, r2, r3, r4, r5) := by rw [if_pos rfl] at H; exact H
     clear H
     have H := H1
     clear H1
     simp only [Option.some.injEq, Prod.mk.injEq] at H
     obtain ⟨rfl, rfl, rfl, rfl, rfl⟩ := H
     have hcz14_0 : wc.cell? ⟨gb138, 0, none⟩ = some (.string (⟨#[]⟩ : ByteArray)) := (blk_cell BK138.out 0).trans rfl
     have hcz14_1 : wc.cell? ⟨gb138, 1, none⟩ = some (.int .i64 0) := (blk_cell BK138.out 1).trans rfl
     have hcz14_2 : wc.cell? ⟨gb138, 2, none⟩ = some (.int .i64 0) := (blk_cell BK138.out 2).trans rfl
     have hcz14_3 : wc.cell? ⟨gb138, 3, none⟩ = some (.int .i64 0) := (blk_cell BK138.out 3).trans rfl
     have hfz14_0 := blk_frozen BK138.out 0
     have hfz14_1 := blk_frozen BK138.out 1
     have hfz14_2 := blk_frozen BK138.out 2
     have hfz14_3 := blk_frozen BK138.out 3
     go_wp2
     refine bodyPost_ret (results_ct rfl _ _ gb138 34 #[.string (⟨#[]⟩ : ByteArray), .int .i64 0, .int .i64 0, .int .i64 0] (0, 0) _ rfl (by (with_reducible repeat (first | refine blk_drewN ?_ _ | refine blk_drew ?_ | refine blk_alloc ?_ _)); refine blk_put (cs := #[.string (⟨#[]⟩ : ByteArray), .int .i64 0, .int .i64 0, .int .i64 0]) ?_ 3 _ rfl; (with_reducible repeat (first | refine blk_drewN ?_ _ | refine blk_drew ?_ | refine blk_alloc ?_ _)); refine blk_put (cs := #[.string (⟨#[]⟩ : ByteArray), .int .i64 0, .int .i64 0, .int .i64 0]) ?_ 2 _ rfl; (with_reducible repeat (first | refine blk_drewN ?_ _ | refine blk_drew ?_ | refine blk_alloc ?_ _)); refine blk_put (cs := #[.string (⟨#[]⟩ : ByteArray), .int .i64 0, .int .i64 0, .int .i64 0]) ?_ 1 _ rfl; (with_reducible repeat (first | refine blk_drewN ?_ _ | refine blk_drew ?_ | refine blk_alloc ?_ _)); refine blk_put (cs := #[.string (⟨#[]⟩ : ByteArray), .int .i64 0, .int .i64 0, .int .i64 0]) ?_ 0 _ rfl; (with_reducible repeat (first | refine blk_drewN ?_ _ | refine blk_drew ?_ | refine blk_alloc ?_ _)); exact BK138.out) Tryd.underlying34 rfl (by kernel_rfl)) rfl ?_
     exact ⟨by first | rfl | (simp [errW_none, errW_some] <;> rfl) | (simp [*, errW_none, errW_some] <;> rfl), by repeat (first | (with_reducible first | exact HB.out | apply below_alloc | apply pw_below_drewN | apply below_drew1 | refine below_set ?_ GE138.out) | exact HB.out)⟩
   · replace c13 := Bool.eq_false_iff.mpr c13
     subst c13
     have H1 : (if 0 < (t139.length : Int) then (if 0 < (t143.length : Int) then (if 1 < (t143.length : Int) then (if 2 < (t143.length : Int) then ((spec_l16Ok.f kj5 [(⟨rdOf ByteArray.empty t139 0, rd t143 0, rd t143 1, rd t143 2⟩ : S34)]).bind fun t152 => (if t152 = true then (some (rdOf ByteArray.empty t139 0, rd t143 0, rd t143 1, rd t143 2, true)) else (some ((⟨#[]⟩ : ByteArray), 0, 0, 0, false)))) else (none)) else (none)) else (none)) else (none)) = some (r1, r2, r3, r4, r5) := by rw [if_neg (show ¬ (false = true) by decide)] at H; exact H
     clear H
     have H := H1
     clear H1
     by_cases c15 : 0 < (t139.length : Int)
     rotate_left
     · rw [if_neg c15] at H
       exact absurd H (by simp)
     rw [if_pos c15] at H
     have c15b0 : decide (0 < (t139.length : Int)) = true := decide_eq_true c15
     have c15b1 : decide (0 < t139.length) = true := decide_eq_true (by omega)
     clear c15
     by_cases c16 : 0 < (t143.length : Int)
     rotate_left
     · rw [if_neg c16] at H
       exact absurd H (by simp)
     rw [if_pos c16] at H
     have c16b0 : decide (0 < (t143.length : Int)) = true := decide_eq_true c16
     have c16b1 : decide (0 < t143.length) = true := decide_eq_true (by omega)
     clear c16
     by_cases c17 : 1 < (t143.length : Int)
     rotate_left
     · rw [if_neg c17] at H
       exact absurd H (by simp)
     rw [if_pos c17] at H
     have c17b0 : decide (1 < (t143.length : Int)) = true := decide_eq_true c17
     have c17b1 : decide (1 < t143.length) = true := decide_eq_true (by omega)
     clear c17
     by_cases c18 : 2 < (t143.length : Int)
     rotate_left
     · rw [if_neg c18] at H
       exact absurd H (by simp)
     rw [if_pos c18] at H
     have c18b0 : decide (2 < (t143.length : Int)) = true := decide_eq_true c18
     have c18b1 : decide (2 < t143.length) = true := decide_eq_true (by omega)
     clear c18
     replace H := Option.bind_eq_some_iff.mp H
     obtain ⟨t152, A190, H⟩ := H
     replace H : (if t152 = true then (some (rdOf ByteArray.empty t139 0, rd t143 0, rd t143 1, rd t143 2, true)) else (some ((⟨#[]⟩ : ByteArray), 0, 0, 0, false))) = some (r1, r2, r3, r4, r5) := H
     have A19 := mkA A190
     clear A190
     by_cases c20 : t152 = true
     · subst c20
       have H1 : (some (rdOf ByteArray.empty t139 0, rd t143 0, rd t143 1, rd t143 2, true)) = some (r1, r2, r3, r4, r5) := by rw [if_pos rfl] at H; exact H
       clear H
       have H := H1
       clear H1
       simp only [Option.some.injEq, Prod.mk.injEq] at H
       obtain ⟨rfl, rfl, rfl, rfl, rfl⟩ := H
       try go_wp2
       have n0_ := mkA (Kd.R_drew HO_4.out)
       have n1_ := mkA (Kd.R_drew HO_5.out)
       have n2_ := mkA (blk_drew BK138.out)
       have n3_ := mkA (below_drew1 HB.out)
       clear HO_4
       clear HO_5
       clear BK138
       clear HB
       have HO_4 := n0_
       have HO_5 := n1_
       have BK138 := n2_
       have HB := n3_
       clear n0_ n1_ n2_ n3_
       have p147 : 0 ≤ (0 : Int) := (by omega)
       have q147 : 0 < (t139.length : Int) := dt_
       obtain ⟨ad147, e147, hx147_0⟩ := Kd.at_string (Kd.R_reads' HO_4.out).2.2 0 p147 q147
       obtain rfl : ad142 = ad147 := (by injection e147)
       have qi147 : (0 < t139.length) = True := eq_true (by omega)
       (try rw [show ((0 : Int)).toNat = 0 from rfl] at hx147_0)
       (try rw [Addr.add_zero'] at hx147_0)
       replace p147 := eq_true p147
       replace q147 := eq_true q147
       obtain ⟨Ao22, co22, eo22⟩ := Kd.R_slice HO_5.out
       (first | subst eo22 | (injection eo22 with f1_ f2_ f3_; have f4_ := f1_.symm; have f5_ := f3_.symm; clear f1_ f2_ f3_; subst f4_; subst f5_))
       have p148 : 0 ≤ (0 : Int) := (by omega)
       have q148 : 0 < (t143.length : Int) := dt_
       obtain ⟨ad148, e148, hx148_0⟩ := Kd.at_int (Kd.R_reads' HO_5.out).2.2 0 p148 q148
       cases e148
       have qi148 : (0 < t143.length) = True := eq_true (by omega)
       (try rw [show ((0 : Int)).toNat = 0 from rfl] at hx148_0)
       (try rw [Addr.add_zero'] at hx148_0)
       replace p148 := eq_true p148
       replace q148 := eq_true q148
       have p149 : 0 ≤ (1 : Int) := (by omega)
       have q149 : 1 < (t143.length : Int) := dt_
       obtain ⟨ad149, e149, hx149_0⟩ := Kd.at_int (Kd.R_reads' HO_5.out).2.2 1 p149 q149
       obtain rfl : ad148 = ad149 := (by injection e149)
       (try simp only [show (1 : Int).toNat = 1 from rfl, Nat.reduceMul, Nat.reduceEqDiff, Go.Addr.add, ↓reduceIte] at hx149_0)
       have qi149 : (1 < t143.length) = True := eq_true (by omega)
       (try rw [show ((1 : Int)).toNat = 1 from rfl] at hx149_0)
       replace p149 := eq_true p149
       replace q149 := eq_true q149
       have p150 : 0 ≤ (2 : Int) := (by omega)
       have q150 : 2 < (t143.length : Int) := dt_
       obtain ⟨ad150, e150, hx150_0⟩ := Kd.at_int (Kd.R_reads' HO_5.out).2.2 2 p150 q150
       obtain rfl : ad148 = ad150 := (by injection e150)
       (try simp only [show (2 : Int).toNat = 2 from rfl, Nat.reduceMul, Nat.reduceEqDiff, Go.Addr.add, ↓reduceIte] at hx150_0)
       have qi150 : (2 < t143.length) = True := eq_true (by omega)
       (try rw [show ((2 : Int)).toNat = 2 from rfl] at hx150_0)
       replace p150 := eq_true p150
       replace q150 := eq_true q150
       refine start_ (n := 15) (S := fun w' => w'.cell? ad142 = some (.string (rdOf ByteArray.empty t139 0)) ∧ w'.cell? ad148 = some (.int .i64 (rd t143 0)) ∧ w'.cell? ⟨ad148.block, ad148.off + 1, none⟩ = some (.int .i64 (rd t143 1)) ∧ w'.cell? ⟨ad148.block, ad148.off + 2, none⟩ = some (.int .i64 (rd t143 2))) (ds := []) spec_ReadBlade.d0 (by kernel_rfl) rfl rfl ⟨hx147_0, hx148_0, hx149_0, hx150_0⟩ (fun hHeld => ?_); refine with_tabW spec_ReadBlade.tab7 spec_ReadBlade.bits7 (fun HT_ HW_ => ?_)
       generalize wc.drew = w21 at HO_4 HO_5 BK138 HB hx147_0 hx148_0 hx149_0 hx150_0 hHeld ⊢
       refine p1_ HT_.out 0 29 spec_ReadBlade.d1 ?_
       refine p1_ HT_.out 1 30 spec_ReadBlade.d2 ?_
       refine p1_ HT_.out 3 32 spec_ReadBlade.d3 ?_
       refine p1_ HT_.out 4 33 spec_ReadBlade.d4 ?_
       refine p1_ HT_.out 6 35 spec_ReadBlade.d5 ?_
       refine p1_ HT_.out 7 36 spec_ReadBlade.d6 ?_
       refine p1_ HT_.out 9 38 spec_ReadBlade.d7 ?_
       refine p1_ HT_.out 10 39 spec_ReadBlade.d8 ?_
       refine take_ (i := 2) (N := some 31) (v := ?_) (a' := ?_) spec_ReadBlade.d9 rfl rfl (take_ofW HT_.out HW_.out (by kernel_rfl)) (fun _ _ _ h => h) (Or.inl ⟨by rfl, ?_⟩) hHeld ?_ ?_
       rotate_left
       · rintro w' ⟨s0, s1, s2, s3⟩
         go_simp
         with_reducible rfl
       rotate_left
       · simp only [Act.put, sA, sB, sC, i64_w, i32_w]
         rfl
       refine take_ (i := 5) (N := some 34) (v := ?_) (a' := ?_) spec_ReadBlade.d10 rfl rfl (take_ofW HT_.out HW_.out (by kernel_rfl)) (fun _ _ _ h => h) (Or.inl ⟨by rfl, ?_⟩) hHeld ?_ ?_
       rotate_left
       · rintro w' ⟨s0, s1, s2, s3⟩
         go_simp
         with_reducible rfl
       rotate_left
       · simp only [Act.put, sA, sB, sC, i64_w, i32_w]
         rfl
       refine take_ (i := 8) (N := some 37) (v := ?_) (a' := ?_) spec_ReadBlade.d11 rfl rfl (take_ofW HT_.out HW_.out (by kernel_rfl)) (fun _ _ _ h => h) (Or.inl ⟨by rfl, ?_⟩) hHeld ?_ ?_
       rotate_left
       · rintro w' ⟨s0, s1, s2, s3⟩
         go_simp
         with_reducible rfl
       rotate_left
       · simp only [Act.put, sA, sB, sC, i64_w, i32_w]
         rfl
       refine take_ (i := 11) (N := some 40) (v := ?_) (a' := ?_) spec_ReadBlade.d12 rfl rfl (take_ofW HT_.out HW_.out (by kernel_rfl)) (fun _ _ _ h => h) (Or.inl ⟨by rfl, ?_⟩) hHeld ?_ ?_
       rotate_left
       · rintro w' ⟨s0, s1, s2, s3⟩
         go_simp
         with_reducible rfl
       rotate_left
       · simp only [Act.put, sA, sB, sC, i64_w, i32_w]
         rfl
       refine p1_ HT_.out 12 41 spec_ReadBlade.d13 ?_
       refine one_ (i := 13) (N := some 7) spec_ReadBlade.d14 rfl rfl (one_of HT_.out (by kernel_rfl)) (by decide) (fun K hK => ?_)
       refine box_step ?hg (N := 7) ?hd (cs := #[.string (⟨#[]⟩ : ByteArray), .int .i64 0, .int .i64 0, .int .i64 0]) (t := 34) ?hr ?_; (case hd => rfl); (case hg => rfl); (case hr => first | (go_simp; done) | (go_simp; rfl))
       intro gb151 hg w23 hbox hb
       have HS0_ := (hb.cell (World.block_lt_of_cell? _ _ (hHeld.1))).trans (hHeld.1)
       have HS1_ := (hb.cell (World.block_lt_of_cell? _ _ (hHeld.2.1))).trans (hHeld.2.1)
       have HS2_ := (hb.cell (World.block_lt_of_cell? _ _ (hHeld.2.2.1))).trans (hHeld.2.2.1)
       have HS3_ := (hb.cell (World.block_lt_of_cell? _ _ (hHeld.2.2.2))).trans (hHeld.2.2.2)
       have n0_ := mkA (Kd.R_below (by (with_reducible repeat (first | apply Kd.R_alloc | apply Kd.R_drewN | apply Kd.R_drew)); exact HO_4.out) hb)
       have n1_ := mkA (Kd.R_below (by (with_reducible repeat (first | apply Kd.R_alloc | apply Kd.R_drewN | apply Kd.R_drew)); exact HO_5.out) hb)
       have n2_ := mkA (blk_below (g := gb138) (o := .cells #[.string (⟨#[]⟩ : ByteArray), .int .i64 0, .int .i64 0, .int .i64 0] 34 (0, 0)) (bl_ BK138.out) hb)
       have n3_ := mkA (below_step (bs1_ HB.out GE138.out) hb)
       have n4_ := mkA (hbox)
       have n5_ := mkA ((by rw [hg]; exact (below_size (bs1_ HB.out GE138.out)) : w.heap.size ≤ gb151))
       have n6_ := mkA ((by rw [hg]; exact (below_size (bs1_ HB.out GE138.out)) : w.heap.size ≤ gb151))
       have n7_ := mkA ((by rw [hg]; exact Nat.ne_of_lt (blk_lt (g := gb138) (o := .cells #[.string (⟨#[]⟩ : ByteArray), .int .i64 0, .int .i64 0, .int .i64 0] 34 (0, 0)) (bl_ BK138.out)) : gb138 ≠ gb151))
       have n8_ := mkA ((by rw [hg]; exact Nat.ne_of_gt (blk_lt (g := gb138) (o := .cells #[.string (⟨#[]⟩ : ByteArray), .int .i64 0, .int .i64 0, .int .i64 0] 34 (0, 0)) (bl_ BK138.out)) : gb151 ≠ gb138))
       clear HO_4
       clear HO_5
       clear BK138
       clear HB
       have HO_4 := n0_
       have HO_5 := n1_
       have BK138 := n2_
       have HB := n3_
       have BK151 := n4_
       have GW151 := n5_
       have GE151 := n6_
       have NB138_151 := n7_
       have NB151_138 := n8_
       clear n0_ n1_ n2_ n3_ n4_ n5_ n6_ n7_ n8_
       clear hb hbox hg
       refine hK.out _ _ ⟨HS0_, HS1_, HS2_, HS3_⟩ (fun hHeld => ?_)
       clear hK K
       refine norm_ (a' := ?_) ?_ ?_
       rotate_left
       · show Act.put _ (some 7) _ = _
         simp only [Act.put, sA, sB, sC, i64_w, i32_w]
         rfl
       refine one_ (i := 14) (N := none) spec_ReadBlade.d15 rfl rfl (one_of HT_.out (by kernel_rfl)) (by decide) (fun K hK => ?_)
       have hs24 : w23.cell? ⟨gb151, 0, none⟩ = some (.string (⟨#[]⟩ : ByteArray)) := (blk_cell BK151.out 0).trans rfl
       have hfs24 := blk_frozen BK151.out 0
       have hns24_0 := NB138_151.out
       have hms24_0 := NB151_138.out
       have hs25 : w23.cell? ⟨gb151, 1, none⟩ = some (.int .i64 0) := (blk_cell BK151.out 1).trans rfl
       have hfs25 := blk_frozen BK151.out 1
       have hns25_0 := NB138_151.out
       have hms25_0 := NB151_138.out
       have hs26 : w23.cell? ⟨gb151, 2, none⟩ = some (.int .i64 0) := (blk_cell BK151.out 2).trans rfl
       have hfs26 := blk_frozen BK151.out 2
       have hns26_0 := NB138_151.out
       have hms26_0 := NB151_138.out
       have hs27 : w23.cell? ⟨gb151, 3, none⟩ = some (.int .i64 0) := (blk_cell BK151.out 3).trans rfl
       have hfs27 := blk_frozen BK151.out 3
       have hns27_0 := NB138_151.out
       have hms27_0 := NB151_138.out
       refine skip_ (w1 := ?_) (by rfl) rfl ?_ ?_
       rotate_left
       · go_simp
         rfl
       refine hK.out _ _ ⟨((cell_far (p := ⟨gb151, _, none⟩) (by first | exact Kd.own_blk (Kd.R_ne HO_4.out BK151.out (by decide)) | (rw [add_block]; exact Kd.own_blk (Kd.R_ne HO_4.out BK151.out (by decide))) | (show (Addr.add _ _).block ≠ _; rw [add_block]; exact Kd.own_blk (Kd.R_ne HO_4.out BK151.out (by decide))) | (dsimp only; exact Kd.own_blk (Kd.R_ne HO_4.out BK151.out (by decide)))) _).trans (((cell_far (p := ⟨gb151, _, none⟩) (by first | exact Kd.own_blk (Kd.R_ne HO_4.out BK151.out (by decide)) | (rw [add_block]; exact Kd.own_blk (Kd.R_ne HO_4.out BK151.out (by decide))) | (show (Addr.add _ _).block ≠ _; rw [add_block]; exact Kd.own_blk (Kd.R_ne HO_4.out BK151.out (by decide))) | (dsimp only; exact Kd.own_blk (Kd.R_ne HO_4.out BK151.out (by decide)))) _).trans (((cell_far (p := ⟨gb151, _, none⟩) (by first | exact Kd.own_blk (Kd.R_ne HO_4.out BK151.out (by decide)) | (rw [add_block]; exact Kd.own_blk (Kd.R_ne HO_4.out BK151.out (by decide))) | (show (Addr.add _ _).block ≠ _; rw [add_block]; exact Kd.own_blk (Kd.R_ne HO_4.out BK151.out (by decide))) | (dsimp only; exact Kd.own_blk (Kd.R_ne HO_4.out BK151.out (by decide)))) _).trans (((cell_far (p := ⟨gb151, _, none⟩) (by first | exact Kd.own_blk (Kd.R_ne HO_4.out BK151.out (by decide)) | (rw [add_block]; exact Kd.own_blk (Kd.R_ne HO_4.out BK151.out (by decide))) | (show (Addr.add _ _).block ≠ _; rw [add_block]; exact Kd.own_blk (Kd.R_ne HO_4.out BK151.out (by decide))) | (dsimp only; exact Kd.own_blk (Kd.R_ne HO_4.out BK151.out (by decide)))) _).trans (hHeld.1)))))))), ((cell_far (p := ⟨gb151, _, none⟩) (by first | exact Kd.own_blk (Kd.R_ne HO_5.out BK151.out (by decide)) | (rw [add_block]; exact Kd.own_blk (Kd.R_ne HO_5.out BK151.out (by decide))) | (show (Addr.add _ _).block ≠ _; rw [add_block]; exact Kd.own_blk (Kd.R_ne HO_5.out BK151.out (by decide))) | (dsimp only; exact Kd.own_blk (Kd.R_ne HO_5.out BK151.out (by decide)))) _).trans (((cell_far (p := ⟨gb151, _, none⟩) (by first | exact Kd.own_blk (Kd.R_ne HO_5.out BK151.out (by decide)) | (rw [add_block]; exact Kd.own_blk (Kd.R_ne HO_5.out BK151.out (by decide))) | (show (Addr.add _ _).block ≠ _; rw [add_block]; exact Kd.own_blk (Kd.R_ne HO_5.out BK151.out (by decide))) | (dsimp only; exact Kd.own_blk (Kd.R_ne HO_5.out BK151.out (by decide)))) _).trans (((cell_far (p := ⟨gb151, _, none⟩) (by first | exact Kd.own_blk (Kd.R_ne HO_5.out BK151.out (by decide)) | (rw [add_block]; exact Kd.own_blk (Kd.R_ne HO_5.out BK151.out (by decide))) | (show (Addr.add _ _).block ≠ _; rw [add_block]; exact Kd.own_blk (Kd.R_ne HO_5.out BK151.out (by decide))) | (dsimp only; exact Kd.own_blk (Kd.R_ne HO_5.out BK151.out (by decide)))) _).trans (((cell_far (p := ⟨gb151, _, none⟩) (by first | exact Kd.own_blk (Kd.R_ne HO_5.out BK151.out (by decide)) | (rw [add_block]; exact Kd.own_blk (Kd.R_ne HO_5.out BK151.out (by decide))) | (show (Addr.add _ _).block ≠ _; rw [add_block]; exact Kd.own_blk (Kd.R_ne HO_5.out BK151.out (by decide))) | (dsimp only; exact Kd.own_blk (Kd.R_ne HO_5.out BK151.out (by decide)))) _).trans (hHeld.2.1)))))))), ((cell_far (p := ⟨gb151, _, none⟩) (by first | exact Kd.own_blk (Kd.R_ne HO_5.out BK151.out (by decide)) | (rw [add_block]; exact Kd.own_blk (Kd.R_ne HO_5.out BK151.out (by decide))) | (show (Addr.add _ _).block ≠ _; rw [add_block]; exact Kd.own_blk (Kd.R_ne HO_5.out BK151.out (by decide))) | (dsimp only; exact Kd.own_blk (Kd.R_ne HO_5.out BK151.out (by decide)))) _).trans (((cell_far (p := ⟨gb151, _, none⟩) (by first | exact Kd.own_blk (Kd.R_ne HO_5.out BK151.out (by decide)) | (rw [add_block]; exact Kd.own_blk (Kd.R_ne HO_5.out BK151.out (by decide))) | (show (Addr.add _ _).block ≠ _; rw [add_block]; exact Kd.own_blk (Kd.R_ne HO_5.out BK151.out (by decide))) | (dsimp only; exact Kd.own_blk (Kd.R_ne HO_5.out BK151.out (by decide)))) _).trans (((cell_far (p := ⟨gb151, _, none⟩) (by first | exact Kd.own_blk (Kd.R_ne HO_5.out BK151.out (by decide)) | (rw [add_block]; exact Kd.own_blk (Kd.R_ne HO_5.out BK151.out (by decide))) | (show (Addr.add _ _).block ≠ _; rw [add_block]; exact Kd.own_blk (Kd.R_ne HO_5.out BK151.out (by decide))) | (dsimp only; exact Kd.own_blk (Kd.R_ne HO_5.out BK151.out (by decide)))) _).trans (((cell_far (p := ⟨gb151, _, none⟩) (by first | exact Kd.own_blk (Kd.R_ne HO_5.out BK151.out (by decide)) | (rw [add_block]; exact Kd.own_blk (Kd.R_ne HO_5.out BK151.out (by decide))) | (show (Addr.add _ _).block ≠ _; rw [add_block]; exact Kd.own_blk (Kd.R_ne HO_5.out BK151.out (by decide))) | (dsimp only; exact Kd.own_blk (Kd.R_ne HO_5.out BK151.out (by decide)))) _).trans (hHeld.2.2.1)))))))), ((cell_far (p := ⟨gb151, _, none⟩) (by first | exact Kd.own_blk (Kd.R_ne HO_5.out BK151.out (by decide)) | (rw [add_block]; exact Kd.own_blk (Kd.R_ne HO_5.out BK151.out (by decide))) | (show (Addr.add _ _).block ≠ _; rw [add_block]; exact Kd.own_blk (Kd.R_ne HO_5.out BK151.out (by decide))) | (dsimp only; exact Kd.own_blk (Kd.R_ne HO_5.out BK151.out (by decide)))) _).trans (((cell_far (p := ⟨gb151, _, none⟩) (by first | exact Kd.own_blk (Kd.R_ne HO_5.out BK151.out (by decide)) | (rw [add_block]; exact Kd.own_blk (Kd.R_ne HO_5.out BK151.out (by decide))) | (show (Addr.add _ _).block ≠ _; rw [add_block]; exact Kd.own_blk (Kd.R_ne HO_5.out BK151.out (by decide))) | (dsimp only; exact Kd.own_blk (Kd.R_ne HO_5.out BK151.out (by decide)))) _).trans (((cell_far (p := ⟨gb151, _, none⟩) (by first | exact Kd.own_blk (Kd.R_ne HO_5.out BK151.out (by decide)) | (rw [add_block]; exact Kd.own_blk (Kd.R_ne HO_5.out BK151.out (by decide))) | (show (Addr.add _ _).block ≠ _; rw [add_block]; exact Kd.own_blk (Kd.R_ne HO_5.out BK151.out (by decide))) | (dsimp only; exact Kd.own_blk (Kd.R_ne HO_5.out BK151.out (by decide)))) _).trans (((cell_far (p := ⟨gb151, _, none⟩) (by first | exact Kd.own_blk (Kd.R_ne HO_5.out BK151.out (by decide)) | (rw [add_block]; exact Kd.own_blk (Kd.R_ne HO_5.out BK151.out (by decide))) | (show (Addr.add _ _).block ≠ _; rw [add_block]; exact Kd.own_blk (Kd.R_ne HO_5.out BK151.out (by decide))) | (dsimp only; exact Kd.own_blk (Kd.R_ne HO_5.out BK151.out (by decide)))) _).trans (hHeld.2.2.2))))))))⟩ (fun hHeld => ?_)
       clear hK K
       refine done_ (done_of HT_.out (by kernel_rfl)) ?_
       try go_wp2_with (first | ((with_reducible refine gate_callee (f := 23) rfl ?_); refine goesL_ (some 42) rfl rfl Tryd.func23 (by kernel_rfl) rfl #[.pointer (some ⟨gb151, 0, none⟩)] rfl (by (try simp only [List.map_toArray, List.map_cons, List.map_nil]); first | done | rfl | (simp only [List.length_drop, List.length_take]; rfl)) ?_; (with_reducible refine (spec_l16Ok.calls kj5 _ [(⟨rdOf ByteArray.empty t139 0, rd t143 0, rd t143 1, rd t143 2⟩ : S34)] true _ ?side1 A19.out).mono ?_); (case side1 => exact Go.Proofs.YtjmjbmahljlnlaaDoorX.rp_box (t := 34) (fr := (0, 0)) (by (with_reducible repeat (first | refine blk_drewN ?_ _ | refine blk_drew ?_ | refine blk_alloc ?_ _)); refine blk_put (cs := #[.string (rdOf ByteArray.empty t139 0), .int .i64 (rd t143 0), .int .i64 (rd t143 1), .int .i64 0]) ?_ 3 _ rfl; (with_reducible repeat (first | refine blk_drewN ?_ _ | refine blk_drew ?_ | refine blk_alloc ?_ _)); refine blk_put (cs := #[.string (rdOf ByteArray.empty t139 0), .int .i64 (rd t143 0), .int .i64 0, .int .i64 0]) ?_ 2 _ rfl; (with_reducible repeat (first | refine blk_drewN ?_ _ | refine blk_drew ?_ | refine blk_alloc ?_ _)); refine blk_put (cs := #[.string (rdOf ByteArray.empty t139 0), .int .i64 0, .int .i64 0, .int .i64 0]) ?_ 1 _ rfl; (with_reducible repeat (first | refine blk_drewN ?_ _ | refine blk_drew ?_ | refine blk_alloc ?_ _)); refine blk_put (cs := #[.string (⟨#[]⟩ : ByteArray), .int .i64 0, .int .i64 0, .int .i64 0]) ?_ 0 _ rfl; (with_reducible repeat (first | refine blk_drewN ?_ _ | refine blk_drew ?_ | refine blk_alloc ?_ _)); exact BK151.out) (k34_mk _ (⟨rdOf ByteArray.empty t139 0, rd t143 0, rd t143 1, rd t143 2⟩ : S34) )); rintro e w' ⟨rfl, ⟨nd, rfl⟩⟩; refine ⟨_, rfl, ?_⟩; have hnb28 := NB151_138.out; have hnc28 := NB138_151.out; have hcz29_0 : w23.cell? ⟨gb151, 0, none⟩ = some (.string (⟨#[]⟩ : ByteArray)) := (blk_cell BK151.out 0).trans rfl; have hcz29_1 : w23.cell? ⟨gb151, 1, none⟩ = some (.int .i64 0) := (blk_cell BK151.out 1).trans rfl; have hcz29_2 : w23.cell? ⟨gb151, 2, none⟩ = some (.int .i64 0) := (blk_cell BK151.out 2).trans rfl; have hcz29_3 : w23.cell? ⟨gb151, 3, none⟩ = some (.int .i64 0) := (blk_cell BK151.out 3).trans rfl; have hfz29_0 := blk_frozen BK151.out 0; have hfz29_1 := blk_frozen BK151.out 1; have hfz29_2 := blk_frozen BK151.out 2; have hfz29_3 := blk_frozen BK151.out 3; have hcz30_0 : w23.cell? ⟨gb138, 0, none⟩ = some (.string (⟨#[]⟩ : ByteArray)) := (blk_cell BK138.out 0).trans rfl; have hcz30_1 : w23.cell? ⟨gb138, 1, none⟩ = some (.int .i64 0) := (blk_cell BK138.out 1).trans rfl; have hcz30_2 : w23.cell? ⟨gb138, 2, none⟩ = some (.int .i64 0) := (blk_cell BK138.out 2).trans rfl; have hcz30_3 : w23.cell? ⟨gb138, 3, none⟩ = some (.int .i64 0) := (blk_cell BK138.out 3).trans rfl; have hfz30_0 := blk_frozen BK138.out 0; have hfz30_1 := blk_frozen BK138.out 1; have hfz30_2 := blk_frozen BK138.out 2; have hfz30_3 := blk_frozen BK138.out 3))
       refine bodyPost_ret (results_ct rfl _ _ gb138 34 #[.string (rdOf ByteArray.empty t139 0), .int .i64 (rd t143 0), .int .i64 (rd t143 1), .int .i64 (rd t143 2)] (0, 0) _ rfl (by (with_reducible repeat (first | refine blk_drewN ?_ _ | refine blk_drew ?_ | refine blk_alloc ?_ _)); refine blk_put (cs := #[.string (rdOf ByteArray.empty t139 0), .int .i64 (rd t143 0), .int .i64 (rd t143 1), .int .i64 0]) ?_ 3 _ rfl; (with_reducible repeat (first | refine blk_drewN ?_ _ | refine blk_drew ?_ | refine blk_alloc ?_ _)); refine blk_put (cs := #[.string (rdOf ByteArray.empty t139 0), .int .i64 (rd t143 0), .int .i64 0, .int .i64 0]) ?_ 2 _ rfl; (with_reducible repeat (first | refine blk_drewN ?_ _ | refine blk_drew ?_ | refine blk_alloc ?_ _)); refine blk_put (cs := #[.string (rdOf ByteArray.empty t139 0), .int .i64 0, .int .i64 0, .int .i64 0]) ?_ 1 _ rfl; (with_reducible repeat (first | refine blk_drewN ?_ _ | refine blk_drew ?_ | refine blk_alloc ?_ _)); refine blk_put (cs := #[.string (⟨#[]⟩ : ByteArray), .int .i64 0, .int .i64 0, .int .i64 0]) ?_ 0 _ rfl; (with_reducible repeat (first | refine blk_drewN ?_ _ | refine blk_drew ?_ | refine blk_alloc ?_ _)); refine blk_far ?_ NB138_151.out _; (with_reducible repeat (first | refine blk_drewN ?_ _ | refine blk_drew ?_ | refine blk_alloc ?_ _)); refine blk_far ?_ NB138_151.out _; (with_reducible repeat (first | refine blk_drewN ?_ _ | refine blk_drew ?_ | refine blk_alloc ?_ _)); refine blk_far ?_ NB138_151.out _; (with_reducible repeat (first | refine blk_drewN ?_ _ | refine blk_drew ?_ | refine blk_alloc ?_ _)); refine blk_far ?_ NB138_151.out _; (with_reducible repeat (first | refine blk_drewN ?_ _ | refine blk_drew ?_ | refine blk_alloc ?_ _)); exact BK138.out) Tryd.underlying34 rfl (by kernel_rfl)) rfl ?_
       exact ⟨by first | rfl | (simp [errW_none, errW_some] <;> rfl) | (simp [*, errW_none, errW_some] <;> rfl), by repeat (first | (with_reducible first | exact HB.out | apply below_alloc | apply pw_below_drewN | apply below_drew1 | refine below_set ?_ GE138.out | refine below_set ?_ GE151.out) | exact HB.out)⟩
     · replace c20 := Bool.eq_false_iff.mpr c20
       subst c20
       have H1 : (some ((⟨#[]⟩ : ByteArray), 0, 0, 0, false)) = some (r1, r2, r3, r4, r5) := by rw [if_neg (show ¬ (false = true) by decide)] at H; exact H
       clear H
       have H := H1
       clear H1
       simp only [Option.some.injEq, Prod.mk.injEq] at H
       obtain ⟨rfl, rfl, rfl, rfl, rfl⟩ := H
       try go_wp2
       have n0_ := mkA (Kd.R_drew HO_4.out)
       have n1_ := mkA (Kd.R_drew HO_5.out)
       have n2_ := mkA (blk_drew BK138.out)
       have n3_ := mkA (below_drew1 HB.out)
       clear HO_4
       clear HO_5
       clear BK138
       clear HB
       have HO_4 := n0_
       have HO_5 := n1_
       have BK138 := n2_
       have HB := n3_
       clear n0_ n1_ n2_ n3_
       have p147 : 0 ≤ (0 : Int) := (by omega)
       have q147 : 0 < (t139.length : Int) := dt_
       obtain ⟨ad147, e147, hx147_0⟩ := Kd.at_string (Kd.R_reads' HO_4.out).2.2 0 p147 q147
       obtain rfl : ad142 = ad147 := (by injection e147)
       have qi147 : (0 < t139.length) = True := eq_true (by omega)
       (try rw [show ((0 : Int)).toNat = 0 from rfl] at hx147_0)
       (try rw [Addr.add_zero'] at hx147_0)
       replace p147 := eq_true p147
       replace q147 := eq_true q147
       obtain ⟨Ao32, co32, eo32⟩ := Kd.R_slice HO_5.out
       (first | subst eo32 | (injection eo32 with f1_ f2_ f3_; have f4_ := f1_.symm; have f5_ := f3_.symm; clear f1_ f2_ f3_; subst f4_; subst f5_))
       have p148 : 0 ≤ (0 : Int) := (by omega)
       have q148 : 0 < (t143.length : Int) := dt_
       obtain ⟨ad148, e148, hx148_0⟩ := Kd.at_int (Kd.R_reads' HO_5.out).2.2 0 p148 q148
       cases e148
       have qi148 : (0 < t143.length) = True := eq_true (by omega)
       (try rw [show ((0 : Int)).toNat = 0 from rfl] at hx148_0)
       (try rw [Addr.add_zero'] at hx148_0)
       replace p148 := eq_true p148
       replace q148 := eq_true q148
       have p149 : 0 ≤ (1 : Int) := (by omega)
       have q149 : 1 < (t143.length : Int) := dt_
       obtain ⟨ad149, e149, hx149_0⟩ := Kd.at_int (Kd.R_reads' HO_5.out).2.2 1 p149 q149
       obtain rfl : ad148 = ad149 := (by injection e149)
       (try simp only [show (1 : Int).toNat = 1 from rfl, Nat.reduceMul, Nat.reduceEqDiff, Go.Addr.add, ↓reduceIte] at hx149_0)
       have qi149 : (1 < t143.length) = True := eq_true (by omega)
       (try rw [show ((1 : Int)).toNat = 1 from rfl] at hx149_0)
       replace p149 := eq_true p149
       replace q149 := eq_true q149
       have p150 : 0 ≤ (2 : Int) := (by omega)
       have q150 : 2 < (t143.length : Int) := dt_
       obtain ⟨ad150, e150, hx150_0⟩ := Kd.at_int (Kd.R_reads' HO_5.out).2.2 2 p150 q150
       obtain rfl : ad148 = ad150 := (by injection e150)
       (try simp only [show (2 : Int).toNat = 2 from rfl, Nat.reduceMul, Nat.reduceEqDiff, Go.Addr.add, ↓reduceIte] at hx150_0)
       have qi150 : (2 < t143.length) = True := eq_true (by omega)
       (try rw [show ((2 : Int)).toNat = 2 from rfl] at hx150_0)
       replace p150 := eq_true p150
       replace q150 := eq_true q150
       refine start_ (n := 15) (S := fun w' => w'.cell? ad142 = some (.string (rdOf ByteArray.empty t139 0)) ∧ w'.cell? ad148 = some (.int .i64 (rd t143 0)) ∧ w'.cell? ⟨ad148.block, ad148.off + 1, none⟩ = some (.int .i64 (rd t143 1)) ∧ w'.cell? ⟨ad148.block, ad148.off + 2, none⟩ = some (.int .i64 (rd t143 2))) (ds := []) spec_ReadBlade.d0 (by kernel_rfl) rfl rfl ⟨hx147_0, hx148_0, hx149_0, hx150_0⟩ (fun hHeld => ?_); refine with_tabW spec_ReadBlade.tab7 spec_ReadBlade.bits7 (fun HT_ HW_ => ?_)
       generalize wc.drew = w31 at HO_4 HO_5 BK138 HB hx147_0 hx148_0 hx149_0 hx150_0 hHeld ⊢
       refine p1_ HT_.out 0 29 spec_ReadBlade.d1 ?_
       refine p1_ HT_.out 1 30 spec_ReadBlade.d2 ?_
       refine p1_ HT_.out 3 32 spec_ReadBlade.d3 ?_
       refine p1_ HT_.out 4 33 spec_ReadBlade.d4 ?_
       refine p1_ HT_.out 6 35 spec_ReadBlade.d5 ?_
       refine p1_ HT_.out 7 36 spec_ReadBlade.d6 ?_
       refine p1_ HT_.out 9 38 spec_ReadBlade.d7 ?_
       refine p1_ HT_.out 10 39 spec_ReadBlade.d8 ?_
       refine take_ (i := 2) (N := some 31) (v := ?_) (a' := ?_) spec_ReadBlade.d9 rfl rfl (take_ofW HT_.out HW_.out (by kernel_rfl)) (fun _ _ _ h => h) (Or.inl ⟨by rfl, ?_⟩) hHeld ?_ ?_
       rotate_left
       · rintro w' ⟨s0, s1, s2, s3⟩
         go_simp
         with_reducible rfl
       rotate_left
       · simp only [Act.put, sA, sB, sC, i64_w, i32_w]
         rfl
       refine take_ (i := 5) (N := some 34) (v := ?_) (a' := ?_) spec_ReadBlade.d10 rfl rfl (take_ofW HT_.out HW_.out (by kernel_rfl)) (fun _ _ _ h => h) (Or.inl ⟨by rfl, ?_⟩) hHeld ?_ ?_
       rotate_left
       · rintro w' ⟨s0, s1, s2, s3⟩
         go_simp
         with_reducible rfl
       rotate_left
       · simp only [Act.put, sA, sB, sC, i64_w, i32_w]
         rfl
       refine take_ (i := 8) (N := some 37) (v := ?_) (a' := ?_) spec_ReadBlade.d11 rfl rfl (take_ofW HT_.out HW_.out (by kernel_rfl)) (fun _ _ _ h => h) (Or.inl ⟨by rfl, ?_⟩) hHeld ?_ ?_
       rotate_left
       · rintro w' ⟨s0, s1, s2, s3⟩
         go_simp
         with_reducible rfl
       rotate_left
       · simp only [Act.put, sA, sB, sC, i64_w, i32_w]
         rfl
       refine take_ (i := 11) (N := some 40) (v := ?_) (a' := ?_) spec_ReadBlade.d12 rfl rfl (take_ofW HT_.out HW_.out (by kernel_rfl)) (fun _ _ _ h => h) (Or.inl ⟨by rfl, ?_⟩) hHeld ?_ ?_
       rotate_left
       · rintro w' ⟨s0, s1, s2, s3⟩
         go_simp
         with_reducible rfl
       rotate_left
       · simp only [Act.put, sA, sB, sC, i64_w, i32_w]
         rfl
       refine p1_ HT_.out 12 41 spec_ReadBlade.d13 ?_
       refine one_ (i := 13) (N := some 7) spec_ReadBlade.d14 rfl rfl (one_of HT_.out (by kernel_rfl)) (by decide) (fun K hK => ?_)
       refine box_step ?hg (N := 7) ?hd (cs := #[.string (⟨#[]⟩ : ByteArray), .int .i64 0, .int .i64 0, .int .i64 0]) (t := 34) ?hr ?_; (case hd => rfl); (case hg => rfl); (case hr => first | (go_simp; done) | (go_simp; rfl))
       intro gb151 hg w33 hbox hb
       have HS0_ := (hb.cell (World.block_lt_of_cell? _ _ (hHeld.1))).trans (hHeld.1)
       have HS1_ := (hb.cell (World.block_lt_of_cell? _ _ (hHeld.2.1))).trans (hHeld.2.1)
       have HS2_ := (hb.cell (World.block_lt_of_cell? _ _ (hHeld.2.2.1))).trans (hHeld.2.2.1)
       have HS3_ := (hb.cell (World.block_lt_of_cell? _ _ (hHeld.2.2.2))).trans (hHeld.2.2.2)
       have n0_ := mkA (Kd.R_below (by (with_reducible repeat (first | apply Kd.R_alloc | apply Kd.R_drewN | apply Kd.R_drew)); exact HO_4.out) hb)
       have n1_ := mkA (Kd.R_below (by (with_reducible repeat (first | apply Kd.R_alloc | apply Kd.R_drewN | apply Kd.R_drew)); exact HO_5.out) hb)
       have n2_ := mkA (blk_below (g := gb138) (o := .cells #[.string (⟨#[]⟩ : ByteArray), .int .i64 0, .int .i64 0, .int .i64 0] 34 (0, 0)) (bl_ BK138.out) hb)
       have n3_ := mkA (below_step (bs1_ HB.out GE138.out) hb)
       have n4_ := mkA (hbox)
       have n5_ := mkA ((by rw [hg]; exact (below_size (bs1_ HB.out GE138.out)) : w.heap.size ≤ gb151))
       have n6_ := mkA ((by rw [hg]; exact (below_size (bs1_ HB.out GE138.out)) : w.heap.size ≤ gb151))
       have n7_ := mkA ((by rw [hg]; exact Nat.ne_of_lt (blk_lt (g := gb138) (o := .cells #[.string (⟨#[]⟩ : ByteArray), .int .i64 0, .int .i64 0, .int .i64 0] 34 (0, 0)) (bl_ BK138.out)) : gb138 ≠ gb151))
       have n8_ := mkA ((by rw [hg]; exact Nat.ne_of_gt (blk_lt (g := gb138) (o := .cells #[.string (⟨#[]⟩ : ByteArray), .int .i64 0, .int .i64 0, .int .i64 0] 34 (0, 0)) (bl_ BK138.out)) : gb151 ≠ gb138))
       clear HO_4
       clear HO_5
       clear BK138
       clear HB
       have HO_4 := n0_
       have HO_5 := n1_
       have BK138 := n2_
       have HB := n3_
       have BK151 := n4_
       have GW151 := n5_
       have GE151 := n6_
       have NB138_151 := n7_
       have NB151_138 := n8_
       clear n0_ n1_ n2_ n3_ n4_ n5_ n6_ n7_ n8_
       clear hb hbox hg
       refine hK.out _ _ ⟨HS0_, HS1_, HS2_, HS3_⟩ (fun hHeld => ?_)
       clear hK K
       refine norm_ (a' := ?_) ?_ ?_
       rotate_left
       · show Act.put _ (some 7) _ = _
         simp only [Act.put, sA, sB, sC, i64_w, i32_w]
         rfl
       refine one_ (i := 14) (N := none) spec_ReadBlade.d15 rfl rfl (one_of HT_.out (by kernel_rfl)) (by decide) (fun K hK => ?_)
       have hs34 : w33.cell? ⟨gb151, 0, none⟩ = some (.string (⟨#[]⟩ : ByteArray)) := (blk_cell BK151.out 0).trans rfl
       have hfs34 := blk_frozen BK151.out 0
       have hns34_0 := NB138_151.out
       have hms34_0 := NB151_138.out
       have hs35 : w33.cell? ⟨gb151, 1, none⟩ = some (.int .i64 0) := (blk_cell BK151.out 1).trans rfl
       have hfs35 := blk_frozen BK151.out 1
       have hns35_0 := NB138_151.out
       have hms35_0 := NB151_138.out
       have hs36 : w33.cell? ⟨gb151, 2, none⟩ = some (.int .i64 0) := (blk_cell BK151.out 2).trans rfl
       have hfs36 := blk_frozen BK151.out 2
       have hns36_0 := NB138_151.out
       have hms36_0 := NB151_138.out
       have hs37 : w33.cell? ⟨gb151, 3, none⟩ = some (.int .i64 0) := (blk_cell BK151.out 3).trans rfl
       have hfs37 := blk_frozen BK151.out 3
       have hns37_0 := NB138_151.out
       have hms37_0 := NB151_138.out
       refine skip_ (w1 := ?_) (by rfl) rfl ?_ ?_
       rotate_left
       · go_simp
         rfl
       refine hK.out _ _ ⟨((cell_far (p := ⟨gb151, _, none⟩) (by first | exact Kd.own_blk (Kd.R_ne HO_4.out BK151.out (by decide)) | (rw [add_block]; exact Kd.own_blk (Kd.R_ne HO_4.out BK151.out (by decide))) | (show (Addr.add _ _).block ≠ _; rw [add_block]; exact Kd.own_blk (Kd.R_ne HO_4.out BK151.out (by decide))) | (dsimp only; exact Kd.own_blk (Kd.R_ne HO_4.out BK151.out (by decide)))) _).trans (((cell_far (p := ⟨gb151, _, none⟩) (by first | exact Kd.own_blk (Kd.R_ne HO_4.out BK151.out (by decide)) | (rw [add_block]; exact Kd.own_blk (Kd.R_ne HO_4.out BK151.out (by decide))) | (show (Addr.add _ _).block ≠ _; rw [add_block]; exact Kd.own_blk (Kd.R_ne HO_4.out BK151.out (by decide))) | (dsimp only; exact Kd.own_blk (Kd.R_ne HO_4.out BK151.out (by decide)))) _).trans (((cell_far (p := ⟨gb151, _, none⟩) (by first | exact Kd.own_blk (Kd.R_ne HO_4.out BK151.out (by decide)) | (rw [add_block]; exact Kd.own_blk (Kd.R_ne HO_4.out BK151.out (by decide))) | (show (Addr.add _ _).block ≠ _; rw [add_block]; exact Kd.own_blk (Kd.R_ne HO_4.out BK151.out (by decide))) | (dsimp only; exact Kd.own_blk (Kd.R_ne HO_4.out BK151.out (by decide)))) _).trans (((cell_far (p := ⟨gb151, _, none⟩) (by first | exact Kd.own_blk (Kd.R_ne HO_4.out BK151.out (by decide)) | (rw [add_block]; exact Kd.own_blk (Kd.R_ne HO_4.out BK151.out (by decide))) | (show (Addr.add _ _).block ≠ _; rw [add_block]; exact Kd.own_blk (Kd.R_ne HO_4.out BK151.out (by decide))) | (dsimp only; exact Kd.own_blk (Kd.R_ne HO_4.out BK151.out (by decide)))) _).trans (hHeld.1)))))))), ((cell_far (p := ⟨gb151, _, none⟩) (by first | exact Kd.own_blk (Kd.R_ne HO_5.out BK151.out (by decide)) | (rw [add_block]; exact Kd.own_blk (Kd.R_ne HO_5.out BK151.out (by decide))) | (show (Addr.add _ _).block ≠ _; rw [add_block]; exact Kd.own_blk (Kd.R_ne HO_5.out BK151.out (by decide))) | (dsimp only; exact Kd.own_blk (Kd.R_ne HO_5.out BK151.out (by decide)))) _).trans (((cell_far (p := ⟨gb151, _, none⟩) (by first | exact Kd.own_blk (Kd.R_ne HO_5.out BK151.out (by decide)) | (rw [add_block]; exact Kd.own_blk (Kd.R_ne HO_5.out BK151.out (by decide))) | (show (Addr.add _ _).block ≠ _; rw [add_block]; exact Kd.own_blk (Kd.R_ne HO_5.out BK151.out (by decide))) | (dsimp only; exact Kd.own_blk (Kd.R_ne HO_5.out BK151.out (by decide)))) _).trans (((cell_far (p := ⟨gb151, _, none⟩) (by first | exact Kd.own_blk (Kd.R_ne HO_5.out BK151.out (by decide)) | (rw [add_block]; exact Kd.own_blk (Kd.R_ne HO_5.out BK151.out (by decide))) | (show (Addr.add _ _).block ≠ _; rw [add_block]; exact Kd.own_blk (Kd.R_ne HO_5.out BK151.out (by decide))) | (dsimp only; exact Kd.own_blk (Kd.R_ne HO_5.out BK151.out (by decide)))) _).trans (((cell_far (p := ⟨gb151, _, none⟩) (by first | exact Kd.own_blk (Kd.R_ne HO_5.out BK151.out (by decide)) | (rw [add_block]; exact Kd.own_blk (Kd.R_ne HO_5.out BK151.out (by decide))) | (show (Addr.add _ _).block ≠ _; rw [add_block]; exact Kd.own_blk (Kd.R_ne HO_5.out BK151.out (by decide))) | (dsimp only; exact Kd.own_blk (Kd.R_ne HO_5.out BK151.out (by decide)))) _).trans (hHeld.2.1)))))))), ((cell_far (p := ⟨gb151, _, none⟩) (by first | exact Kd.own_blk (Kd.R_ne HO_5.out BK151.out (by decide)) | (rw [add_block]; exact Kd.own_blk (Kd.R_ne HO_5.out BK151.out (by decide))) | (show (Addr.add _ _).block ≠ _; rw [add_block]; exact Kd.own_blk (Kd.R_ne HO_5.out BK151.out (by decide))) | (dsimp only; exact Kd.own_blk (Kd.R_ne HO_5.out BK151.out (by decide)))) _).trans (((cell_far (p := ⟨gb151, _, none⟩) (by first | exact Kd.own_blk (Kd.R_ne HO_5.out BK151.out (by decide)) | (rw [add_block]; exact Kd.own_blk (Kd.R_ne HO_5.out BK151.out (by decide))) | (show (Addr.add _ _).block ≠ _; rw [add_block]; exact Kd.own_blk (Kd.R_ne HO_5.out BK151.out (by decide))) | (dsimp only; exact Kd.own_blk (Kd.R_ne HO_5.out BK151.out (by decide)))) _).trans (((cell_far (p := ⟨gb151, _, none⟩) (by first | exact Kd.own_blk (Kd.R_ne HO_5.out BK151.out (by decide)) | (rw [add_block]; exact Kd.own_blk (Kd.R_ne HO_5.out BK151.out (by decide))) | (show (Addr.add _ _).block ≠ _; rw [add_block]; exact Kd.own_blk (Kd.R_ne HO_5.out BK151.out (by decide))) | (dsimp only; exact Kd.own_blk (Kd.R_ne HO_5.out BK151.out (by decide)))) _).trans (((cell_far (p := ⟨gb151, _, none⟩) (by first | exact Kd.own_blk (Kd.R_ne HO_5.out BK151.out (by decide)) | (rw [add_block]; exact Kd.own_blk (Kd.R_ne HO_5.out BK151.out (by decide))) | (show (Addr.add _ _).block ≠ _; rw [add_block]; exact Kd.own_blk (Kd.R_ne HO_5.out BK151.out (by decide))) | (dsimp only; exact Kd.own_blk (Kd.R_ne HO_5.out BK151.out (by decide)))) _).trans (hHeld.2.2.1)))))))), ((cell_far (p := ⟨gb151, _, none⟩) (by first | exact Kd.own_blk (Kd.R_ne HO_5.out BK151.out (by decide)) | (rw [add_block]; exact Kd.own_blk (Kd.R_ne HO_5.out BK151.out (by decide))) | (show (Addr.add _ _).block ≠ _; rw [add_block]; exact Kd.own_blk (Kd.R_ne HO_5.out BK151.out (by decide))) | (dsimp only; exact Kd.own_blk (Kd.R_ne HO_5.out BK151.out (by decide)))) _).trans (((cell_far (p := ⟨gb151, _, none⟩) (by first | exact Kd.own_blk (Kd.R_ne HO_5.out BK151.out (by decide)) | (rw [add_block]; exact Kd.own_blk (Kd.R_ne HO_5.out BK151.out (by decide))) | (show (Addr.add _ _).block ≠ _; rw [add_block]; exact Kd.own_blk (Kd.R_ne HO_5.out BK151.out (by decide))) | (dsimp only; exact Kd.own_blk (Kd.R_ne HO_5.out BK151.out (by decide)))) _).trans (((cell_far (p := ⟨gb151, _, none⟩) (by first | exact Kd.own_blk (Kd.R_ne HO_5.out BK151.out (by decide)) | (rw [add_block]; exact Kd.own_blk (Kd.R_ne HO_5.out BK151.out (by decide))) | (show (Addr.add _ _).block ≠ _; rw [add_block]; exact Kd.own_blk (Kd.R_ne HO_5.out BK151.out (by decide))) | (dsimp only; exact Kd.own_blk (Kd.R_ne HO_5.out BK151.out (by decide)))) _).trans (((cell_far (p := ⟨gb151, _, none⟩) (by first | exact Kd.own_blk (Kd.R_ne HO_5.out BK151.out (by decide)) | (rw [add_block]; exact Kd.own_blk (Kd.R_ne HO_5.out BK151.out (by decide))) | (show (Addr.add _ _).block ≠ _; rw [add_block]; exact Kd.own_blk (Kd.R_ne HO_5.out BK151.out (by decide))) | (dsimp only; exact Kd.own_blk (Kd.R_ne HO_5.out BK151.out (by decide)))) _).trans (hHeld.2.2.2))))))))⟩ (fun hHeld => ?_)
       clear hK K
       refine done_ (done_of HT_.out (by kernel_rfl)) ?_
       try go_wp2_with (first | ((with_reducible refine gate_callee (f := 23) rfl ?_); refine goesL_ (some 42) rfl rfl Tryd.func23 (by kernel_rfl) rfl #[.pointer (some ⟨gb151, 0, none⟩)] rfl (by (try simp only [List.map_toArray, List.map_cons, List.map_nil]); first | done | rfl | (simp only [List.length_drop, List.length_take]; rfl)) ?_; (with_reducible refine (spec_l16Ok.calls kj5 _ [(⟨rdOf ByteArray.empty t139 0, rd t143 0, rd t143 1, rd t143 2⟩ : S34)] false _ ?side1 A19.out).mono ?_); (case side1 => exact Go.Proofs.YtjmjbmahljlnlaaDoorX.rp_box (t := 34) (fr := (0, 0)) (by (with_reducible repeat (first | refine blk_drewN ?_ _ | refine blk_drew ?_ | refine blk_alloc ?_ _)); refine blk_put (cs := #[.string (rdOf ByteArray.empty t139 0), .int .i64 (rd t143 0), .int .i64 (rd t143 1), .int .i64 0]) ?_ 3 _ rfl; (with_reducible repeat (first | refine blk_drewN ?_ _ | refine blk_drew ?_ | refine blk_alloc ?_ _)); refine blk_put (cs := #[.string (rdOf ByteArray.empty t139 0), .int .i64 (rd t143 0), .int .i64 0, .int .i64 0]) ?_ 2 _ rfl; (with_reducible repeat (first | refine blk_drewN ?_ _ | refine blk_drew ?_ | refine blk_alloc ?_ _)); refine blk_put (cs := #[.string (rdOf ByteArray.empty t139 0), .int .i64 0, .int .i64 0, .int .i64 0]) ?_ 1 _ rfl; (with_reducible repeat (first | refine blk_drewN ?_ _ | refine blk_drew ?_ | refine blk_alloc ?_ _)); refine blk_put (cs := #[.string (⟨#[]⟩ : ByteArray), .int .i64 0, .int .i64 0, .int .i64 0]) ?_ 0 _ rfl; (with_reducible repeat (first | refine blk_drewN ?_ _ | refine blk_drew ?_ | refine blk_alloc ?_ _)); exact BK151.out) (k34_mk _ (⟨rdOf ByteArray.empty t139 0, rd t143 0, rd t143 1, rd t143 2⟩ : S34) )); rintro e w' ⟨rfl, ⟨nd, rfl⟩⟩; refine ⟨_, rfl, ?_⟩; have hnb38 := NB138_151.out; have hnc38 := NB151_138.out; have hcz39_0 : w33.cell? ⟨gb138, 0, none⟩ = some (.string (⟨#[]⟩ : ByteArray)) := (blk_cell BK138.out 0).trans rfl; have hcz39_1 : w33.cell? ⟨gb138, 1, none⟩ = some (.int .i64 0) := (blk_cell BK138.out 1).trans rfl; have hcz39_2 : w33.cell? ⟨gb138, 2, none⟩ = some (.int .i64 0) := (blk_cell BK138.out 2).trans rfl; have hcz39_3 : w33.cell? ⟨gb138, 3, none⟩ = some (.int .i64 0) := (blk_cell BK138.out 3).trans rfl; have hfz39_0 := blk_frozen BK138.out 0; have hfz39_1 := blk_frozen BK138.out 1; have hfz39_2 := blk_frozen BK138.out 2; have hfz39_3 := blk_frozen BK138.out 3))
       refine bodyPost_ret (results_ct rfl _ _ gb138 34 #[.string (⟨#[]⟩ : ByteArray), .int .i64 0, .int .i64 0, .int .i64 0] (0, 0) _ rfl (by (with_reducible repeat (first | refine blk_drewN ?_ _ | refine blk_drew ?_ | refine blk_alloc ?_ _)); refine blk_put (cs := #[.string (⟨#[]⟩ : ByteArray), .int .i64 0, .int .i64 0, .int .i64 0]) ?_ 3 _ rfl; (with_reducible repeat (first | refine blk_drewN ?_ _ | refine blk_drew ?_ | refine blk_alloc ?_ _)); refine blk_put (cs := #[.string (⟨#[]⟩ : ByteArray), .int .i64 0, .int .i64 0, .int .i64 0]) ?_ 2 _ rfl; (with_reducible repeat (first | refine blk_drewN ?_ _ | refine blk_drew ?_ | refine blk_alloc ?_ _)); refine blk_put (cs := #[.string (⟨#[]⟩ : ByteArray), .int .i64 0, .int .i64 0, .int .i64 0]) ?_ 1 _ rfl; (with_reducible repeat (first | refine blk_drewN ?_ _ | refine blk_drew ?_ | refine blk_alloc ?_ _)); refine blk_put (cs := #[.string (⟨#[]⟩ : ByteArray), .int .i64 0, .int .i64 0, .int .i64 0]) ?_ 0 _ rfl; (with_reducible repeat (first | refine blk_drewN ?_ _ | refine blk_drew ?_ | refine blk_alloc ?_ _)); refine blk_far ?_ NB138_151.out _; (with_reducible repeat (first | refine blk_drewN ?_ _ | refine blk_drew ?_ | refine blk_alloc ?_ _)); refine blk_far ?_ NB138_151.out _; (with_reducible repeat (first | refine blk_drewN ?_ _ | refine blk_drew ?_ | refine blk_alloc ?_ _)); refine blk_far ?_ NB138_151.out _; (with_reducible repeat (first | refine blk_drewN ?_ _ | refine blk_drew ?_ | refine blk_alloc ?_ _)); refine blk_far ?_ NB138_151.out _; (with_reducible repeat (first | refine blk_drewN ?_ _ | refine blk_drew ?_ | refine blk_alloc ?_ _)); exact BK138.out) Tryd.underlying34 rfl (by kernel_rfl)) rfl ?_
       exact ⟨by first | rfl | (simp [errW_none, errW_some] <;> rfl) | (simp [*, errW_none, errW_some] <;> rfl), by repeat (first | (with_reducible first | exact HB.out | apply below_alloc | apply pw_below_drewN | apply below_drew1 | refine below_set ?_ GE138.out | refine below_set ?_ GE151.out) | exact HB.out)⟩
/-! ### impl_within: function 29 -/
def impl_within.f (a0 : Int) (a1 : Int) (a2 : Int) : Option (Bool) := if a0 ≥ a1 then (some (decide (a0 ≤ a2))) else (some false)
set_option maxHeartbeats 8000000 in
set_option maxRecDepth 100000 in
theorem impl_within.calls (a0 : Int) (a1 : Int) (a2 : Int) (r : Bool) (w : World) (h : impl_within.f a0 a1 a2 = some r) :
    Calls Tryd.prog 29 #[.int .i64 a0, .int .i64 a1, .int .i64 a2] w fun e w' => e = .returned (.bool r) ∧ Drawn0 w w' := by
  have H : (if a0 ≥ a1 then (some (decide (a0 ≤ a2))) else (some false)) = some r := h
  clear h
  by_cases c4 : a0 ≥ a1
  · rw [if_pos c4] at H
    have c4b0 : decide (a1 ≤ a0) = true := decide_eq_true c4
    clear c4
    obtain rfl := Option.some.inj H
    go_enter Tryd.func29, Tryd.ntmps29
    go_wp2
    go_ret
    exact ⟨by first | rfl | (simp; done) | (simp [*]; done) | (simp [i64_w, i32_w]; done), by repeat (first | exact Drawn0.refl _ | apply Drawn0.step)⟩
  · rw [if_neg c4] at H
    have c4b0 : decide (a1 ≤ a0) = false := decide_eq_false c4
    clear c4
    obtain rfl := Option.some.inj H
    go_enter Tryd.func29, Tryd.ntmps29
    go_wp2
    go_ret
    exact ⟨by first | rfl | (simp; done) | (simp [*]; done) | (simp [i64_w, i32_w]; done), by repeat (first | exact Drawn0.refl _ | apply Drawn0.step)⟩

/-! ### impl_Decimal: function 30 -/
def impl_Decimal.f (a0 : Int) (l1 : List (Unit)) : Option (ByteArray) := (Go.Proofs.YtjmjbmahljlnlaaDoorX.strconv_FormatInt.f a0 10 l1).bind fun t153 => (some t153)
set_option maxHeartbeats 8000000 in
set_option maxRecDepth 100000 in
theorem impl_Decimal.calls (a0 : Int) (l1 : List (Unit)) (r : ByteArray) (w : World) (hr1 : Kd.C Go.Proofs.YtjmjbmahljlnlaaDoorX.kLib w (some ⟨0, 0, none⟩) l1.length l1) (h : impl_Decimal.f a0 l1 = some r) :
    Calls Tryd.prog 30 #[.int .i64 a0] w fun e w' => e = .returned (.string r) ∧ Below w.heap.size w w' := by
  have HR1 := Aside0.mk hr1
  clear hr1
  have HB := Aside0.mk (Below.refl w.heap.size w)
  have H : ((Go.Proofs.YtjmjbmahljlnlaaDoorX.strconv_FormatInt.f a0 10 l1).bind fun t153 => (some t153)) = some r := h
  clear h
  replace H := Option.bind_eq_some_iff.mp H
  obtain ⟨t153, A30, H⟩ := H
  replace H : (some t153) = some r := H
  have A3 := Aside0.mk A30
  clear A30
  obtain rfl := Option.some.inj H
  go_enter Tryd.func30, Tryd.ntmps30
  go_wp2_with (first | ((with_reducible refine gate_callee (f := 38) rfl ?_); refine goesL_ (some 4) rfl rfl Tryd.func38 (by kernel_rfl) rfl #[.int .i64 a0, .int .i64 10] rfl (by (try simp only [List.map_toArray, List.map_cons, List.map_nil]); first | done | rfl | (simp only [List.length_drop, List.length_take]; rfl)) ?_; (with_reducible refine (Go.Proofs.YtjmjbmahljlnlaaDoorX.strconv_FormatInt.calls a0 10 l1 t153 _ ?side1 A3.out).mono ?_); (case side1 => repeat (first | exact HR1.out | (with_reducible refine Kd.C_alloc ?_ _) | (with_reducible refine Kd.C_drewN ?_ _) | (with_reducible refine Kd.C_drew ?_))); rintro e w4 ⟨rfl, hb⟩; refine ⟨_, rfl, ?_⟩; have n0_ := Aside0.mk (below_step (by repeat (first | (with_reducible first | exact HB.out | apply below_alloc | apply pw_below_drewN | apply below_drew1) | exact HB.out)) hb); clear HB; have HB := n0_; clear n0_; (try clear hb); (try clear hb2); (try clear hk); (try clear hi)))
  go_ret
  exact ⟨by first | rfl | (simp [errW_none, errW_some] <;> rfl) | (simp [*, errW_none, errW_some] <;> rfl), by repeat (first | (with_reducible first | exact HB.out | apply below_alloc | apply pw_below_drewN | apply below_drew1) | exact HB.out)⟩

end Go.Proofs.YtjmjbmahljlnlaaDoor.GFnExactReadBlade

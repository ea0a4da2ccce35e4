-- Written by the session's own program (gen.py) out of the translation's print. Lean checks it.
import Derived.Test.YtjmjbmahljlnlaaDoorGFnExactReadCoatx0
import Derived.Test.YtjmjbmahljlnlaaDoorGFnExactReadCoatx2
import Derived.Test.YtjmjbmahljlnlaaDoorGFnExactReadCoatx3
namespace Go.Proofs.YtjmjbmahljlnlaaDoor.GFnExactReadCoat
open Go.RowKit Go.Proofs.YtjmjbmahljlnlaaDoorW.PrintWords Go.Proofs.YtjmjbmahljlnlaaDoorW.PrintLast Go.Proofs.YtjmjbmahljlnlaaDoorW.PrintMore
attribute [local go_sem] max2_int min2_int max_two min_two max_three min_three max_four min_four   -- for this text's walks alone
set_option linter.unusedVariables false
set_option linter.unusedSimpArgs false

/-! ### spec_ReadCoat: function 10 -/
def spec_ReadCoat.j0 : Nat → List ByteArray → List Int → Bool → Option (ByteArray × Int × Int × Int × Bool)
  | 0, _, _, _ => none
  | k + 1, x4, x5, x27 => if x27 = true then (some ((⟨#[]⟩ : ByteArray), 0, 0, 0, false)) else (if 0 < (x4.length : Int) then (if 0 < (x5.length : Int) then (if 1 < (x5.length : Int) then (if 2 < (x5.length : Int) then ((spec_l22One.f k [(⟨rdOf ByteArray.empty x4 0, rd x5 0, rd x5 1, rd x5 2⟩ : S26)]).bind fun t153 => (if t153 = true then (some (rdOf ByteArray.empty x4 0, rd x5 0, rd x5 1, rd x5 2, true)) else (some ((⟨#[]⟩ : ByteArray), 0, 0, 0, false)))) else (none)) else (none)) else (none)) else (none))
def spec_ReadCoat.f (k : Nat) (a0 : ByteArray) : Option (ByteArray × Int × Int × Int × Bool) := (spec_l01Split.f k a0 32).bind fun t140 => (if (t140.length : Int) = 2 then (if 1 < (t140.length : Int) then ((spec_ReadList.f k (rdOf ByteArray.empty t140 1)).bind fun bt144 => (if bt144.2 = true then (spec_ReadCoat.j0 k t140 bt144.1 ((bt144.1.length : Int) != 3)) else (spec_ReadCoat.j0 k t140 bt144.1 true))) else (none)) else (some ((⟨#[]⟩ : ByteArray), 0, 0, 0, false)))
theorem spec_ReadCoat.mono_l : ∀ k, (∀ y0 y1 y2, LeO (spec_ReadCoat.j0 k y0 y1 y2) (spec_ReadCoat.j0 (k + 1) y0 y1 y2))
  | 0 => fun _ _ _ r h => by simp [spec_ReadCoat.j0] at h
  | k + 1 => by
    have ih0 := spec_ReadCoat.mono_l k
    · intro y0 y1 y2
      unfold spec_ReadCoat.j0
      repeat' first
      | (with_reducible exact ih0 _ _ _)
      | (with_reducible exact spec_ReadList.mono _ _)
      | (with_reducible exact spec_l01Split.mono _ _ _)
      | (with_reducible exact spec_l22One.mono _ _)
      | (with_reducible exact LeO.refl _)
      | (with_reducible exact LeO.none _)
      | (with_reducible refine LeO.ite ?_ ?_)
      | (with_reducible refine LeO.bind ?_ (fun _ => ?_))
      | exact ih0 _ _ _
      | exact spec_ReadList.mono _ _
      | exact spec_l01Split.mono _ _ _
      | exact spec_l22One.mono _ _
      | exact LeO.none _
      | refine LeO.ite ?_ ?_
      | refine LeO.bind ?_ (fun _ => ?_)
theorem spec_ReadCoat.mono : ∀ a0 k, LeO (spec_ReadCoat.f k a0) (spec_ReadCoat.f (k + 1) a0) := by
  intro a0 k
  have ih0 := spec_ReadCoat.mono_l k
  unfold spec_ReadCoat.f
  repeat' first
      | (with_reducible exact ih0 _ _ _)
      | (with_reducible exact spec_ReadList.mono _ _)
      | (with_reducible exact spec_l01Split.mono _ _ _)
      | (with_reducible exact spec_l22One.mono _ _)
      | (with_reducible exact LeO.refl _)
      | (with_reducible exact LeO.none _)
      | (with_reducible refine LeO.ite ?_ ?_)
      | (with_reducible refine LeO.bind ?_ (fun _ => ?_))
      | exact ih0 _ _ _
      | exact spec_ReadList.mono _ _
      | exact spec_l01Split.mono _ _ _
      | exact spec_l22One.mono _ _
      | exact LeO.none _
      | refine LeO.ite ?_ ?_
      | refine LeO.bind ?_ (fun _ => ?_)
def spec_ReadCoat.T7 : Bool × List (List Nat × List Nat) := (true, [([], []), ([0], [0]), ([1], [1]), ([], []), ([3], [3]), ([4], [4]), ([], []), ([6], [6]), ([7], [7]), ([], []), ([9], [9]), ([10], [10]), ([2, 5, 8, 11], [2, 5, 8, 11]), ([], []), ([13, 12, 0, 1, 2, 3, 4, 5, 6, 7, 8, 9, 10, 11, 12, 13], [12, 13])])
def spec_ReadCoat.B7 : List Nat := [0, 1, 3, 0, 8, 24, 0, 64, 192, 0, 512, 1536, 4095, 0, 16383]
theorem spec_ReadCoat.tab7 : rtab .any (opsOf Tryd.f10 7) = spec_ReadCoat.T7 := by kernel_rfl
theorem spec_ReadCoat.bits7 : waitsOk spec_ReadCoat.T7.2 spec_ReadCoat.B7 = true := by kernel_rfl
open List renaming setIfInBounds_toArray → sA, set_cons_zero → sB, set_cons_succ → sC
open Go.Proofs.YtjmjbmahljlnlaaDoorW.PrintWords.Aside0 renaming mk → mkA
open Go.Proofs.YtjmjbmahljlnlaaDoorX (dt_ bc_ p0_ p1_ bl_ cb_ bs0_ bs1_ bs2_ bs3_ bs4_ bs5_ bs6_ bs7_ bs8_ bs9_ bs10_ bs11_ bs12_)
abbrev spec_ReadCoat.d0 : Array Bool := #[false, false, false, false, false, false, false, false, false, false, false, false, false, false, false]
abbrev spec_ReadCoat.d1 : Array Bool := #[true, false, false, false, false, false, false, false, false, false, false, false, false, false, false]
abbrev spec_ReadCoat.d2 : Array Bool := #[true, true, false, false, false, false, false, false, false, false, false, false, false, false, false]
abbrev spec_ReadCoat.d3 : Array Bool := #[true, true, false, true, false, false, false, false, false, false, false, false, false, false, false]
abbrev spec_ReadCoat.d4 : Array Bool := #[true, true, false, true, true, false, false, false, false, false, false, false, false, false, false]
abbrev spec_ReadCoat.d5 : Array Bool := #[true, true, false, true, true, false, true, false, false, false, false, false, false, false, false]
abbrev spec_ReadCoat.d6 : Array Bool := #[true, true, false, true, true, false, true, true, false, false, false, false, false, false, false]
abbrev spec_ReadCoat.d7 : Array Bool := #[true, true, false, true, true, false, true, true, false, true, false, false, false, false, false]
abbrev spec_ReadCoat.d8 : Array Bool := #[true, true, false, true, true, false, true, true, false, true, true, false, false, false, false]
abbrev spec_ReadCoat.d9 : Array Bool := #[true, true, true, true, true, false, true, true, false, true, true, false, false, false, false]
abbrev spec_ReadCoat.d10 : Array Bool := #[true, true, true, true, true, true, true, true, false, true, true, false, false, false, false]
abbrev spec_ReadCoat.d11 : Array Bool := #[true, true, true, true, true, true, true, true, true, true, true, false, false, false, false]
abbrev spec_ReadCoat.d12 : Array Bool := #[true, true, true, true, true, true, true, true, true, true, true, true, false, false, false]
abbrev spec_ReadCoat.d13 : Array Bool := #[true, true, true, true, true, true, true, true, true, true, true, true, true, false, false]
abbrev spec_ReadCoat.d14 : Array Bool := #[true, true, true, true, true, true, true, true, true, true, true, true, true, true, false]
abbrev spec_ReadCoat.d15 : Array Bool := #[true, true, true, true, true, true, true, true, true, true, true, true, true, true, true]
set_option maxHeartbeats 8000000 in
set_option maxRecDepth 100000 in
theorem spec_ReadCoat.calls (k : Nat) (a0 : ByteArray) (r1 : ByteArray) (r2 : Int) (r3 : Int) (r4 : Int) (r5 : Bool) (w : World) (h : spec_ReadCoat.f k a0 = some (r1, r2, r3, r4, r5)) :
 Calls Tryd.prog 10 #[.string a0] w fun e w' => e = .returned (.tuple #[.agg #[.string r1, .int .i64 r2, .int .i64 r3, .int .i64 r4], .bool r5]) ∧ Below w.heap.size w w' := by
 have hu26 := Tryd.underlying26
 have HB := mkA (Below.refl w.heap.size w)
 have H : ((spec_l01Split.f k a0 32).bind fun t140 => (if (t140.length : Int) = 2 then (if 1 < (t140.length : Int) then ((spec_ReadList.f k (rdOf ByteArray.empty t140 1)).bind fun bt144 => (if bt144.2 = true then (spec_ReadCoat.j0 k t140 bt144.1 ((bt144.1.length : Int) != 3)) else (spec_ReadCoat.j0 k t140 bt144.1 true))) else (none)) else (some ((⟨#[]⟩ : ByteArray), 0, 0, 0, false)))) = some (r1, r2, r3, r4, r5) := h
 clear h
 replace H := Option.bind_eq_some_iff.mp H
 obtain ⟨t140, A20, H⟩ := H
 replace H : (if (t140.length : Int) = 2 then (if 1 < (t140.length : Int) then ((spec_ReadList.f k (rdOf ByteArray.empty t140 1)).bind fun bt144 => (if bt144.2 = true then (spec_ReadCoat.j0 k t140 bt144.1 ((bt144.1.length : Int) != 3)) else (spec_ReadCoat.j0 k t140 bt144.1 true))) else (none)) else (some ((⟨#[]⟩ : ByteArray), 0, 0, 0, false))) = some (r1, r2, r3, r4, r5) := H
 have A2 := mkA A20
 clear A20
 by_cases c3 : (t140.length : Int) = 2
 rotate_left
 · rw [if_neg c3] at H
   have c3b0 : ((t140.length : Int) == 2) = false := beq_eq_false_iff_ne.mpr c3
   have c3b1 : ((t140.length : Int) != 2) = true := bne_iff_ne.mpr c3
   simp only [Option.some.injEq, Prod.mk.injEq] at H
   obtain ⟨rfl, rfl, rfl, rfl, rfl⟩ := H
   go_enter Tryd.func10, Tryd.ntmps10
   go_wp2_with (first | ((with_reducible refine gate_dst (N := 2) rfl ?_); (try (refine gate_guard (by rfl) ?_; dsimp only)); refine box_event ?hg (N := 2) ?hd (cs := #[.string (⟨#[]⟩ : ByteArray), .int .i64 0, .int .i64 0, .int .i64 0]) (t := 26) ?hr ?_; (case hd => rfl); (case hg => rfl); (case hr => first | (go_simp; done) | (go_simp; rfl)); intro gb139 hg w42 hbox hb; have n0_ := mkA (below_step (bs0_ HB.out) hb); have n1_ := mkA (hbox); have n2_ := mkA ((by rw [hg]; exact (below_size (bs0_ HB.out)) : w.heap.size ≤ gb139)); have n3_ := mkA ((by rw [hg]; exact (below_size (bs0_ HB.out)) : w.heap.size ≤ gb139)); clear HB; have HB := n0_; have BK139 := n1_; have GW139 := n2_; have GE139 := n3_; clear n0_ n1_ n2_ n3_; clear hb hbox hg) | ((with_reducible refine gate_callee (f := 20) rfl ?_); refine goesL_ (some 9) rfl rfl Tryd.func20 (by kernel_rfl) rfl #[.string a0, .int .u8 32] rfl (by (try simp only [List.map_toArray, List.map_cons, List.map_nil]); first | done | rfl | (simp only [List.length_drop, List.length_take]; rfl)) ?_; (with_reducible refine (spec_l01Split.calls k a0 32 t140 _ A2.out).mono ?_); rintro e w43 ⟨v141, rfl, ho0, hb⟩; refine ⟨_, rfl, ?_⟩; have n0_ := mkA (Kd.R_lower ho0 (below_size (bs1_ HB.out GE139.out))); have n1_ := mkA (blk_below (g := gb139) (o := .cells #[.string (⟨#[]⟩ : ByteArray), .int .i64 0, .int .i64 0, .int .i64 0] 26 (0, 0)) (bl_ BK139.out) hb); have n2_ := mkA (below_step (bs1_ HB.out GE139.out) hb); clear BK139; clear HB; have HO142 := n0_; have BK139 := n1_; have HB := n2_; clear n0_ n1_ n2_; (try clear hb); (try clear hb2); (try clear hk); (try clear hi); (try clear ho0); obtain ⟨Ao44, co44, eo44⟩ := Kd.R_slice HO142.out; subst eo44; have hcz45_0 : w43.cell? ⟨gb139, 0, none⟩ = some (.string (⟨#[]⟩ : ByteArray)) := (blk_cell BK139.out 0).trans rfl; have hcz45_1 : w43.cell? ⟨gb139, 1, none⟩ = some (.int .i64 0) := (blk_cell BK139.out 1).trans rfl; have hcz45_2 : w43.cell? ⟨gb139, 2, none⟩ = some (.int .i64 0) := (blk_cell BK139.out 2).trans rfl; have hcz45_3 : w43.cell? ⟨gb139, 3, none⟩ = some (.int .i64 0) := (blk_cell BK139.out 3).trans rfl; have hfz45_0 := blk_frozen BK139.out 0; have hfz45_1 := blk_frozen BK139.out 1; have hfz45_2 := blk_frozen BK139.out 2; have hfz45_3 := blk_frozen BK139.out 3))
   refine bodyPost_ret (results_ct rfl _ _ gb139 26 #[.string (⟨#[]⟩ : ByteArray), .int .i64 0, .int .i64 0, .int .i64 0] (0, 0) _ rfl (by (with_reducible repeat (first | refine blk_drewN ?_ _ | refine blk_drew ?_ | refine blk_alloc ?_ _)); refine blk_put (cs := #[.string (⟨#[]⟩ : ByteArray), .int .i64 0, .int .i64 0, .int .i64 0]) ?_ 3 _ rfl; (with_reducible repeat (first | refine blk_drewN ?_ _ | refine blk_drew ?_ | refine blk_alloc ?_ _)); refine blk_put (cs := #[.string (⟨#[]⟩ : ByteArray), .int .i64 0, .int .i64 0, .int .i64 0]) ?_ 2 _ rfl; (with_reducible repeat (first | refine blk_drewN ?_ _ | refine blk_drew ?_ | refine blk_alloc ?_ _)); refine blk_put (cs := #[.string (⟨#[]⟩ : ByteArray), .int .i64 0, .int .i64 0, .int .i64 0]) ?_ 1 _ rfl; (with_reducible repeat (first | refine blk_drewN ?_ _ | refine blk_drew ?_ | refine blk_alloc ?_ _)); refine blk_put (cs := #[.string (⟨#[]⟩ : ByteArray), .int .i64 0, .int .i64 0, .int .i64 0]) ?_ 0 _ rfl; (with_reducible repeat (first | refine blk_drewN ?_ _ | refine blk_drew ?_ | refine blk_alloc ?_ _)); exact BK139.out) Tryd.underlying26 rfl (by kernel_rfl)) rfl ?_
   exact ⟨by first | rfl | (simp [errW_none, errW_some] <;> rfl) | (simp [*, errW_none, errW_some] <;> rfl), by repeat (first | (with_reducible first | exact HB.out | apply below_alloc | apply pw_below_drewN | apply below_drew1 | refine below_set ?_ GE139.out) | exact HB.out)⟩

 rw [if_pos c3] at H
 have c3b0 : ((t140.length : Int) == 2) = true := beq_iff_eq.mpr c3
 have c3b1 : ((t140.length : Int) != 2) = false := bne_eq_false_iff_eq.mpr c3
 clear c3
 by_cases c4 : 1 < (t140.length : Int)
 rotate_left
 · rw [if_neg c4] at H
   exact absurd H (by simp)
 rw [if_pos c4] at H
 have c4b0 : decide (1 < (t140.length : Int)) = true := decide_eq_true c4
 have c4b1 : decide (1 < t140.length) = true := decide_eq_true (by omega)
 clear c4
 replace H := Option.bind_eq_some_iff.mp H
 obtain ⟨⟨t144, t145⟩, A50, H⟩ := H
 replace H : (if t145 = true then (spec_ReadCoat.j0 k t140 t144 ((t144.length : Int) != 3)) else (spec_ReadCoat.j0 k t140 t144 true)) = some (r1, r2, r3, r4, r5) := H
 have A5 := mkA A50
 clear A50
 have HC6 := mkA H
 clear H
 go_enter Tryd.func10, Tryd.ntmps10
 go_upto_region 5 with (first | ((with_reducible refine gate_dst (N := 2) rfl ?_); (try (refine gate_guard (by rfl) ?_; dsimp only)); refine box_event ?hg (N := 2) ?hd (cs := #[.string (⟨#[]⟩ : ByteArray), .int .i64 0, .int .i64 0, .int .i64 0]) (t := 26) ?hr ?_; (case hd => rfl); (case hg => rfl); (case hr => first | (go_simp; done) | (go_simp; rfl)); intro gb139 hg w7 hbox hb; have n0_ := mkA (below_step (bs0_ HB.out) hb); have n1_ := mkA (hbox); have n2_ := mkA ((by rw [hg]; exact (below_size (bs0_ HB.out)) : w.heap.size ≤ gb139)); have n3_ := mkA ((by rw [hg]; exact (below_size (bs0_ HB.out)) : w.heap.size ≤ gb139)); clear HB; have HB := n0_; have BK139 := n1_; have GW139 := n2_; have GE139 := n3_; clear n0_ n1_ n2_ n3_; clear hb hbox hg) | ((with_reducible refine gate_callee (f := 20) rfl ?_); refine goesL_ (some 9) rfl rfl Tryd.func20 (by kernel_rfl) rfl #[.string a0, .int .u8 32] rfl (by (try simp only [List.map_toArray, List.map_cons, List.map_nil]); first | done | rfl | (simp only [List.length_drop, List.length_take]; rfl)) ?_; (with_reducible refine (spec_l01Split.calls k a0 32 t140 _ A2.out).mono ?_); rintro e w8 ⟨v141, rfl, ho0, hb⟩; refine ⟨_, rfl, ?_⟩; have n0_ := mkA (Kd.R_lower ho0 (below_size (bs1_ HB.out GE139.out))); have n1_ := mkA (blk_below (g := gb139) (o := .cells #[.string (⟨#[]⟩ : ByteArray), .int .i64 0, .int .i64 0, .int .i64 0] 26 (0, 0)) (bl_ BK139.out) hb); have n2_ := mkA (below_step (bs1_ HB.out GE139.out) hb); clear BK139; clear HB; have HO142 := n0_; have BK139 := n1_; have HB := n2_; clear n0_ n1_ n2_; (try clear hb); (try clear hb2); (try clear hk); (try clear hi); (try clear ho0); obtain ⟨Ao9, co9, eo9⟩ := Kd.R_slice HO142.out; subst eo9; have p143 : 0 ≤ (1 : Int) := (by omega); have q143 : 1 < (t140.length : Int) := dt_; obtain ⟨ad143, e143, hx143_0⟩ := Kd.at_string (Kd.R_reads' HO142.out).2.2 1 p143 q143; cases e143; (try simp only [show (1 : Int).toNat = 1 from rfl, Nat.reduceMul, Nat.reduceEqDiff, Go.Addr.add, ↓reduceIte] at hx143_0); have qi143 : (1 < t140.length) = True := eq_true (by omega); (try rw [show ((1 : Int)).toNat = 1 from rfl] at hx143_0); replace p143 := eq_true p143; replace q143 := eq_true q143) | ((with_reducible refine gate_callee (f := 21) rfl ?_); refine goesL_ (some 18) rfl rfl Tryd.func21 (by kernel_rfl) rfl #[.string (rdOf ByteArray.empty t140 1)] rfl (by (try simp only [List.map_toArray, List.map_cons, List.map_nil]); first | done | rfl | (simp only [List.length_drop, List.length_take]; rfl)) ?_; (with_reducible refine (spec_ReadList.calls k (rdOf ByteArray.empty t140 1) t144 t145 _ A5.out).mono ?_); rintro e w10 ⟨v146, rfl, ho0, hb⟩; refine ⟨_, rfl, ?_⟩; have n0_ := mkA (Kd.R_below (by (with_reducible repeat (first | apply Kd.R_alloc | apply Kd.R_drewN | apply Kd.R_drew)); exact HO142.out) hb); have n1_ := mkA (Kd.R_lower ho0 (below_size (bs1_ HB.out GE139.out))); have n2_ := mkA (blk_below (g := gb139) (o := .cells #[.string (⟨#[]⟩ : ByteArray), .int .i64 0, .int .i64 0, .int .i64 0] 26 (0, 0)) (bl_ BK139.out) hb); have n3_ := mkA (below_step (bs1_ HB.out GE139.out) hb); clear HO142; clear BK139; clear HB; have HO142 := n0_; have HO147 := n1_; have BK139 := n2_; have HB := n3_; clear n0_ n1_ n2_ n3_; (try clear hb); (try clear hb2); (try clear hk); (try clear hi); (try clear ho0)))
 (try simp only [Act.put, sA, sB, sC])
 go_cut [27] (fun v27 wc => ∃ (kq : Nat) (x27_5 : Bool), v27 = .bool x27_5 ∧ Aside0 (spec_ReadCoat.j0 kq t140 t144 x27_5 = some (r1, r2, r3, r4, r5)) ∧ Aside0 (kq ≤ k) ∧ Aside0 (Kd.R Kd.string 9 wc w.heap.size (fun _ => True) (.slice (some ad143) t140.length co9) t140) ∧ Aside0 (Kd.R (Kd.int .i64) 2 wc w.heap.size (fun _ => True) v146 t144) ∧ Aside0 (wc.heap[gb139]? = some (.cells #[.string (⟨#[]⟩ : ByteArray), .int .i64 0, .int .i64 0, .int .i64 0] 26 (0, 0))) ∧ Aside0 (Below w.heap.size w wc))
 case first =>
  have H := HC6.out
  clear HC6
  by_cases c11 : t145 = true
  rotate_left
  · replace c11 := Bool.eq_false_iff.mpr c11
    subst c11
    have H1 : (spec_ReadCoat.j0 k t140 t144 true) = some (r1, r2, r3, r4, r5) := by rw [if_neg (show ¬ (false = true) by decide)] at H; exact H
    clear H
    have H := H1
    clear H1
    have H' := mkA H
    clear H
    go_wp2
    go_meet
    case rel => exact ⟨_, (true), (by first | rfl | (simp; done) | (simp [*]; done) | (simp [i64_w, i32_w]; done)), H', ⟨by first | omega | exact Nat.le_refl _⟩, ⟨by (with_reducible repeat (first | apply Kd.R_alloc | apply Kd.R_drewN | apply Kd.R_drew)); exact HO142.out⟩, ⟨by (with_reducible repeat (first | apply Kd.R_alloc | apply Kd.R_drewN | apply Kd.R_drew)); exact HO147.out⟩, ⟨by (with_reducible repeat (first | refine blk_drewN ?_ _ | refine blk_drew ?_ | refine blk_alloc ?_ _)); exact BK139.out⟩, ⟨by repeat (first | (with_reducible first | exact HB.out | apply below_alloc | apply pw_below_drewN | apply below_drew1 | refine below_set ?_ GE139.out) | exact HB.out)⟩⟩
  subst c11
  have H1 : (spec_ReadCoat.j0 k t140 t144 ((t144.length : Int) != 3)) = some (r1, r2, r3, r4, r5) := by rw [if_pos rfl] at H; exact H
  clear H
  have H := H1
  clear H1
  have H' := mkA H
  clear H
  obtain ⟨Ao12, co12, eo12⟩ := Kd.R_slice HO147.out
  subst eo12
  go_wp2
  go_meet
  case rel => exact ⟨_, (((t144.length : Int) != 3)), (by first | rfl | (simp; done) | (simp [*]; done) | (simp [i64_w, i32_w]; done)), H', ⟨by first | omega | exact Nat.le_refl _⟩, ⟨by (with_reducible repeat (first | apply Kd.R_alloc | apply Kd.R_drewN | apply Kd.R_drew)); exact HO142.out⟩, ⟨by (with_reducible repeat (first | apply Kd.R_alloc | apply Kd.R_drewN | apply Kd.R_drew)); exact HO147.out⟩, ⟨by (with_reducible repeat (first | refine blk_drewN ?_ _ | refine blk_drew ?_ | refine blk_alloc ?_ _)); exact BK139.out⟩, ⟨by repeat (first | (with_reducible first | exact HB.out | apply below_alloc | apply pw_below_drewN | apply below_drew1 | refine below_set ?_ GE139.out) | exact HB.out)⟩⟩
 case rest =>
  clear HC6
  try clear c1
  try clear p1
  try clear q1
  try clear hx1
  try clear qi1
  try clear c2
  try clear p2
  try clear c3
  try clear c3b0
  try clear c3b1
  try clear c4
  try clear c4b0
  try clear c4b1
  try clear c10
  try clear c11
  try clear hx143_0
  try clear p143
  try clear q143
  obtain ⟨kq, x27_5, rfl, HA, HJ5, HO_4, HO_5, BK139, HB⟩ := hcut
  cases kq with
  | zero => exact absurd HA.out (by simp [spec_ReadCoat.j0])
  | succ kj5 =>
   have H := HA.out
   clear HA
   simp only [spec_ReadCoat.j0] at H
   by_cases c13 : x27_5 = true
   · subst c13
     have H1 : (some ((⟨#[]⟩ : ByteArray), 0, 0, 0, false)) = some (r1, r2, r3, r4, r5) := by rw [if_pos rfl] at H; exact H
     clear H
     have H := H1
     clear H1
     simp only [Option.some.injEq, Prod.mk.injEq] at H
     obtain ⟨rfl, rfl, rfl, rfl, rfl⟩ := H
     have hcz14_0 : wc.cell? ⟨gb139, 0, none⟩ = some (.string (⟨#[]⟩ : ByteArray)) := (blk_cell BK139.out 0).trans rfl
     have hcz14_1 : wc.cell? ⟨gb139, 1, none⟩ = some (.int .i64 0) := (blk_cell BK139.out 1).trans rfl
     have hcz14_2 : wc.cell? ⟨gb139, 2, none⟩ = some (.int .i64 0) := (blk_cell BK139.out 2).trans rfl
     have hcz14_3 : wc.cell? ⟨gb139, 3, none⟩ = some (.int .i64 0) := (blk_cell BK139.out 3).trans rfl
     have hfz14_0 := blk_frozen BK139.out 0
     have hfz14_1 := blk_frozen BK139.out 1
     have hfz14_2 := blk_frozen BK139.out 2
     have hfz14_3 := blk_frozen BK139.out 3
     go_wp2
     refine bodyPost_ret (results_ct rfl _ _ gb139 26 #[.string (⟨#[]⟩ : ByteArray), .int .i64 0, .int .i64 0, .int .i64 0] (0, 0) _ rfl (by (with_reducible repeat (first | refine blk_drewN ?_ _ | refine blk_drew ?_ | refine blk_alloc ?_ _)); refine blk_put (cs := #[.string (⟨#[]⟩ : ByteArray), .int .i64 0, .int .i64 0, .int .i64 0]) ?_ 3 _ rfl; (with_reducible repeat (first | refine blk_drewN ?_ _ | refine blk_drew ?_ | refine blk_alloc ?_ _)); refine blk_put (cs := #[.string (⟨#[]⟩ : ByteArray), .int .i64 0, .int .i64 0, .int .i64 0]) ?_ 2 _ rfl; (with_reducible repeat (first | refine blk_drewN ?_ _ | refine blk_drew ?_ | refine blk_alloc ?_ _)); refine blk_put (cs := #[.string (⟨#[]⟩ : ByteArray), .int .i64 0, .int .i64 0, .int .i64 0]) ?_ 1 _ rfl; (with_reducible repeat (first | refine blk_drewN ?_ _ | refine blk_drew ?_ | refine blk_alloc ?_ _)); refine blk_put (cs := #[.string (⟨#[]⟩ : ByteArray), .int .i64 0, .int .i64 0, .int .i64 0]) ?_ 0 _ rfl; (with_reducible repeat (first | refine blk_drewN ?_ _ | refine blk_drew ?_ | refine blk_alloc ?_ _)); exact BK139.out) Tryd.underlying26 rfl (by kernel_rfl)) rfl ?_
     exact ⟨by first | rfl | (simp [errW_none, errW_some] <;> rfl) | (simp [*, errW_none, errW_some] <;> rfl), by repeat (first | (with_reducible first | exact HB.out | apply below_alloc | apply pw_below_drewN | apply below_drew1 | refine below_set ?_ GE139.out) | exact HB.out)⟩
   · replace c13 := Bool.eq_false_iff.mpr c13
     subst c13
     have H1 : (if 0 < (t140.length : Int) then (if 0 < (t144.length : Int) then (if 1 < (t144.length : Int) then (if 2 < (t144.length : Int) then ((spec_l22One.f kj5 [(⟨rdOf ByteArray.empty t140 0, rd t144 0, rd t144 1, rd t144 2⟩ : S26)]).bind fun t153 => (if t153 = true then (some (rdOf ByteArray.empty t140 0, rd t144 0, rd t144 1, rd t144 2, true)) else (some ((⟨#[]⟩ : ByteArray), 0, 0, 0, false)))) else (none)) else (none)) else (none)) else (none)) = some (r1, r2, r3, r4, r5) := by rw [if_neg (show ¬ (false = true) by decide)] at H; exact H
     clear H
     have H := H1
     clear H1
     by_cases c15 : 0 < (t140.length : Int)
     rotate_left
     · rw [if_neg c15] at H
       exact absurd H (by simp)
     rw [if_pos c15] at H
     have c15b0 : decide (0 < (t140.length : Int)) = true := decide_eq_true c15
     have c15b1 : decide (0 < t140.length) = true := decide_eq_true (by omega)
     clear c15
     by_cases c16 : 0 < (t144.length : Int)
     rotate_left
     · rw [if_neg c16] at H
       exact absurd H (by simp)
     rw [if_pos c16] at H
     have c16b0 : decide (0 < (t144.length : Int)) = true := decide_eq_true c16
     have c16b1 : decide (0 < t144.length) = true := decide_eq_true (by omega)
     clear c16
     by_cases c17 : 1 < (t144.length : Int)
     rotate_left
     · rw [if_neg c17] at H
       exact absurd H (by simp)
     rw [if_pos c17] at H
     have c17b0 : decide (1 < (t144.length : Int)) = true := decide_eq_true c17
     have c17b1 : decide (1 < t144.length) = true := decide_eq_true (by omega)
     clear c17
     by_cases c18 : 2 < (t144.length : Int)
     rotate_left
     · rw [if_neg c18] at H
       exact absurd H (by simp)
     rw [if_pos c18] at H
     have c18b0 : decide (2 < (t144.length : Int)) = true := decide_eq_true c18
     have c18b1 : decide (2 < t144.length) = true := decide_eq_true (by omega)
     clear c18
     replace H := Option.bind_eq_some_iff.mp H
     obtain ⟨t153, A190, H⟩ := H
     replace H : (if t153 = true then (some (rdOf ByteArray.empty t140 0, rd t144 0, rd t144 1, rd t144 2, true)) else (some ((⟨#[]⟩ : ByteArray), 0, 0, 0, false))) = some (r1, r2, r3, r4, r5) := H
     have A19 := mkA A190
     clear A190
     by_cases c20 : t153 = true
     · subst c20
       have H1 : (some (rdOf ByteArray.empty t140 0, rd t144 0, rd t144 1, rd t144 2, true)) = some (r1, r2, r3, r4, r5) := by rw [if_pos rfl] at H; exact H
       clear H
       have H := H1
       clear H1
       simp only [Option.some.injEq, Prod.mk.injEq] at H
       obtain ⟨rfl, rfl, rfl, rfl, rfl⟩ := H
       try go_wp2
       have n0_ := mkA (Kd.R_drew HO_4.out)
       have n1_ := mkA (Kd.R_drew HO_5.out)
       have n2_ := mkA (blk_drew BK139.out)
       have n3_ := mkA (below_drew1 HB.out)
       clear HO_4
       clear HO_5
       clear BK139
       clear HB
       have HO_4 := n0_
       have HO_5 := n1_
       have BK139 := n2_
       have HB := n3_
       clear n0_ n1_ n2_ n3_
       have p148 : 0 ≤ (0 : Int) := (by omega)
       have q148 : 0 < (t140.length : Int) := dt_
       obtain ⟨ad148, e148, hx148_0⟩ := Kd.at_string (Kd.R_reads' HO_4.out).2.2 0 p148 q148
       obtain rfl : ad143 = ad148 := (by injection e148)
       have qi148 : (0 < t140.length) = True := eq_true (by omega)
       (try rw [show ((0 : Int)).toNat = 0 from rfl] at hx148_0)
       (try rw [Addr.add_zero'] at hx148_0)
       replace p148 := eq_true p148
       replace q148 := eq_true q148
       obtain ⟨Ao22, co22, eo22⟩ := Kd.R_slice HO_5.out
       (first | subst eo22 | (injection eo22 with f1_ f2_ f3_; have f4_ := f1_.symm; have f5_ := f3_.symm; clear f1_ f2_ f3_; subst f4_; subst f5_))
       have p149 : 0 ≤ (0 : Int) := (by omega)
       have q149 : 0 < (t144.length : Int) := dt_
       obtain ⟨ad149, e149, hx149_0⟩ := Kd.at_int (Kd.R_reads' HO_5.out).2.2 0 p149 q149
       cases e149
       have qi149 : (0 < t144.length) = True := eq_true (by omega)
       (try rw [show ((0 : Int)).toNat = 0 from rfl] at hx149_0)
       (try rw [Addr.add_zero'] at hx149_0)
       replace p149 := eq_true p149
       replace q149 := eq_true q149
       have p150 : 0 ≤ (1 : Int) := (by omega)
       have q150 : 1 < (t144.length : Int) := dt_
       obtain ⟨ad150, e150, hx150_0⟩ := Kd.at_int (Kd.R_reads' HO_5.out).2.2 1 p150 q150
       obtain rfl : ad149 = ad150 := (by injection e150)
       (try simp only [show (1 : Int).toNat = 1 from rfl, Nat.reduceMul, Nat.reduceEqDiff, Go.Addr.add, ↓reduceIte] at hx150_0)
       have qi150 : (1 < t144.length) = True := eq_true (by omega)
       (try rw [show ((1 : Int)).toNat = 1 from rfl] at hx150_0)
       replace p150 := eq_true p150
       replace q150 := eq_true q150
       have p151 : 0 ≤ (2 : Int) := (by omega)
       have q151 : 2 < (t144.length : Int) := dt_
       obtain ⟨ad151, e151, hx151_0⟩ := Kd.at_int (Kd.R_reads' HO_5.out).2.2 2 p151 q151
       obtain rfl : ad149 = ad151 := (by injection e151)
       (try simp only [show (2 : Int).toNat = 2 from rfl, Nat.reduceMul, Nat.reduceEqDiff, Go.Addr.add, ↓reduceIte] at hx151_0)
       have qi151 : (2 < t144.length) = True := eq_true (by omega)
       (try rw [show ((2 : Int)).toNat = 2 from rfl] at hx151_0)
       replace p151 := eq_true p151
       replace q151 := eq_true q151
       refine start_ (n := 15) (S := fun w' => w'.cell? ad143 = some (.string (rdOf ByteArray.empty t140 0)) ∧ w'.cell? ad149 = some (.int .i64 (rd t144 0)) ∧ w'.cell? ⟨ad149.block, ad149.off + 1, none⟩ = some (.int .i64 (rd t144 1)) ∧ w'.cell? ⟨ad149.block, ad149.off + 2, none⟩ = some (.int .i64 (rd t144 2))) (ds := []) spec_ReadCoat.d0 (by kernel_rfl) rfl rfl ⟨hx148_0, hx149_0, hx150_0, hx151_0⟩ (fun hHeld => ?_); refine with_tabW spec_ReadCoat.tab7 spec_ReadCoat.bits7 (fun HT_ HW_ => ?_)
       generalize wc.drew = w21 at HO_4 HO_5 BK139 HB hx148_0 hx149_0 hx150_0 hx151_0 hHeld ⊢
       refine p1_ HT_.out 0 29 spec_ReadCoat.d1 ?_
       refine p1_ HT_.out 1 30 spec_ReadCoat.d2 ?_
       refine p1_ HT_.out 3 32 spec_ReadCoat.d3 ?_
       refine p1_ HT_.out 4 33 spec_ReadCoat.d4 ?_
       refine p1_ HT_.out 6 35 spec_ReadCoat.d5 ?_
       refine p1_ HT_.out 7 36 spec_ReadCoat.d6 ?_
       refine p1_ HT_.out 9 38 spec_ReadCoat.d7 ?_
       refine p1_ HT_.out 10 39 spec_ReadCoat.d8 ?_
       refine take_ (i := 2) (N := some 31) (v := ?_) (a' := ?_) spec_ReadCoat.d9 rfl rfl (take_ofW HT_.out HW_.out (by kernel_rfl)) (fun _ _ _ h => h) (Or.inl ⟨by rfl, ?_⟩) hHeld ?_ ?_
       rotate_left
       · rintro w' ⟨s0, s1, s2, s3⟩
         go_simp
         with_reducible rfl
       rotate_left
       · simp only [Act.put, sA, sB, sC, i64_w, i32_w]
         rfl
       refine take_ (i := 5) (N := some 34) (v := ?_) (a' := ?_) spec_ReadCoat.d10 rfl rfl (take_ofW HT_.out HW_.out (by kernel_rfl)) (fun _ _ _ h => h) (Or.inl ⟨by rfl, ?_⟩) hHeld ?_ ?_
       rotate_left
       · rintro w' ⟨s0, s1, s2, s3⟩
         go_simp
         with_reducible rfl
       rotate_left
       · simp only [Act.put, sA, sB, sC, i64_w, i32_w]
         rfl
       refine take_ (i := 8) (N := some 37) (v := ?_) (a' := ?_) spec_ReadCoat.d11 rfl rfl (take_ofW HT_.out HW_.out (by kernel_rfl)) (fun _ _ _ h => h) (Or.inl ⟨by rfl, ?_⟩) hHeld ?_ ?_
       rotate_left
       · rintro w' ⟨s0, s1, s2, s3⟩
         go_simp
         with_reducible rfl
       rotate_left
       · simp only [Act.put, sA, sB, sC, i64_w, i32_w]
         rfl
       refine take_ (i := 11) (N := some 40) (v := ?_) (a' := ?_) spec_ReadCoat.d12 rfl rfl (take_ofW HT_.out HW_.out (by kernel_rfl)) (fun _ _ _ h => h) (Or.inl ⟨by rfl, ?_⟩) hHeld ?_ ?_
       rotate_left
       · rintro w' ⟨s0, s1, s2, s3⟩
         go_simp
         with_reducible rfl
       rotate_left
       · simp only [Act.put, sA, sB, sC, i64_w, i32_w]
         rfl
       refine p1_ HT_.out 12 41 spec_ReadCoat.d13 ?_
       refine one_ (i := 13) (N := some 7) spec_ReadCoat.d14 rfl rfl (one_of HT_.out (by kernel_rfl)) (by decide) (fun K hK => ?_)
       refine box_step ?hg (N := 7) ?hd (cs := #[.string (⟨#[]⟩ : ByteArray), .int .i64 0, .int .i64 0, .int .i64 0]) (t := 26) ?hr ?_; (case hd => rfl); (case hg => rfl); (case hr => first | (go_simp; done) | (go_simp; rfl))
       intro gb152 hg w23 hbox hb
       have HS0_ := (hb.cell (World.block_lt_of_cell? _ _ (hHeld.1))).trans (hHeld.1)
       have HS1_ := (hb.cell (World.block_lt_of_cell? _ _ (hHeld.2.1))).trans (hHeld.2.1)
       have HS2_ := (hb.cell (World.block_lt_of_cell? _ _ (hHeld.2.2.1))).trans (hHeld.2.2.1)
       have HS3_ := (hb.cell (World.block_lt_of_cell? _ _ (hHeld.2.2.2))).trans (hHeld.2.2.2)
       have n0_ := mkA (Kd.R_below (by (with_reducible repeat (first | apply Kd.R_alloc | apply Kd.R_drewN | apply Kd.R_drew)); exact HO_4.out) hb)
       have n1_ := mkA (Kd.R_below (by (with_reducible repeat (first | apply Kd.R_alloc | apply Kd.R_drewN | apply Kd.R_drew)); exact HO_5.out) hb)
       have n2_ := mkA (blk_below (g := gb139) (o := .cells #[.string (⟨#[]⟩ : ByteArray), .int .i64 0, .int .i64 0, .int .i64 0] 26 (0, 0)) (bl_ BK139.out) hb)
       have n3_ := mkA (below_step (bs1_ HB.out GE139.out) hb)
       have n4_ := mkA (hbox)
       have n5_ := mkA ((by rw [hg]; exact (below_size (bs1_ HB.out GE139.out)) : w.heap.size ≤ gb152))
       have n6_ := mkA ((by rw [hg]; exact (below_size (bs1_ HB.out GE139.out)) : w.heap.size ≤ gb152))
       have n7_ := mkA ((by rw [hg]; exact Nat.ne_of_lt (blk_lt (g := gb139) (o := .cells #[.string (⟨#[]⟩ : ByteArray), .int .i64 0, .int .i64 0, .int .i64 0] 26 (0, 0)) (bl_ BK139.out)) : gb139 ≠ gb152))
       have n8_ := mkA ((by rw [hg]; exact Nat.ne_of_gt (blk_lt (g := gb139) (o := .cells #[.string (⟨#[]⟩ : ByteArray), .int .i64 0, .int .i64 0, .int .i64 0] 26 (0, 0)) (bl_ BK139.out)) : gb152 ≠ gb139))
       clear HO_4
       clear HO_5
       clear BK139
       clear HB
       have HO_4 := n0_
       have HO_5 := n1_
       have BK139 := n2_
       have HB := n3_
       have BK152 := n4_
       have GW152 := n5_
       have GE152 := n6_
       have NB139_152 := n7_
       have NB152_139 := n8_
       clear n0_ n1_ n2_ n3_ n4_ n5_ n6_ n7_ n8_
       clear hb hbox hg
       refine hK.out _ _ ⟨HS0_, HS1_, HS2_, HS3_⟩ (fun hHeld => ?_)
       clear hK K
       refine norm_ (a' := ?_) ?_ ?_
       rotate_left
       · show Act.put _ (some 7) _ = _
         simp only [Act.put, sA, sB, sC, i64_w, i32_w]
         rfl
       refine one_ (i := 14) (N := none) spec_ReadCoat.d15 rfl rfl (one_of HT_.out (by kernel_rfl)) (by decide) (fun K hK => ?_)
       have hs24 : w23.cell? ⟨gb152, 0, none⟩ = some (.string (⟨#[]⟩ : ByteArray)) := (blk_cell BK152.out 0).trans rfl
       have hfs24 := blk_frozen BK152.out 0
       have hns24_0 := NB139_152.out
       have hms24_0 := NB152_139.out
       have hs25 : w23.cell? ⟨gb152, 1, none⟩ = some (.int .i64 0) := (blk_cell BK152.out 1).trans rfl
       have hfs25 := blk_frozen BK152.out 1
       have hns25_0 := NB139_152.out
       have hms25_0 := NB152_139.out
       have hs26 : w23.cell? ⟨gb152, 2, none⟩ = some (.int .i64 0) := (blk_cell BK152.out 2).trans rfl
       have hfs26 := blk_frozen BK152.out 2
       have hns26_0 := NB139_152.out
       have hms26_0 := NB152_139.out
       have hs27 : w23.cell? ⟨gb152, 3, none⟩ = some (.int .i64 0) := (blk_cell BK152.out 3).trans rfl
       have hfs27 := blk_frozen BK152.out 3
       have hns27_0 := NB139_152.out
       have hms27_0 := NB152_139.out
       refine skip_ (w1 := ?_) (by rfl) rfl ?_ ?_
       rotate_left
       · go_simp
         rfl
       refine hK.out _ _ ⟨((cell_far (p := ⟨gb152, _, none⟩) (by first | exact Kd.own_blk (Kd.R_ne HO_4.out BK152.out (by decide)) | (rw [add_block]; exact Kd.own_blk (Kd.R_ne HO_4.out BK152.out (by decide))) | (show (Addr.add _ _).block ≠ _; rw [add_block]; exact Kd.own_blk (Kd.R_ne HO_4.out BK152.out (by decide))) | (dsimp only; exact Kd.own_blk (Kd.R_ne HO_4.out BK152.out (by decide)))) _).trans (((cell_far (p := ⟨gb152, _, none⟩) (by first | exact Kd.own_blk (Kd.R_ne HO_4.out BK152.out (by decide)) | (rw [add_block]; exact Kd.own_blk (Kd.R_ne HO_4.out BK152.out (by decide))) | (show (Addr.add _ _).block ≠ _; rw [add_block]; exact Kd.own_blk (Kd.R_ne HO_4.out BK152.out (by decide))) | (dsimp only; exact Kd.own_blk (Kd.R_ne HO_4.out BK152.out (by decide)))) _).trans (((cell_far (p := ⟨gb152, _, none⟩) (by first | exact Kd.own_blk (Kd.R_ne HO_4.out BK152.out (by decide)) | (rw [add_block]; exact Kd.own_blk (Kd.R_ne HO_4.out BK152.out (by decide))) | (show (Addr.add _ _).block ≠ _; rw [add_block]; exact Kd.own_blk (Kd.R_ne HO_4.out BK152.out (by decide))) | (dsimp only; exact Kd.own_blk (Kd.R_ne HO_4.out BK152.out (by decide)))) _).trans (((cell_far (p := ⟨gb152, _, none⟩) (by first | exact Kd.own_blk (Kd.R_ne HO_4.out BK152.out (by decide)) | (rw [add_block]; exact Kd.own_blk (Kd.R_ne HO_4.out BK152.out (by decide))) | (show (Addr.add _ _).block ≠ _; rw [add_block]; exact Kd.own_blk (Kd.R_ne HO_4.out BK152.out (by decide))) | (dsimp only; exact Kd.own_blk (Kd.R_ne HO_4.out BK152.out (by decide)))) _).trans (hHeld.1)))))))), ((cell_far (p := ⟨gb152, _, none⟩) (by first | exact Kd.own_blk (Kd.R_ne HO_5.out BK152.out (by decide)) | (rw [add_block]; exact Kd.own_blk (Kd.R_ne HO_5.out BK152.out (by decide))) | (show (Addr.add _ _).block ≠ _; rw [add_block]; exact Kd.own_blk (Kd.R_ne HO_5.out BK152.out (by decide))) | (dsimp only; exact Kd.own_blk (Kd.R_ne HO_5.out BK152.out (by decide)))) _).trans (((cell_far (p := ⟨gb152, _, none⟩) (by first | exact Kd.own_blk (Kd.R_ne HO_5.out BK152.out (by decide)) | (rw [add_block]; exact Kd.own_blk (Kd.R_ne HO_5.out BK152.out (by decide))) | (show (Addr.add _ _).block ≠ _; rw [add_block]; exact Kd.own_blk (Kd.R_ne HO_5.out BK152.out (by decide))) | (dsimp only; exact Kd.own_blk (Kd.R_ne HO_5.out BK152.out (by decide)))) _).trans (((cell_far (p := ⟨gb152, _, none⟩) (by first | exact Kd.own_blk (Kd.R_ne HO_5.out BK152.out (by decide)) | (rw [add_block]; exact Kd.own_blk (Kd.R_ne HO_5.out BK152.out (by decide))) | (show (Addr.add _ _).block ≠ _; rw [add_block]; exact Kd.own_blk (Kd.R_ne HO_5.out BK152.out (by decide))) | (dsimp only; exact Kd.own_blk (Kd.R_ne HO_5.out BK152.out (by decide)))) _).trans (((cell_far (p := ⟨gb152, _, none⟩) (by first | exact Kd.own_blk (Kd.R_ne HO_5.out BK152.out (by decide)) | (rw [add_block]; exact Kd.own_blk (Kd.R_ne HO_5.out BK152.out (by decide))) | (show (Addr.add _ _).block ≠ _; rw [add_block]; exact Kd.own_blk (Kd.R_ne HO_5.out BK152.out (by decide))) | (dsimp only; exact Kd.own_blk (Kd.R_ne HO_5.out BK152.out (by decide)))) _).trans (hHeld.2.1)))))))), ((cell_far (p := ⟨gb152, _, none⟩) (by first | exact Kd.own_blk (Kd.R_ne HO_5.out BK152.out (by decide)) | (rw [add_block]; exact Kd.own_blk (Kd.R_ne HO_5.out BK152.out (by decide))) | (show (Addr.add _ _).block ≠ _; rw [add_block]; exact Kd.own_blk (Kd.R_ne HO_5.out BK152.out (by decide))) | (dsimp only; exact Kd.own_blk (Kd.R_ne HO_5.out BK152.out (by decide)))) _).trans (((cell_far (p := ⟨gb152, _, none⟩) (by first | exact Kd.own_blk (Kd.R_ne HO_5.out BK152.out (by decide)) | (rw [add_block]; exact Kd.own_blk (Kd.R_ne HO_5.out BK152.out (by decide))) | (show (Addr.add _ _).block ≠ _; rw [add_block]; exact Kd.own_blk (Kd.R_ne HO_5.out BK152.out (by decide))) | (dsimp only; exact Kd.own_blk (Kd.R_ne HO_5.out BK152.out (by decide)))) _).trans (((cell_far (p := ⟨gb152, _, none⟩) (by first | exact Kd.own_blk (Kd.R_ne HO_5.out BK152.out (by decide)) | (rw [add_block]; exact Kd.own_blk (Kd.R_ne HO_5.out BK152.out (by decide))) | (show (Addr.add _ _).block ≠ _; rw [add_block]; exact Kd.own_blk (Kd.R_ne HO_5.out BK152.out (by decide))) | (dsimp only; exact Kd.own_blk (Kd.R_ne HO_5.out BK152.out (by decide)))) _).trans (((cell_far (p := ⟨gb152, _, none⟩) (by first | exact Kd.own_blk (Kd.R_ne HO_5.out BK152.out (by decide)) | (rw [add_block]; exact Kd.own_blk (Kd.R_ne HO_5.out BK152.out (by decide))) | (show (Addr.add _ _).block ≠ _; rw [add_block]; exact Kd.own_blk (Kd.R_ne HO_5.out BK152.out (by decide))) | (dsimp only; exact Kd.own_blk (Kd.R_ne HO_5.out BK152.out (by decide)))) _).trans (hHeld.2.2.1)))))))), ((cell_far (p := ⟨gb152, _, none⟩) (by first | exact Kd.own_blk (Kd.R_ne HO_5.out BK152.out (by decide)) | (rw [add_block]; exact Kd.own_blk (Kd.R_ne HO_5.out BK152.out (by decide))) | (show (Addr.add _ _).block ≠ _; rw [add_block]; exact Kd.own_blk (Kd.R_ne HO_5.out BK152.out (by decide))) | (dsimp only; exact Kd.own_blk (Kd.R_ne HO_5.out BK152.out (by decide)))) _).trans (((cell_far (p := ⟨gb152, _, none⟩) (by first | exact Kd.own_blk (Kd.R_ne HO_5.out BK152.out (by decide)) | (rw [add_block]; exact Kd.own_blk (Kd.R_ne HO_5.out BK152.out (by decide))) | (show (Addr.add _ _).block ≠ _; rw [add_block]; exact Kd.own_blk (Kd.R_ne HO_5.out BK152.out (by decide))) | (dsimp only; exact Kd.own_blk (Kd.R_ne HO_5.out BK152.out (by decide)))) _).trans (((cell_far (p := ⟨gb152, _, none⟩) (by first | exact Kd.own_blk (Kd.R_ne HO_5.out BK152.out (by decide)) | (rw [add_block]; exact Kd.own_blk (Kd.R_ne HO_5.out BK152.out (by decide))) | (show (Addr.add _ _).block ≠ _; rw [add_block]; exact Kd.own_blk (Kd.R_ne HO_5.out BK152.out (by decide))) | (dsimp only; exact Kd.own_blk (Kd.R_ne HO_5.out BK152.out (by decide)))) _).trans (((cell_far (p := ⟨gb152, _, none⟩) (by first | exact Kd.own_blk (Kd.R_ne HO_5.out BK152.out (by decide)) | (rw [add_block]; exact Kd.own_blk (Kd.R_ne HO_5.out BK152.out (by decide))) | (show (Addr.add _ _).block ≠ _; rw [add_block]; exact Kd.own_blk (Kd.R_ne HO_5.out BK152.out (by decide))) | (dsimp only; exact Kd.own_blk (Kd.R_ne HO_5.out BK152.out (by decide)))) _).trans (hHeld.2.2.2))))))))⟩ (fun hHeld => ?_)
       clear hK K
       refine done_ (done_of HT_.out (by kernel_rfl)) ?_
       try go_wp2_with (first | ((with_reducible refine gate_callee (f := 16) rfl ?_); refine goesL_ (some 42) rfl rfl Tryd.func16 (by kernel_rfl) rfl #[.pointer (some ⟨gb152, 0, none⟩)] rfl (by (try simp only [List.map_toArray, List.map_cons, List.map_nil]); first | done | rfl | (simp only [List.length_drop, List.length_take]; rfl)) ?_; (with_reducible refine (spec_l22One.calls kj5 _ [(⟨rdOf ByteArray.empty t140 0, rd t144 0, rd t144 1, rd t144 2⟩ : S26)] true _ ?side1 A19.out).mono ?_); (case side1 => exact Go.Proofs.YtjmjbmahljlnlaaDoorX.rp_box (t := 26) (fr := (0, 0)) (by (with_reducible repeat (first | refine blk_drewN ?_ _ | refine blk_drew ?_ | refine blk_alloc ?_ _)); refine blk_put (cs := #[.string (rdOf ByteArray.empty t140 0), .int .i64 (rd t144 0), .int .i64 (rd t144 1), .int .i64 0]) ?_ 3 _ rfl; (with_reducible repeat (first | refine blk_drewN ?_ _ | refine blk_drew ?_ | refine blk_alloc ?_ _)); refine blk_put (cs := #[.string (rdOf ByteArray.empty t140 0), .int .i64 (rd t144 0), .int .i64 0, .int .i64 0]) ?_ 2 _ rfl; (with_reducible repeat (first | refine blk_drewN ?_ _ | refine blk_drew ?_ | refine blk_alloc ?_ _)); refine blk_put (cs := #[.string (rdOf ByteArray.empty t140 0), .int .i64 0, .int .i64 0, .int .i64 0]) ?_ 1 _ rfl; (with_reducible repeat (first | refine blk_drewN ?_ _ | refine blk_drew ?_ | refine blk_alloc ?_ _)); refine blk_put (cs := #[.string (⟨#[]⟩ : ByteArray), .int .i64 0, .int .i64 0, .int .i64 0]) ?_ 0 _ rfl; (with_reducible repeat (first | refine blk_drewN ?_ _ | refine blk_drew ?_ | refine blk_alloc ?_ _)); exact BK152.out) (k26_mk _ (⟨rdOf ByteArray.empty t140 0, rd t144 0, rd t144 1, rd t144 2⟩ : S26) )); rintro e w28 ⟨rfl, hb⟩; refine ⟨_, rfl, ?_⟩; have n0_ := mkA (Kd.R_below (by (with_reducible repeat (first | apply Kd.R_alloc | apply Kd.R_drewN | apply Kd.R_drew)); exact (Kd.R_mono (Kd.R_far (p := ⟨gb152, 3, none⟩) (Kd.R_far (p := ⟨gb152, 2, none⟩) (Kd.R_far (p := ⟨gb152, 1, none⟩) (Kd.R_far (p := ⟨gb152, 0, none⟩) (Kd.R_types HO_4.out BK152.out (by decide)) (fun _ hk => hk.2) (.string (rdOf ByteArray.empty t140 0))) (fun _ hk => hk.2) (.int .i64 (rd t144 0))) (fun _ hk => hk.2) (.int .i64 (rd t144 1))) (fun _ hk => hk.2) (.int .i64 (rd t144 2))) (fun _ h_ => h_.1))) hb); have n1_ := mkA (Kd.R_below (by (with_reducible repeat (first | apply Kd.R_alloc | apply Kd.R_drewN | apply Kd.R_drew)); exact (Kd.R_mono (Kd.R_far (p := ⟨gb152, 3, none⟩) (Kd.R_far (p := ⟨gb152, 2, none⟩) (Kd.R_far (p := ⟨gb152, 1, none⟩) (Kd.R_far (p := ⟨gb152, 0, none⟩) (Kd.R_types HO_5.out BK152.out (by decide)) (fun _ hk => hk.2) (.string (rdOf ByteArray.empty t140 0))) (fun _ hk => hk.2) (.int .i64 (rd t144 0))) (fun _ hk => hk.2) (.int .i64 (rd t144 1))) (fun _ hk => hk.2) (.int .i64 (rd t144 2))) (fun _ h_ => h_.1))) hb); have n2_ := mkA (blk_below (g := gb139) (o := .cells #[.string (⟨#[]⟩ : ByteArray), .int .i64 0, .int .i64 0, .int .i64 0] 26 (0, 0)) (by (with_reducible repeat (first | refine blk_drewN ?_ _ | refine blk_drew ?_ | refine blk_alloc ?_ _)); refine blk_far ?_ NB139_152.out _; (with_reducible repeat (first | refine blk_drewN ?_ _ | refine blk_drew ?_ | refine blk_alloc ?_ _)); refine blk_far ?_ NB139_152.out _; (with_reducible repeat (first | refine blk_drewN ?_ _ | refine blk_drew ?_ | refine blk_alloc ?_ _)); refine blk_far ?_ NB139_152.out _; (with_reducible repeat (first | refine blk_drewN ?_ _ | refine blk_drew ?_ | refine blk_alloc ?_ _)); refine blk_far ?_ NB139_152.out _; (with_reducible repeat (first | refine blk_drewN ?_ _ | refine blk_drew ?_ | refine blk_alloc ?_ _)); exact BK139.out) hb); have n3_ := mkA (blk_below (g := gb152) (o := .cells #[.string (rdOf ByteArray.empty t140 0), .int .i64 (rd t144 0), .int .i64 (rd t144 1), .int .i64 (rd t144 2)] 26 (0, 0)) (by (with_reducible repeat (first | refine blk_drewN ?_ _ | refine blk_drew ?_ | refine blk_alloc ?_ _)); refine blk_put (cs := #[.string (rdOf ByteArray.empty t140 0), .int .i64 (rd t144 0), .int .i64 (rd t144 1), .int .i64 0]) ?_ 3 _ rfl; (with_reducible repeat (first | refine blk_drewN ?_ _ | refine blk_drew ?_ | refine blk_alloc ?_ _)); refine blk_put (cs := #[.string (rdOf ByteArray.empty t140 0), .int .i64 (rd t144 0), .int .i64 0, .int .i64 0]) ?_ 2 _ rfl; (with_reducible repeat (first | refine blk_drewN ?_ _ | refine blk_drew ?_ | refine blk_alloc ?_ _)); refine blk_put (cs := #[.string (rdOf ByteArray.empty t140 0), .int .i64 0, .int .i64 0, .int .i64 0]) ?_ 1 _ rfl; (with_reducible repeat (first | refine blk_drewN ?_ _ | refine blk_drew ?_ | refine blk_alloc ?_ _)); refine blk_put (cs := #[.string (⟨#[]⟩ : ByteArray), .int .i64 0, .int .i64 0, .int .i64 0]) ?_ 0 _ rfl; (with_reducible repeat (first | refine blk_drewN ?_ _ | refine blk_drew ?_ | refine blk_alloc ?_ _)); exact BK152.out) hb); have n4_ := mkA (below_step (bs2_ HB.out GE139.out GE152.out) hb); clear HO_4; clear HO_5; clear BK139; clear BK152; clear HB; have HO_4 := n0_; have HO_5 := n1_; have BK139 := n2_; have BK152 := n3_; have HB := n4_; clear n0_ n1_ n2_ n3_ n4_; (try clear hb); (try clear hb2); (try clear hk); (try clear hi); have hnb29 := NB152_139.out; have hnc29 := NB139_152.out; have hcz30_0 : w28.cell? ⟨gb152, 0, none⟩ = some (.string (rdOf ByteArray.empty t140 0)) := (blk_cell BK152.out 0).trans rfl; have hcz30_1 : w28.cell? ⟨gb152, 1, none⟩ = some (.int .i64 (rd t144 0)) := (blk_cell BK152.out 1).trans rfl; have hcz30_2 : w28.cell? ⟨gb152, 2, none⟩ = some (.int .i64 (rd t144 1)) := (blk_cell BK152.out 2).trans rfl; have hcz30_3 : w28.cell? ⟨gb152, 3, none⟩ = some (.int .i64 (rd t144 2)) := (blk_cell BK152.out 3).trans rfl; have hfz30_0 := blk_frozen BK152.out 0; have hfz30_1 := blk_frozen BK152.out 1; have hfz30_2 := blk_frozen BK152.out 2; have hfz30_3 := blk_frozen BK152.out 3; have hcz31_0 : w28.cell? ⟨gb139, 0, none⟩ = some (.string (⟨#[]⟩ : ByteArray)) := (blk_cell BK139.out 0).trans rfl; have hcz31_1 : w28.cell? ⟨gb139, 1, none⟩ = some (.int .i64 0) := (blk_cell BK139.out 1).trans rfl; have hcz31_2 : w28.cell? ⟨gb139, 2, none⟩ = some (.int .i64 0) := (blk_cell BK139.out 2).trans rfl; have hcz31_3 : w28.cell? ⟨gb139, 3, none⟩ = some (.int .i64 0) := (blk_cell BK139.out 3).trans rfl; have hfz31_0 := blk_frozen BK139.out 0; have hfz31_1 := blk_frozen BK139.out 1; have hfz31_2 := blk_frozen BK139.out 2; have hfz31_3 := blk_frozen BK139.out 3))
       refine bodyPost_ret (results_ct rfl _ _ gb139 26 #[.string (rdOf ByteArray.empty t140 0), .int .i64 (rd t144 0), .int .i64 (rd t144 1), .int .i64 (rd t144 2)] (0, 0) _ rfl (by (with_reducible repeat (first | refine blk_drewN ?_ _ | refine blk_drew ?_ | refine blk_alloc ?_ _)); refine blk_put (cs := #[.string (rdOf ByteArray.empty t140 0), .int .i64 (rd t144 0), .int .i64 (rd t144 1), .int .i64 0]) ?_ 3 _ rfl; (with_reducible repeat (first | refine blk_drewN ?_ _ | refine blk_drew ?_ | refine blk_alloc ?_ _)); refine blk_put (cs := #[.string (rdOf ByteArray.empty t140 0), .int .i64 (rd t144 0), .int .i64 0, .int .i64 0]) ?_ 2 _ rfl; (with_reducible repeat (first | refine blk_drewN ?_ _ | refine blk_drew ?_ | refine blk_alloc ?_ _)); refine blk_put (cs := #[.string (rdOf ByteArray.empty t140 0), .int .i64 0, .int .i64 0, .int .i64 0]) ?_ 1 _ rfl; (with_reducible repeat (first | refine blk_drewN ?_ _ | refine blk_drew ?_ | refine blk_alloc ?_ _)); refine blk_put (cs := #[.string (⟨#[]⟩ : ByteArray), .int .i64 0, .int .i64 0, .int .i64 0]) ?_ 0 _ rfl; (with_reducible repeat (first | refine blk_drewN ?_ _ | refine blk_drew ?_ | refine blk_alloc ?_ _)); exact BK139.out) Tryd.underlying26 rfl (by kernel_rfl)) rfl ?_
       exact ⟨by first | rfl | (simp [errW_none, errW_some] <;> rfl) | (simp [*, errW_none, errW_some] <;> rfl), by repeat (first | (with_reducible first | exact HB.out | apply below_alloc | apply pw_below_drewN | apply below_drew1 | refine below_set ?_ GE139.out | refine below_set ?_ GE152.out) | exact HB.out)⟩
     · replace c20 := Bool.eq_false_iff.mpr c20
       subst c20
       have H1 : (some ((⟨#[]⟩ : ByteArray), 0, 0, 0, false)) = some (r1, r2, r3, r4, r5) := by rw [if_neg (show ¬ (false = true) by decide)] at H; exact H
       clear H
       have H := H1
       clear H1
       simp only [Option.some.injEq, Prod.mk.injEq] at H
       obtain ⟨rfl, rfl, rfl, rfl, rfl⟩ := H
       try go_wp2
       have n0_ := mkA (Kd.R_drew HO_4.out)
       have n1_ := mkA (Kd.R_drew HO_5.out)
       have n2_ := mkA (blk_drew BK139.out)
       have n3_ := mkA (below_drew1 HB.out)
       clear HO_4
       clear HO_5
       clear BK139
       clear HB
       have HO_4 := n0_
       have HO_5 := n1_
       have BK139 := n2_
       have HB := n3_
       clear n0_ n1_ n2_ n3_
       have p148 : 0 ≤ (0 : Int) := (by omega)
       have q148 : 0 < (t140.length : Int) := dt_
       obtain ⟨ad148, e148, hx148_0⟩ := Kd.at_string (Kd.R_reads' HO_4.out).2.2 0 p148 q148
       obtain rfl : ad143 = ad148 := (by injection e148)
       have qi148 : (0 < t140.length) = True := eq_true (by omega)
       (try rw [show ((0 : Int)).toNat = 0 from rfl] at hx148_0)
       (try rw [Addr.add_zero'] at hx148_0)
       replace p148 := eq_true p148
       replace q148 := eq_true q148
       obtain ⟨Ao33, co33, eo33⟩ := Kd.R_slice HO_5.out
       (first | subst eo33 | (injection eo33 with f1_ f2_ f3_; have f4_ := f1_.symm; have f5_ := f3_.symm; clear f1_ f2_ f3_; subst f4_; subst f5_))
       have p149 : 0 ≤ (0 : Int) := (by omega)
       have q149 : 0 < (t144.length : Int) := dt_
       obtain ⟨ad149, e149, hx149_0⟩ := Kd.at_int (Kd.R_reads' HO_5.out).2.2 0 p149 q149
       cases e149
       have qi149 : (0 < t144.length) = True := eq_true (by omega)
       (try rw [show ((0 : Int)).toNat = 0 from rfl] at hx149_0)
       (try rw [Addr.add_zero'] at hx149_0)
       replace p149 := eq_true p149
       replace q149 := eq_true q149
       have p150 : 0 ≤ (1 : Int) := (by omega)
       have q150 : 1 < (t144.length : Int) := dt_
       obtain ⟨ad150, e150, hx150_0⟩ := Kd.at_int (Kd.R_reads' HO_5.out).2.2 1 p150 q150
       obtain rfl : ad149 = ad150 := (by injection e150)
       (try simp only [show (1 : Int).toNat = 1 from rfl, Nat.reduceMul, Nat.reduceEqDiff, Go.Addr.add, ↓reduceIte] at hx150_0)
       have qi150 : (1 < t144.length) = True := eq_true (by omega)
       (try rw [show ((1 : Int)).toNat = 1 from rfl] at hx150_0)
       replace p150 := eq_true p150
       replace q150 := eq_true q150
       have p151 : 0 ≤ (2 : Int) := (by omega)
       have q151 : 2 < (t144.length : Int) := dt_
       obtain ⟨ad151, e151, hx151_0⟩ := Kd.at_int (Kd.R_reads' HO_5.out).2.2 2 p151 q151
       obtain rfl : ad149 = ad151 := (by injection e151)
       (try simp only [show (2 : Int).toNat = 2 from rfl, Nat.reduceMul, Nat.reduceEqDiff, Go.Addr.add, ↓reduceIte] at hx151_0)
       have qi151 : (2 < t144.length) = True := eq_true (by omega)
       (try rw [show ((2 : Int)).toNat = 2 from rfl] at hx151_0)
       replace p151 := eq_true p151
       replace q151 := eq_true q151
       refine start_ (n := 15) (S := fun w' => w'.cell? ad143 = some (.string (rdOf ByteArray.empty t140 0)) ∧ w'.cell? ad149 = some (.int .i64 (rd t144 0)) ∧ w'.cell? ⟨ad149.block, ad149.off + 1, none⟩ = some (.int .i64 (rd t144 1)) ∧ w'.cell? ⟨ad149.block, ad149.off + 2, none⟩ = some (.int .i64 (rd t144 2))) (ds := []) spec_ReadCoat.d0 (by kernel_rfl) rfl rfl ⟨hx148_0, hx149_0, hx150_0, hx151_0⟩ (fun hHeld => ?_); refine with_tabW spec_ReadCoat.tab7 spec_ReadCoat.bits7 (fun HT_ HW_ => ?_)
       generalize wc.drew = w32 at HO_4 HO_5 BK139 HB hx148_0 hx149_0 hx150_0 hx151_0 hHeld ⊢
       refine p1_ HT_.out 0 29 spec_ReadCoat.d1 ?_
       refine p1_ HT_.out 1 30 spec_ReadCoat.d2 ?_
       refine p1_ HT_.out 3 32 spec_ReadCoat.d3 ?_
       refine p1_ HT_.out 4 33 spec_ReadCoat.d4 ?_
       refine p1_ HT_.out 6 35 spec_ReadCoat.d5 ?_
       refine p1_ HT_.out 7 36 spec_ReadCoat.d6 ?_
       refine p1_ HT_.out 9 38 spec_ReadCoat.d7 ?_
       refine p1_ HT_.out 10 39 spec_ReadCoat.d8 ?_
       refine take_ (i := 2) (N := some 31) (v := ?_) (a' := ?_) spec_ReadCoat.d9 rfl rfl (take_ofW HT_.out HW_.out (by kernel_rfl)) (fun _ _ _ h => h) (Or.inl ⟨by rfl, ?_⟩) hHeld ?_ ?_
       rotate_left
       · rintro w' ⟨s0, s1, s2, s3⟩
         go_simp
         with_reducible rfl
       rotate_left
       · simp only [Act.put, sA, sB, sC, i64_w, i32_w]
         rfl
       refine take_ (i := 5) (N := some 34) (v := ?_) (a' := ?_) spec_ReadCoat.d10 rfl rfl (take_ofW HT_.out HW_.out (by kernel_rfl)) (fun _ _ _ h => h) (Or.inl ⟨by rfl, ?_⟩) hHeld ?_ ?_
       rotate_left
       · rintro w' ⟨s0, s1, s2, s3⟩
         go_simp
         with_reducible rfl
       rotate_left
       · simp only [Act.put, sA, sB, sC, i64_w, i32_w]
         rfl
       refine take_ (i := 8) (N := some 37) (v := ?_) (a' := ?_) spec_ReadCoat.d11 rfl rfl (take_ofW HT_.out HW_.out (by kernel_rfl)) (fun _ _ _ h => h) (Or.inl ⟨by rfl, ?_⟩) hHeld ?_ ?_
       rotate_left
       · rintro w' ⟨s0, s1, s2, s3⟩
         go_simp
         with_reducible rfl
       rotate_left
       · simp only [Act.put, sA, sB, sC, i64_w, i32_w]
         rfl
       refine take_ (i := 11) (N := some 40) (v := ?_) (a' := ?_) spec_ReadCoat.d12 rfl rfl (take_ofW HT_.out HW_.out (by kernel_rfl)) (fun _ _ _ h => h) (Or.inl ⟨by rfl, ?_⟩) hHeld ?_ ?_
       rotate_left
       · rintro w' ⟨s0, s1, s2, s3⟩
         go_simp
         with_reducible rfl
       rotate_left
       · simp only [Act.put, sA, sB, sC, i64_w, i32_w]
         rfl
       refine p1_ HT_.out 12 41 spec_ReadCoat.d13 ?_
       refine one_ (i := 13) (N := some 7) spec_ReadCoat.d14 rfl rfl (one_of HT_.out (by kernel_rfl)) (by decide) (fun K hK => ?_)
       refine box_step ?hg (N := 7) ?hd (cs := #[.string (⟨#[]⟩ : ByteArray), .int .i64 0, .int .i64 0, .int .i64 0]) (t := 26) ?hr ?_; (case hd => rfl); (case hg => rfl); (case hr => first | (go_simp; done) | (go_simp; rfl))
       intro gb152 hg w34 hbox hb
       have HS0_ := (hb.cell (World.block_lt_of_cell? _ _ (hHeld.1))).trans (hHeld.1)
       have HS1_ := (hb.cell (World.block_lt_of_cell? _ _ (hHeld.2.1))).trans (hHeld.2.1)
       have HS2_ := (hb.cell (World.block_lt_of_cell? _ _ (hHeld.2.2.1))).trans (hHeld.2.2.1)
       have HS3_ := (hb.cell (World.block_lt_of_cell? _ _ (hHeld.2.2.2))).trans (hHeld.2.2.2)
       have n0_ := mkA (Kd.R_below (by (with_reducible repeat (first | apply Kd.R_alloc | apply Kd.R_drewN | apply Kd.R_drew)); exact HO_4.out) hb)
       have n1_ := mkA (Kd.R_below (by (with_reducible repeat (first | apply Kd.R_alloc | apply Kd.R_drewN | apply Kd.R_drew)); exact HO_5.out) hb)
       have n2_ := mkA (blk_below (g := gb139) (o := .cells #[.string (⟨#[]⟩ : ByteArray), .int .i64 0, .int .i64 0, .int .i64 0] 26 (0, 0)) (bl_ BK139.out) hb)
       have n3_ := mkA (below_step (bs1_ HB.out GE139.out) hb)
       have n4_ := mkA (hbox)
       have n5_ := mkA ((by rw [hg]; exact (below_size (bs1_ HB.out GE139.out)) : w.heap.size ≤ gb152))
       have n6_ := mkA ((by rw [hg]; exact (below_size (bs1_ HB.out GE139.out)) : w.heap.size ≤ gb152))
       have n7_ := mkA ((by rw [hg]; exact Nat.ne_of_lt (blk_lt (g := gb139) (o := .cells #[.string (⟨#[]⟩ : ByteArray), .int .i64 0, .int .i64 0, .int .i64 0] 26 (0, 0)) (bl_ BK139.out)) : gb139 ≠ gb152))
       have n8_ := mkA ((by rw [hg]; exact Nat.ne_of_gt (blk_lt (g := gb139) (o := .cells #[.string (⟨#[]⟩ : ByteArray), .int .i64 0, .int .i64 0, .int .i64 0] 26 (0, 0)) (bl_ BK139.out)) : gb152 ≠ gb139))
       clear HO_4
       clear HO_5
       clear BK139
       clear HB
       have HO_4 := n0_
       have HO_5 := n1_
       have BK139 := n2_
       have HB := n3_
       have BK152 := n4_
       have GW152 := n5_
       have GE152 := n6_
       have NB139_152 := n7_
       have NB152_139 := n8_
       clear n0_ n1_ n2_ n3_ n4_ n5_ n6_ n7_ n8_
       clear hb hbox hg
       refine hK.out _ _ ⟨HS0_, HS1_, HS2_, HS3_⟩ (fun hHeld => ?_)
       clear hK K
       refine norm_ (a' := ?_) ?_ ?_
       rotate_left
       · show Act.put _ (some 7) _ = _
         simp only [Act.put, sA, sB, sC, i64_w, i32_w]
         rfl
       refine one_ (i := 14) (N := none) spec_ReadCoat.d15 rfl rfl (one_of HT_.out (by kernel_rfl)) (by decide) (fun K hK => ?_)
       have hs35 : w34.cell? ⟨gb152, 0, none⟩ = some (.string (⟨#[]⟩ : ByteArray)) := (blk_cell BK152.out 0).trans rfl
       have hfs35 := blk_frozen BK152.out 0
       have hns35_0 := NB139_152.out
       have hms35_0 := NB152_139.out
       have hs36 : w34.cell? ⟨gb152, 1, none⟩ = some (.int .i64 0) := (blk_cell BK152.out 1).trans rfl
       have hfs36 := blk_frozen BK152.out 1
       have hns36_0 := NB139_152.out
       have hms36_0 := NB152_139.out
       have hs37 : w34.cell? ⟨gb152, 2, none⟩ = some (.int .i64 0) := (blk_cell BK152.out 2).trans rfl
       have hfs37 := blk_frozen BK152.out 2
       have hns37_0 := NB139_152.out
       have hms37_0 := NB152_139.out
       have hs38 : w34.cell? ⟨gb152, 3, none⟩ = some (.int .i64 0) := (blk_cell BK152.out 3).trans rfl
       have hfs38 := blk_frozen BK152.out 3
       have hns38_0 := NB139_152.out
       have hms38_0 := NB152_139.out
       refine skip_ (w1 := ?_) (by rfl) rfl ?_ ?_
       rotate_left
       · go_simp
         rfl
       refine hK.out _ _ ⟨((cell_far (p := ⟨gb152, _, none⟩) (by first | exact Kd.own_blk (Kd.R_ne HO_4.out BK152.out (by decide)) | (rw [add_block]; exact Kd.own_blk (Kd.R_ne HO_4.out BK152.out (by decide))) | (show (Addr.add _ _).block ≠ _; rw [add_block]; exact Kd.own_blk (Kd.R_ne HO_4.out BK152.out (by decide))) | (dsimp only; exact Kd.own_blk (Kd.R_ne HO_4.out BK152.out (by decide)))) _).trans (((cell_far (p := ⟨gb152, _, none⟩) (by first | exact Kd.own_blk (Kd.R_ne HO_4.out BK152.out (by decide)) | (rw [add_block]; exact Kd.own_blk (Kd.R_ne HO_4.out BK152.out (by decide))) | (show (Addr.add _ _).block ≠ _; rw [add_block]; exact Kd.own_blk (Kd.R_ne HO_4.out BK152.out (by decide))) | (dsimp only; exact Kd.own_blk (Kd.R_ne HO_4.out BK152.out (by decide)))) _).trans (((cell_far (p := ⟨gb152, _, none⟩) (by first | exact Kd.own_blk (Kd.R_ne HO_4.out BK152.out (by decide)) | (rw [add_block]; exact Kd.own_blk (Kd.R_ne HO_4.out BK152.out (by decide))) | (show (Addr.add _ _).block ≠ _; rw [add_block]; exact Kd.own_blk (Kd.R_ne HO_4.out BK152.out (by decide))) | (dsimp only; exact Kd.own_blk (Kd.R_ne HO_4.out BK152.out (by decide)))) _).trans (((cell_far (p := ⟨gb152, _, none⟩) (by first | exact Kd.own_blk (Kd.R_ne HO_4.out BK152.out (by decide)) | (rw [add_block]; exact Kd.own_blk (Kd.R_ne HO_4.out BK152.out (by decide))) | (show (Addr.add _ _).block ≠ _; rw [add_block]; exact Kd.own_blk (Kd.R_ne HO_4.out BK152.out (by decide))) | (dsimp only; exact Kd.own_blk (Kd.R_ne HO_4.out BK152.out (by decide)))) _).trans (hHeld.1)))))))), ((cell_far (p := ⟨gb152, _, none⟩) (by first | exact Kd.own_blk (Kd.R_ne HO_5.out BK152.out (by decide)) | (rw [add_block]; exact Kd.own_blk (Kd.R_ne HO_5.out BK152.out (by decide))) | (show (Addr.add _ _).block ≠ _; rw [add_block]; exact Kd.own_blk (Kd.R_ne HO_5.out BK152.out (by decide))) | (dsimp only; exact Kd.own_blk (Kd.R_ne HO_5.out BK152.out (by decide)))) _).trans (((cell_far (p := ⟨gb152, _, none⟩) (by first | exact Kd.own_blk (Kd.R_ne HO_5.out BK152.out (by decide)) | (rw [add_block]; exact Kd.own_blk (Kd.R_ne HO_5.out BK152.out (by decide))) | (show (Addr.add _ _).block ≠ _; rw [add_block]; exact Kd.own_blk (Kd.R_ne HO_5.out BK152.out (by decide))) | (dsimp only; exact Kd.own_blk (Kd.R_ne HO_5.out BK152.out (by decide)))) _).trans (((cell_far (p := ⟨gb152, _, none⟩) (by first | exact Kd.own_blk (Kd.R_ne HO_5.out BK152.out (by decide)) | (rw [add_block]; exact Kd.own_blk (Kd.R_ne HO_5.out BK152.out (by decide))) | (show (Addr.add _ _).block ≠ _; rw [add_block]; exact Kd.own_blk (Kd.R_ne HO_5.out BK152.out (by decide))) | (dsimp only; exact Kd.own_blk (Kd.R_ne HO_5.out BK152.out (by decide)))) _).trans (((cell_far (p := ⟨gb152, _, none⟩) (by first | exact Kd.own_blk (Kd.R_ne HO_5.out BK152.out (by decide)) | (rw [add_block]; exact Kd.own_blk (Kd.R_ne HO_5.out BK152.out (by decide))) | (show (Addr.add _ _).block ≠ _; rw [add_block]; exact Kd.own_blk (Kd.R_ne HO_5.out BK152.out (by decide))) | (dsimp only; exact Kd.own_blk (Kd.R_ne HO_5.out BK152.out (by decide)))) _).trans (hHeld.2.1)))))))), ((cell_far (p := ⟨gb152, _, none⟩) (by first | exact Kd.own_blk (Kd.R_ne HO_5.out BK152.out (by decide)) | (rw [add_block]; exact Kd.own_blk (Kd.R_ne HO_5.out BK152.out (by decide))) | (show (Addr.add _ _).block ≠ _; rw [add_block]; exact Kd.own_blk (Kd.R_ne HO_5.out BK152.out (by decide))) | (dsimp only; exact Kd.own_blk (Kd.R_ne HO_5.out BK152.out (by decide)))) _).trans (((cell_far (p := ⟨gb152, _, none⟩) (by first | exact Kd.own_blk (Kd.R_ne HO_5.out BK152.out (by decide)) | (rw [add_block]; exact Kd.own_blk (Kd.R_ne HO_5.out BK152.out (by decide))) | (show (Addr.add _ _).block ≠ _; rw [add_block]; exact Kd.own_blk (Kd.R_ne HO_5.out BK152.out (by decide))) | (dsimp only; exact Kd.own_blk (Kd.R_ne HO_5.out BK152.out (by decide)))) _).trans (((cell_far (p := ⟨gb152, _, none⟩) (by first | exact Kd.own_blk (Kd.R_ne HO_5.out BK152.out (by decide)) | (rw [add_block]; exact Kd.own_blk (Kd.R_ne HO_5.out BK152.out (by decide))) | (show (Addr.add _ _).block ≠ _; rw [add_block]; exact Kd.own_blk (Kd.R_ne HO_5.out BK152.out (by decide))) | (dsimp only; exact Kd.own_blk (Kd.R_ne HO_5.out BK152.out (by decide)))) _).trans (((cell_far (p := ⟨gb152, _, none⟩) (by first | exact Kd.own_blk (Kd.R_ne HO_5.out BK152.out (by decide)) | (rw [add_block]; exact Kd.own_blk (Kd.R_ne HO_5.out BK152.out (by decide))) | (show (Addr.add _ _).block ≠ _; rw [add_block]; exact Kd.own_blk (Kd.R_ne HO_5.out BK152.out (by decide))) | (dsimp only; exact Kd.own_blk (Kd.R_ne HO_5.out BK152.out (by decide)))) _).trans (hHeld.2.2.1)))))))), ((cell_far (p := ⟨gb152, _, none⟩) (by first | exact Kd.own_blk (Kd.R_ne HO_5.out BK152.out (by decide)) | (rw [add_block]; exact Kd.own_blk (Kd.R_ne HO_5.out BK152.out (by decide))) | (show (Addr.add _ _).block ≠ _; rw [add_block]; exact Kd.own_blk (Kd.R_ne HO_5.out BK152.out (by decide))) | (dsimp only; exact Kd.own_blk (Kd.R_ne HO_5.out BK152.out (by decide)))) _).trans (((cell_far (p := ⟨gb152, _, none⟩) (by first | exact Kd.own_blk (Kd.R_ne HO_5.out BK152.out (by decide)) | (rw [add_block]; exact Kd.own_blk (Kd.R_ne HO_5.out BK152.out (by decide))) | (show (Addr.add _ _).block ≠ _; rw [add_block]; exact Kd.own_blk (Kd.R_ne HO_5.out BK152.out (by decide))) | (dsimp only; exact Kd.own_blk (Kd.R_ne HO_5.out BK152.out (by decide)))) _).trans (((cell_far (p := ⟨gb152, _, none⟩) (by first | exact Kd.own_blk (Kd.R_ne HO_5.out BK152.out (by decide)) | (rw [add_block]; exact Kd.own_blk (Kd.R_ne HO_5.out BK152.out (by decide))) | (show (Addr.add _ _).block ≠ _; rw [add_block]; exact Kd.own_blk (Kd.R_ne HO_5.out BK152.out (by decide))) | (dsimp only; exact Kd.own_blk (Kd.R_ne HO_5.out BK152.out (by decide)))) _).trans (((cell_far (p := ⟨gb152, _, none⟩) (by first | exact Kd.own_blk (Kd.R_ne HO_5.out BK152.out (by decide)) | (rw [add_block]; exact Kd.own_blk (Kd.R_ne HO_5.out BK152.out (by decide))) | (show (Addr.add _ _).block ≠ _; rw [add_block]; exact Kd.own_blk (Kd.R_ne HO_5.out BK152.out (by decide))) | (dsimp only; exact Kd.own_blk (Kd.R_ne HO_5.out BK152.out (by decide)))) _).trans (hHeld.2.2.2))))))))⟩ (fun hHeld => ?_)
       clear hK K
       refine done_ (done_of HT_.out (by kernel_rfl)) ?_
       try go_wp2_with (first | ((with_reducible refine gate_callee (f := 16) rfl ?_); refine goesL_ (some 42) rfl rfl Tryd.func16 (by kernel_rfl) rfl #[.pointer (some ⟨gb152, 0, none⟩)] rfl (by (try simp only [List.map_toArray, List.map_cons, List.map_nil]); first | done | rfl | (simp only [List.length_drop, List.length_take]; rfl)) ?_; (with_reducible refine (spec_l22One.calls kj5 _ [(⟨rdOf ByteArray.empty t140 0, rd t144 0, rd t144 1, rd t144 2⟩ : S26)] false _ ?side1 A19.out).mono ?_); (case side1 => exact Go.Proofs.YtjmjbmahljlnlaaDoorX.rp_box (t := 26) (fr := (0, 0)) (by (with_reducible repeat (first | refine blk_drewN ?_ _ | refine blk_drew ?_ | refine blk_alloc ?_ _)); refine blk_put (cs := #[.string (rdOf ByteArray.empty t140 0), .int .i64 (rd t144 0), .int .i64 (rd t144 1), .int .i64 0]) ?_ 3 _ rfl; (with_reducible repeat (first | refine blk_drewN ?_ _ | refine blk_drew ?_ | refine blk_alloc ?_ _)); refine blk_put (cs := #[.string (rdOf ByteArray.empty t140 0), .int .i64 (rd t144 0), .int .i64 0, .int .i64 0]) ?_ 2 _ rfl; (with_reducible repeat (first | refine blk_drewN ?_ _ | refine blk_drew ?_ | refine blk_alloc ?_ _)); refine blk_put (cs := #[.string (rdOf ByteArray.empty t140 0), .int .i64 0, .int .i64 0, .int .i64 0]) ?_ 1 _ rfl; (with_reducible repeat (first | refine blk_drewN ?_ _ | refine blk_drew ?_ | refine blk_alloc ?_ _)); refine blk_put (cs := #[.string (⟨#[]⟩ : ByteArray), .int .i64 0, .int .i64 0, .int .i64 0]) ?_ 0 _ rfl; (with_reducible repeat (first | refine blk_drewN ?_ _ | refine blk_drew ?_ | refine blk_alloc ?_ _)); exact BK152.out) (k26_mk _ (⟨rdOf ByteArray.empty t140 0, rd t144 0, rd t144 1, rd t144 2⟩ : S26) )); rintro e w39 ⟨rfl, hb⟩; refine ⟨_, rfl, ?_⟩; have n0_ := mkA (Kd.R_below (by (with_reducible repeat (first | apply Kd.R_alloc | apply Kd.R_drewN | apply Kd.R_drew)); exact (Kd.R_mono (Kd.R_far (p := ⟨gb152, 3, none⟩) (Kd.R_far (p := ⟨gb152, 2, none⟩) (Kd.R_far (p := ⟨gb152, 1, none⟩) (Kd.R_far (p := ⟨gb152, 0, none⟩) (Kd.R_types HO_4.out BK152.out (by decide)) (fun _ hk => hk.2) (.string (rdOf ByteArray.empty t140 0))) (fun _ hk => hk.2) (.int .i64 (rd t144 0))) (fun _ hk => hk.2) (.int .i64 (rd t144 1))) (fun _ hk => hk.2) (.int .i64 (rd t144 2))) (fun _ h_ => h_.1))) hb); have n1_ := mkA (Kd.R_below (by (with_reducible repeat (first | apply Kd.R_alloc | apply Kd.R_drewN | apply Kd.R_drew)); exact (Kd.R_mono (Kd.R_far (p := ⟨gb152, 3, none⟩) (Kd.R_far (p := ⟨gb152, 2, none⟩) (Kd.R_far (p := ⟨gb152, 1, none⟩) (Kd.R_far (p := ⟨gb152, 0, none⟩) (Kd.R_types HO_5.out BK152.out (by decide)) (fun _ hk => hk.2) (.string (rdOf ByteArray.empty t140 0))) (fun _ hk => hk.2) (.int .i64 (rd t144 0))) (fun _ hk => hk.2) (.int .i64 (rd t144 1))) (fun _ hk => hk.2) (.int .i64 (rd t144 2))) (fun _ h_ => h_.1))) hb); have n2_ := mkA (blk_below (g := gb139) (o := .cells #[.string (⟨#[]⟩ : ByteArray), .int .i64 0, .int .i64 0, .int .i64 0] 26 (0, 0)) (by (with_reducible repeat (first | refine blk_drewN ?_ _ | refine blk_drew ?_ | refine blk_alloc ?_ _)); refine blk_far ?_ NB139_152.out _; (with_reducible repeat (first | refine blk_drewN ?_ _ | refine blk_drew ?_ | refine blk_alloc ?_ _)); refine blk_far ?_ NB139_152.out _; (with_reducible repeat (first | refine blk_drewN ?_ _ | refine blk_drew ?_ | refine blk_alloc ?_ _)); refine blk_far ?_ NB139_152.out _; (with_reducible repeat (first | refine blk_drewN ?_ _ | refine blk_drew ?_ | refine blk_alloc ?_ _)); refine blk_far ?_ NB139_152.out _; (with_reducible repeat (first | refine blk_drewN ?_ _ | refine blk_drew ?_ | refine blk_alloc ?_ _)); exact BK139.out) hb); have n3_ := mkA (blk_below (g := gb152) (o := .cells #[.string (rdOf ByteArray.empty t140 0), .int .i64 (rd t144 0), .int .i64 (rd t144 1), .int .i64 (rd t144 2)] 26 (0, 0)) (by (with_reducible repeat (first | refine blk_drewN ?_ _ | refine blk_drew ?_ | refine blk_alloc ?_ _)); refine blk_put (cs := #[.string (rdOf ByteArray.empty t140 0), .int .i64 (rd t144 0), .int .i64 (rd t144 1), .int .i64 0]) ?_ 3 _ rfl; (with_reducible repeat (first | refine blk_drewN ?_ _ | refine blk_drew ?_ | refine blk_alloc ?_ _)); refine blk_put (cs := #[.string (rdOf ByteArray.empty t140 0), .int .i64 (rd t144 0), .int .i64 0, .int .i64 0]) ?_ 2 _ rfl; (with_reducible repeat (first | refine blk_drewN ?_ _ | refine blk_drew ?_ | refine blk_alloc ?_ _)); refine blk_put (cs := #[.string (rdOf ByteArray.empty t140 0), .int .i64 0, .int .i64 0, .int .i64 0]) ?_ 1 _ rfl; (with_reducible repeat (first | refine blk_drewN ?_ _ | refine blk_drew ?_ | refine blk_alloc ?_ _)); refine blk_put (cs := #[.string (⟨#[]⟩ : ByteArray), .int .i64 0, .int .i64 0, .int .i64 0]) ?_ 0 _ rfl; (with_reducible repeat (first | refine blk_drewN ?_ _ | refine blk_drew ?_ | refine blk_alloc ?_ _)); exact BK152.out) hb); have n4_ := mkA (below_step (bs2_ HB.out GE139.out GE152.out) hb); clear HO_4; clear HO_5; clear BK139; clear BK152; clear HB; have HO_4 := n0_; have HO_5 := n1_; have BK139 := n2_; have BK152 := n3_; have HB := n4_; clear n0_ n1_ n2_ n3_ n4_; (try clear hb); (try clear hb2); (try clear hk); (try clear hi); have hnb40 := NB139_152.out; have hnc40 := NB152_139.out; have hcz41_0 : w39.cell? ⟨gb139, 0, none⟩ = some (.string (⟨#[]⟩ : ByteArray)) := (blk_cell BK139.out 0).trans rfl; have hcz41_1 : w39.cell? ⟨gb139, 1, none⟩ = some (.int .i64 0) := (blk_cell BK139.out 1).trans rfl; have hcz41_2 : w39.cell? ⟨gb139, 2, none⟩ = some (.int .i64 0) := (blk_cell BK139.out 2).trans rfl; have hcz41_3 : w39.cell? ⟨gb139, 3, none⟩ = some (.int .i64 0) := (blk_cell BK139.out 3).trans rfl; have hfz41_0 := blk_frozen BK139.out 0; have hfz41_1 := blk_frozen BK139.out 1; have hfz41_2 := blk_frozen BK139.out 2; have hfz41_3 := blk_frozen BK139.out 3))
       refine bodyPost_ret (results_ct rfl _ _ gb139 26 #[.string (⟨#[]⟩ : ByteArray), .int .i64 0, .int .i64 0, .int .i64 0] (0, 0) _ rfl (by (with_reducible repeat (first | refine blk_drewN ?_ _ | refine blk_drew ?_ | refine blk_alloc ?_ _)); refine blk_put (cs := #[.string (⟨#[]⟩ : ByteArray), .int .i64 0, .int .i64 0, .int .i64 0]) ?_ 3 _ rfl; (with_reducible repeat (first | refine blk_drewN ?_ _ | refine blk_drew ?_ | refine blk_alloc ?_ _)); refine blk_put (cs := #[.string (⟨#[]⟩ : ByteArray), .int .i64 0, .int .i64 0, .int .i64 0]) ?_ 2 _ rfl; (with_reducible repeat (first | refine blk_drewN ?_ _ | refine blk_drew ?_ | refine blk_alloc ?_ _)); refine blk_put (cs := #[.string (⟨#[]⟩ : ByteArray), .int .i64 0, .int .i64 0, .int .i64 0]) ?_ 1 _ rfl; (with_reducible repeat (first | refine blk_drewN ?_ _ | refine blk_drew ?_ | refine blk_alloc ?_ _)); refine blk_put (cs := #[.string (⟨#[]⟩ : ByteArray), .int .i64 0, .int .i64 0, .int .i64 0]) ?_ 0 _ rfl; (with_reducible repeat (first | refine blk_drewN ?_ _ | refine blk_drew ?_ | refine blk_alloc ?_ _)); exact BK139.out) Tryd.underlying26 rfl (by kernel_rfl)) rfl ?_
       exact ⟨by first | rfl | (simp [errW_none, errW_some] <;> rfl) | (simp [*, errW_none, errW_some] <;> rfl), by repeat (first | (with_reducible first | exact HB.out | apply below_alloc | apply pw_below_drewN | apply below_drew1 | refine below_set ?_ GE139.out | refine below_set ?_ GE152.out) | exact HB.out)⟩
end Go.Proofs.YtjmjbmahljlnlaaDoor.GFnExactReadCoat

-- Written by the session's own program (gen.py) out of the translation's print. Lean checks it.
import Derived.Test.YtnidibnhojedoaaGFnExactIsSymmetryx0
import Derived.Test.YtnidibnhojedoaaGFnExactIsSymmetryx10
import Derived.Test.YtnidibnhojedoaaGFnExactIsSymmetryx11
namespace Go.Proofs.Ytnidibnhojedoaa.GFnExactIsSymmetry
open Go.RowKit Go.Proofs.YtnidibnhojedoaaW.PrintWords Go.Proofs.YtnidibnhojedoaaW.PrintLast Go.Proofs.YtnidibnhojedoaaW.PrintMore
attribute [local go_sem] max2_int min2_int max_two min_two max_three min_three max_four min_four   -- for this text's walks alone
set_option linter.unusedVariables false
set_option linter.unusedSimpArgs false

/-! ### impl_IsSymmetry: function 36 -/
def impl_IsSymmetry.f (k : Nat) (a0_0 : Int) (a0_1 : Int) (l0_2 : List Int) (a1_0 : Int) (a1_1 : Int) (a1_2 : Int) : Option (Bool) := (impl_ValidMotion.f k a0_0 a0_1 l0_2 a1_0 a1_1 a1_2).bind fun t348 => (if t348 = true then ((impl_images.f k a0_0 a0_1 l0_2 a1_0 a1_1 a1_2).bind fun bt349 => (some bt349.2)) else (some false))
theorem impl_IsSymmetry.mono : ∀ a0 a1 a2 a3 a4 a5 k, LeO (impl_IsSymmetry.f k a0 a1 a2 a3 a4 a5) (impl_IsSymmetry.f (k + 1) a0 a1 a2 a3 a4 a5) := by
  intro a0 a1 a2 a3 a4 a5 k
  unfold impl_IsSymmetry.f
  repeat' first
      | (with_reducible exact impl_ValidMotion.mono _ _ _ _ _ _ _)
      | (with_reducible exact impl_images.mono _ _ _ _ _ _ _)
      | (with_reducible exact LeO.refl _)
      | (with_reducible exact LeO.none _)
      | (with_reducible refine LeO.ite ?_ ?_)
      | (with_reducible refine LeO.bind ?_ (fun _ => ?_))
      | exact impl_ValidMotion.mono _ _ _ _ _ _ _
      | exact impl_images.mono _ _ _ _ _ _ _
      | exact LeO.none _
      | refine LeO.ite ?_ ?_
      | refine LeO.bind ?_ (fun _ => ?_)
open List renaming setIfInBounds_toArray → sA, set_cons_zero → sB, set_cons_succ → sC
open Go.Proofs.YtnidibnhojedoaaW.PrintWords.Aside0 renaming mk → mkA
open Go.Proofs.YtnidibnhojedoaaX (dt_ bc_ p0_ p1_ bl_ cb_ bs0_ bs1_ bs2_ bs3_ bs4_ bs5_ bs6_ bs7_ bs8_ bs9_ bs10_ bs11_ bs12_)
set_option maxHeartbeats 8000000 in
set_option maxRecDepth 100000 in
theorem impl_IsSymmetry.calls (k : Nat) (a0_0 : Int) (a0_1 : Int) (A0_2 : Option Addr) (c0_2 : Nat) (l0_2 : List Int) (a1_0 : Int) (a1_1 : Int) (a1_2 : Int) (r : Bool) (w : World) (hr0_2 : Kd.C (Kd.int .i64) w A0_2 l0_2.length l0_2) (hc0_2 : l0_2.length ≤ c0_2) (h : impl_IsSymmetry.f k a0_0 a0_1 l0_2 a1_0 a1_1 a1_2 = some r) :
 Calls Try.prog 36 #[.agg #[.int .i64 a0_0, .int .i64 a0_1, .slice A0_2 l0_2.length c0_2], .agg #[.int .i64 a1_0, .int .i64 a1_1, .int .i64 a1_2]] w fun e w' => e = .returned (.bool r) ∧ Below w.heap.size w w' := by
 have hu29 := Try.underlying29
 have hu31 := Try.underlying31
 have HR0_2 := mkA hr0_2
 have HC0_2 := mkA hc0_2
 clear hr0_2 hc0_2
 have HB := mkA (Below.refl w.heap.size w)
 have H : ((impl_ValidMotion.f k a0_0 a0_1 l0_2 a1_0 a1_1 a1_2).bind fun t348 => (if t348 = true then ((impl_images.f k a0_0 a0_1 l0_2 a1_0 a1_1 a1_2).bind fun bt349 => (some bt349.2)) else (some false))) = some r := h
 clear h
 replace H := Option.bind_eq_some_iff.mp H
 obtain ⟨t348, A30, H⟩ := H
 replace H : (if t348 = true then ((impl_images.f k a0_0 a0_1 l0_2 a1_0 a1_1 a1_2).bind fun bt349 => (some bt349.2)) else (some false)) = some r := H
 have A3 := mkA A30
 clear A30
 by_cases c4 : t348 = true
 rotate_left
 · replace c4 := Bool.eq_false_iff.mpr c4
   subst c4
   have H1 : (some false) = some r := by rw [if_neg (show ¬ (false = true) by decide)] at H; exact H
   clear H
   have H := H1
   clear H1
   obtain rfl := Option.some.inj H
   go_enter Try.func36, Try.ntmps36
   go_wp2_with (first | ((with_reducible refine gate_dst (N := 2) rfl ?_); refine box_event ?hg (N := 2) ?hd (cs := #[.int .i64 a0_0, .int .i64 a0_1, .slice A0_2 l0_2.length c0_2]) (t := 29) ?hr ?_; (case hd => rfl); (case hg => rfl); (case hr => first | (go_simp; done) | (go_simp; rfl)); intro gb346 hg w15 hbox hb; have n0_ := mkA (below_step (bs0_ HB.out) hb); have n1_ := mkA (hbox); have n2_ := mkA ((by rw [hg]; exact (below_size (bs0_ HB.out)) : w.heap.size ≤ gb346)); have n3_ := mkA ((by rw [hg]; exact (below_size (bs0_ HB.out)) : w.heap.size ≤ gb346)); clear HB; have HB := n0_; have BK346 := n1_; have GW346 := n2_; have GE346 := n3_; clear n0_ n1_ n2_ n3_; clear hb hbox hg) | ((with_reducible refine gate_dst (N := 3) rfl ?_); refine box_event ?hg (N := 3) ?hd (cs := #[.int .i64 a1_0, .int .i64 a1_1, .int .i64 a1_2]) (t := 31) ?hr ?_; (case hd => rfl); (case hg => rfl); (case hr => first | (go_simp; done) | (go_simp; rfl)); intro gb347 hg w16 hbox hb; have n0_ := mkA (blk_below (g := gb346) (o := .cells #[.int .i64 a0_0, .int .i64 a0_1, .slice A0_2 l0_2.length c0_2] 29 (0, 0)) (bl_ BK346.out) hb); have n1_ := mkA (below_step (bs1_ HB.out GE346.out) hb); have n2_ := mkA (hbox); have n3_ := mkA ((by rw [hg]; exact (below_size (bs1_ HB.out GE346.out)) : w.heap.size ≤ gb347)); have n4_ := mkA ((by rw [hg]; exact (below_size (bs1_ HB.out GE346.out)) : w.heap.size ≤ gb347)); have n5_ := mkA ((by rw [hg]; exact Nat.ne_of_lt (blk_lt (g := gb346) (o := .cells #[.int .i64 a0_0, .int .i64 a0_1, .slice A0_2 l0_2.length c0_2] 29 (0, 0)) (bl_ BK346.out)) : gb346 ≠ gb347)); have n6_ := mkA ((by rw [hg]; exact Nat.ne_of_gt (blk_lt (g := gb346) (o := .cells #[.int .i64 a0_0, .int .i64 a0_1, .slice A0_2 l0_2.length c0_2] 29 (0, 0)) (bl_ BK346.out)) : gb347 ≠ gb346)); clear BK346; clear HB; have BK346 := n0_; have HB := n1_; have BK347 := n2_; have GW347 := n3_; have GE347 := n4_; have NB346_347 := n5_; have NB347_346 := n6_; clear n0_ n1_ n2_ n3_ n4_ n5_ n6_; clear hb hbox hg; have hnb17 := NB346_347.out; have hnc17 := NB347_346.out; have hcz18_0 : w16.cell? ⟨gb346, 0, none⟩ = some (.int .i64 a0_0) := (blk_cell BK346.out 0).trans rfl; have hcz18_1 : w16.cell? ⟨gb346, 1, none⟩ = some (.int .i64 a0_1) := (blk_cell BK346.out 1).trans rfl; have hcz18_2 : w16.cell? ⟨gb346, 2, none⟩ = some (.slice A0_2 l0_2.length c0_2) := (blk_cell BK346.out 2).trans rfl; have hfz18_0 := blk_frozen BK346.out 0; have hfz18_1 := blk_frozen BK346.out 1; have hfz18_2 := blk_frozen BK346.out 2; have hcz19_0 : w16.cell? ⟨gb347, 0, none⟩ = some (.int .i64 a1_0) := (blk_cell BK347.out 0).trans rfl; have hcz19_1 : w16.cell? ⟨gb347, 1, none⟩ = some (.int .i64 a1_1) := (blk_cell BK347.out 1).trans rfl; have hcz19_2 : w16.cell? ⟨gb347, 2, none⟩ = some (.int .i64 a1_2) := (blk_cell BK347.out 2).trans rfl; have hfz19_0 := blk_frozen BK347.out 0; have hfz19_1 := blk_frozen BK347.out 1; have hfz19_2 := blk_frozen BK347.out 2) | ((with_reducible refine gate_callee (f := 19) rfl ?_); refine goesL_ (some 9) rfl rfl Try.func19 (by kernel_rfl) rfl #[.agg #[.int .i64 a0_0, .int .i64 a0_1, .slice A0_2 l0_2.length c0_2], .agg #[.int .i64 a1_0, .int .i64 a1_1, .int .i64 a1_2]] rfl (by (try simp only [List.map_toArray, List.map_cons, List.map_nil]); first | done | rfl | (simp only [List.length_drop, List.length_take]; rfl)) ?_; (with_reducible refine (impl_ValidMotion.calls k a0_0 a0_1 _ _ l0_2 a1_0 a1_1 a1_2 false _ ?side1 ?side2 A3.out).mono ?_); (case side1 => exact cb_ HR0_2.out HB.out); (case side2 => exact HC0_2.out); rintro e w20 ⟨rfl, hb⟩; refine ⟨_, rfl, ?_⟩; have n0_ := mkA (blk_below (g := gb346) (o := .cells #[.int .i64 a0_0, .int .i64 a0_1, .slice A0_2 l0_2.length c0_2] 29 (0, 0)) (bl_ BK346.out) hb); have n1_ := mkA (blk_below (g := gb347) (o := .cells #[.int .i64 a1_0, .int .i64 a1_1, .int .i64 a1_2] 31 (0, 0)) (bl_ BK347.out) hb); have n2_ := mkA (below_step (bs2_ HB.out GE346.out GE347.out) hb); clear BK346; clear BK347; clear HB; have BK346 := n0_; have BK347 := n1_; have HB := n2_; clear n0_ n1_ n2_; (try clear hb); (try clear hb2); (try clear hk); (try clear hi)))
   go_ret
   exact ⟨by first | rfl | (simp [errW_none, errW_some] <;> rfl) | (simp [*, errW_none, errW_some] <;> rfl), by repeat (first | (with_reducible first | exact HB.out | apply below_alloc | apply pw_below_drewN | apply below_drew1 | refine below_set ?_ GE346.out | refine below_set ?_ GE347.out) | exact HB.out)⟩

 subst c4
 have H1 : ((impl_images.f k a0_0 a0_1 l0_2 a1_0 a1_1 a1_2).bind fun bt349 => (some bt349.2)) = some r := by rw [if_pos rfl] at H; exact H
 clear H
 have H := H1
 clear H1
 replace H := Option.bind_eq_some_iff.mp H
 obtain ⟨⟨t349, t352⟩, A50, H⟩ := H
 replace H : (some t352) = some r := H
 have A5 := mkA A50
 clear A50
 obtain rfl := Option.some.inj H
 go_enter Try.func36, Try.ntmps36
 go_wp2_with (first | ((with_reducible refine gate_dst (N := 2) rfl ?_); refine box_event ?hg (N := 2) ?hd (cs := #[.int .i64 a0_0, .int .i64 a0_1, .slice A0_2 l0_2.length c0_2]) (t := 29) ?hr ?_; (case hd => rfl); (case hg => rfl); (case hr => first | (go_simp; done) | (go_simp; rfl)); intro gb346 hg w6 hbox hb; have n0_ := mkA (below_step (bs0_ HB.out) hb); have n1_ := mkA (hbox); have n2_ := mkA ((by rw [hg]; exact (below_size (bs0_ HB.out)) : w.heap.size ≤ gb346)); have n3_ := mkA ((by rw [hg]; exact (below_size (bs0_ HB.out)) : w.heap.size ≤ gb346)); clear HB; have HB := n0_; have BK346 := n1_; have GW346 := n2_; have GE346 := n3_; clear n0_ n1_ n2_ n3_; clear hb hbox hg) | ((with_reducible refine gate_dst (N := 3) rfl ?_); refine box_event ?hg (N := 3) ?hd (cs := #[.int .i64 a1_0, .int .i64 a1_1, .int .i64 a1_2]) (t := 31) ?hr ?_; (case hd => rfl); (case hg => rfl); (case hr => first | (go_simp; done) | (go_simp; rfl)); intro gb347 hg w7 hbox hb; have n0_ := mkA (blk_below (g := gb346) (o := .cells #[.int .i64 a0_0, .int .i64 a0_1, .slice A0_2 l0_2.length c0_2] 29 (0, 0)) (bl_ BK346.out) hb); have n1_ := mkA (below_step (bs1_ HB.out GE346.out) hb); have n2_ := mkA (hbox); have n3_ := mkA ((by rw [hg]; exact (below_size (bs1_ HB.out GE346.out)) : w.heap.size ≤ gb347)); have n4_ := mkA ((by rw [hg]; exact (below_size (bs1_ HB.out GE346.out)) : w.heap.size ≤ gb347)); have n5_ := mkA ((by rw [hg]; exact Nat.ne_of_lt (blk_lt (g := gb346) (o := .cells #[.int .i64 a0_0, .int .i64 a0_1, .slice A0_2 l0_2.length c0_2] 29 (0, 0)) (bl_ BK346.out)) : gb346 ≠ gb347)); have n6_ := mkA ((by rw [hg]; exact Nat.ne_of_gt (blk_lt (g := gb346) (o := .cells #[.int .i64 a0_0, .int .i64 a0_1, .slice A0_2 l0_2.length c0_2] 29 (0, 0)) (bl_ BK346.out)) : gb347 ≠ gb346)); clear BK346; clear HB; have BK346 := n0_; have HB := n1_; have BK347 := n2_; have GW347 := n3_; have GE347 := n4_; have NB346_347 := n5_; have NB347_346 := n6_; clear n0_ n1_ n2_ n3_ n4_ n5_ n6_; clear hb hbox hg; have hnb8 := NB346_347.out; have hnc8 := NB347_346.out; have hcz9_0 : w7.cell? ⟨gb346, 0, none⟩ = some (.int .i64 a0_0) := (blk_cell BK346.out 0).trans rfl; have hcz9_1 : w7.cell? ⟨gb346, 1, none⟩ = some (.int .i64 a0_1) := (blk_cell BK346.out 1).trans rfl; have hcz9_2 : w7.cell? ⟨gb346, 2, none⟩ = some (.slice A0_2 l0_2.length c0_2) := (blk_cell BK346.out 2).trans rfl; have hfz9_0 := blk_frozen BK346.out 0; have hfz9_1 := blk_frozen BK346.out 1; have hfz9_2 := blk_frozen BK346.out 2; have hcz10_0 : w7.cell? ⟨gb347, 0, none⟩ = some (.int .i64 a1_0) := (blk_cell BK347.out 0).trans rfl; have hcz10_1 : w7.cell? ⟨gb347, 1, none⟩ = some (.int .i64 a1_1) := (blk_cell BK347.out 1).trans rfl; have hcz10_2 : w7.cell? ⟨gb347, 2, none⟩ = some (.int .i64 a1_2) := (blk_cell BK347.out 2).trans rfl; have hfz10_0 := blk_frozen BK347.out 0; have hfz10_1 := blk_frozen BK347.out 1; have hfz10_2 := blk_frozen BK347.out 2) | ((with_reducible refine gate_callee (f := 19) rfl ?_); refine goesL_ (some 9) rfl rfl Try.func19 (by kernel_rfl) rfl #[.agg #[.int .i64 a0_0, .int .i64 a0_1, .slice A0_2 l0_2.length c0_2], .agg #[.int .i64 a1_0, .int .i64 a1_1, .int .i64 a1_2]] rfl (by (try simp only [List.map_toArray, List.map_cons, List.map_nil]); first | done | rfl | (simp only [List.length_drop, List.length_take]; rfl)) ?_; (with_reducible refine (impl_ValidMotion.calls k a0_0 a0_1 _ _ l0_2 a1_0 a1_1 a1_2 true _ ?side1 ?side2 A3.out).mono ?_); (case side1 => exact cb_ HR0_2.out HB.out); (case side2 => exact HC0_2.out); rintro e w11 ⟨rfl, hb⟩; refine ⟨_, rfl, ?_⟩; have n0_ := mkA (blk_below (g := gb346) (o := .cells #[.int .i64 a0_0, .int .i64 a0_1, .slice A0_2 l0_2.length c0_2] 29 (0, 0)) (bl_ BK346.out) hb); have n1_ := mkA (blk_below (g := gb347) (o := .cells #[.int .i64 a1_0, .int .i64 a1_1, .int .i64 a1_2] 31 (0, 0)) (bl_ BK347.out) hb); have n2_ := mkA (below_step (bs2_ HB.out GE346.out GE347.out) hb); clear BK346; clear BK347; clear HB; have BK346 := n0_; have BK347 := n1_; have HB := n2_; clear n0_ n1_ n2_; (try clear hb); (try clear hb2); (try clear hk); (try clear hi); have hcz12_0 : w11.cell? ⟨gb346, 0, none⟩ = some (.int .i64 a0_0) := (blk_cell BK346.out 0).trans rfl; have hcz12_1 : w11.cell? ⟨gb346, 1, none⟩ = some (.int .i64 a0_1) := (blk_cell BK346.out 1).trans rfl; have hcz12_2 : w11.cell? ⟨gb346, 2, none⟩ = some (.slice A0_2 l0_2.length c0_2) := (blk_cell BK346.out 2).trans rfl; have hfz12_0 := blk_frozen BK346.out 0; have hfz12_1 := blk_frozen BK346.out 1; have hfz12_2 := blk_frozen BK346.out 2; have hcz13_0 : w11.cell? ⟨gb347, 0, none⟩ = some (.int .i64 a1_0) := (blk_cell BK347.out 0).trans rfl; have hcz13_1 : w11.cell? ⟨gb347, 1, none⟩ = some (.int .i64 a1_1) := (blk_cell BK347.out 1).trans rfl; have hcz13_2 : w11.cell? ⟨gb347, 2, none⟩ = some (.int .i64 a1_2) := (blk_cell BK347.out 2).trans rfl; have hfz13_0 := blk_frozen BK347.out 0; have hfz13_1 := blk_frozen BK347.out 1; have hfz13_2 := blk_frozen BK347.out 2) | ((with_reducible refine gate_callee (f := 74) rfl ?_); refine goesL_ (some 14) rfl rfl Try.func74 (by kernel_rfl) rfl #[.agg #[.int .i64 a0_0, .int .i64 a0_1, .slice A0_2 l0_2.length c0_2], .agg #[.int .i64 a1_0, .int .i64 a1_1, .int .i64 a1_2]] rfl (by (try simp only [List.map_toArray, List.map_cons, List.map_nil]); first | done | rfl | (simp only [List.length_drop, List.length_take]; rfl)) ?_; (with_reducible refine (impl_images.calls k a0_0 a0_1 _ _ l0_2 a1_0 a1_1 a1_2 t349 t352 _ ?side1 ?side2 A5.out).mono ?_); (case side1 => exact cb_ HR0_2.out HB.out); (case side2 => exact HC0_2.out); rintro e w14 ⟨v350, rfl, ho0, hb⟩; refine ⟨_, rfl, ?_⟩; have n0_ := mkA (Kd.R_lower ho0 (below_size (bs2_ HB.out GE346.out GE347.out))); have n1_ := mkA (blk_below (g := gb346) (o := .cells #[.int .i64 a0_0, .int .i64 a0_1, .slice A0_2 l0_2.length c0_2] 29 (0, 0)) (bl_ BK346.out) hb); have n2_ := mkA (blk_below (g := gb347) (o := .cells #[.int .i64 a1_0, .int .i64 a1_1, .int .i64 a1_2] 31 (0, 0)) (bl_ BK347.out) hb); have n3_ := mkA (below_step (bs2_ HB.out GE346.out GE347.out) hb); clear BK346; clear BK347; clear HB; have HO351 := n0_; have BK346 := n1_; have BK347 := n2_; have HB := n3_; clear n0_ n1_ n2_ n3_; (try clear hb); (try clear hb2); (try clear hk); (try clear hi); (try clear ho0)))
 go_ret
 exact ⟨by first | rfl | (simp [errW_none, errW_some] <;> rfl) | (simp [*, errW_none, errW_some] <;> rfl), by repeat (first | (with_reducible first | exact HB.out | apply below_alloc | apply pw_below_drewN | apply below_drew1 | refine below_set ?_ GE346.out | refine below_set ?_ GE347.out) | exact HB.out)⟩
end Go.Proofs.Ytnidibnhojedoaa.GFnExactIsSymmetry

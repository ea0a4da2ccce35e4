-- Written by the session's own program (gen.py) out of the translation's print. Lean checks it.
import Derived.Test.YtopopjkoanpjiaaDoorGFnExactReadTilingx0
import Derived.Test.YtopopjkoanpjiaaDoorGFnExactReadTilingx1
import Derived.Test.YtopopjkoanpjiaaDoorGFnExactReadTilingx6
import Derived.Test.YtopopjkoanpjiaaDoorGFnExactReadTilingx9
import Derived.Test.YtopopjkoanpjiaaDoorGFnExactReadTilingx10
namespace Go.Proofs.YtopopjkoanpjiaaDoor.GFnExactReadTiling
open Go.RowKit Go.Proofs.YtopopjkoanpjiaaDoorW.PrintWords Go.Proofs.YtopopjkoanpjiaaDoorW.PrintLast Go.Proofs.YtopopjkoanpjiaaDoorW.PrintMore
attribute [local go_sem] max2_int min2_int max_two min_two max_three min_three max_four min_four   -- for this text's walks alone
set_option linter.unusedVariables false
set_option linter.unusedSimpArgs false

/-! ### laws_FnExactReadTiling: function 4 -/
mutual
def laws_FnExactReadTiling.j0 : Nat → ByteArray → Bool → Bool → List (Unit) → Int → Int → List Int → Int → Int → List Int → Option (Bool)
  | 0, _, _, _, _, _, _, _, _, _, _ => none
  | k + 1, x0, x4, x32, x961, x302000, x302001, x302002, x309000, x309001, x309002 => if x32 = true then (some false) else ((laws_markTiling.f k x309000 x309001 x309002 1).bind fun bt310 => ((laws_heldTiling.f k x309000 x309001 bt310.2 1).bind fun t312 => (if t312 < 0 then (some false) else (if t312 = bt310.1 then ((impl_ReadTiling.f k x0 x961).bind fun bt313 => ((laws_eqTiling.f k bt313.1 bt313.2.1 bt313.2.2.1 x302000 x302001 x302002).bind fun t320 => (if t320 = true then (laws_FnExactReadTiling.j1 k bt310.1 (bt313.2.2.2 != x4) x309000 x309001 bt310.2) else (laws_FnExactReadTiling.j1 k bt310.1 true x309000 x309001 bt310.2)))) else (some false)))))
def laws_FnExactReadTiling.j1 : Nat → Int → Bool → Int → Int → List Int → Option (Bool)
  | 0, _, _, _, _, _ => none
  | k + 1, x7, x57, x309000, x309001, x309002 => if x57 = true then (some false) else ((laws_heldTiling.f k x309000 x309001 x309002 1).bind fun t321 => (if t321 < 0 then (some false) else (if t321 = x7 then (some true) else (some false))))
end
def laws_FnExactReadTiling.f (k : Nat) (a0 : ByteArray) (l1 : List (Unit)) : Option (Bool) := if (a0.size : Int) > 1048576 then (some true) else ((spec_ReadTiling.f k a0).bind fun bt295 => ((impl_ReadTiling.f k a0 l1).bind fun bt302 => ((laws_eqTiling.f k bt302.1 bt302.2.1 bt302.2.2.1 bt295.1 bt295.2.1 bt295.2.2.1).bind fun t309 => (if t309 = true then (laws_FnExactReadTiling.j0 k a0 bt295.2.2.2 (bt302.2.2.2 != bt295.2.2.2) l1 bt295.1 bt295.2.1 bt295.2.2.1 bt302.1 bt302.2.1 bt302.2.2.1) else (laws_FnExactReadTiling.j0 k a0 bt295.2.2.2 true l1 bt295.1 bt295.2.1 bt295.2.2.1 bt302.1 bt302.2.1 bt302.2.2.1)))))
theorem laws_FnExactReadTiling.mono_l : ∀ k, (∀ y0 y1 y2 y3 y4 y5 y6 y7 y8 y9, LeO (laws_FnExactReadTiling.j0 k y0 y1 y2 y3 y4 y5 y6 y7 y8 y9) (laws_FnExactReadTiling.j0 (k + 1) y0 y1 y2 y3 y4 y5 y6 y7 y8 y9)) ∧ (∀ y0 y1 y2 y3 y4, LeO (laws_FnExactReadTiling.j1 k y0 y1 y2 y3 y4) (laws_FnExactReadTiling.j1 (k + 1) y0 y1 y2 y3 y4))
  | 0 => ⟨fun _ _ _ _ _ _ _ _ _ _ r h => by simp [laws_FnExactReadTiling.j0] at h, fun _ _ _ _ _ r h => by simp [laws_FnExactReadTiling.j1] at h⟩
  | k + 1 => by
    obtain ⟨ih0, ih1⟩ := laws_FnExactReadTiling.mono_l k
    refine ⟨?_, ?_⟩
    · intro y0 y1 y2 y3 y4 y5 y6 y7 y8 y9
      unfold laws_FnExactReadTiling.j0
      repeat' first
      | (with_reducible exact ih0 _ _ _ _ _ _ _ _ _ _)
      | (with_reducible exact ih1 _ _ _ _ _)
      | (with_reducible exact impl_ReadTiling.mono _ _ _)
      | (with_reducible exact laws_eqTiling.mono _ _ _ _ _ _ _)
      | (with_reducible exact laws_heldTiling.mono _ _ _ _ _)
      | (with_reducible exact laws_markTiling.mono _ _ _ _ _)
      | (with_reducible exact spec_ReadTiling.mono _ _)
      | (with_reducible exact LeO.refl _)
      | (with_reducible exact LeO.none _)
      | (with_reducible refine LeO.ite ?_ ?_)
      | (with_reducible refine LeO.bind ?_ (fun _ => ?_))
      | exact ih0 _ _ _ _ _ _ _ _ _ _
      | exact ih1 _ _ _ _ _
      | exact impl_ReadTiling.mono _ _ _
      | exact laws_eqTiling.mono _ _ _ _ _ _ _
      | exact laws_heldTiling.mono _ _ _ _ _
      | exact laws_markTiling.mono _ _ _ _ _
      | exact spec_ReadTiling.mono _ _
      | exact LeO.none _
      | refine LeO.ite ?_ ?_
      | refine LeO.bind ?_ (fun _ => ?_)
    · intro y0 y1 y2 y3 y4
      unfold laws_FnExactReadTiling.j1
      repeat' first
      | (with_reducible exact ih0 _ _ _ _ _ _ _ _ _ _)
      | (with_reducible exact ih1 _ _ _ _ _)
      | (with_reducible exact impl_ReadTiling.mono _ _ _)
      | (with_reducible exact laws_eqTiling.mono _ _ _ _ _ _ _)
      | (with_reducible exact laws_heldTiling.mono _ _ _ _ _)
      | (with_reducible exact laws_markTiling.mono _ _ _ _ _)
      | (with_reducible exact spec_ReadTiling.mono _ _)
      | (with_reducible exact LeO.refl _)
      | (with_reducible exact LeO.none _)
      | (with_reducible refine LeO.ite ?_ ?_)
      | (with_reducible refine LeO.bind ?_ (fun _ => ?_))
      | exact ih0 _ _ _ _ _ _ _ _ _ _
      | exact ih1 _ _ _ _ _
      | exact impl_ReadTiling.mono _ _ _
      | exact laws_eqTiling.mono _ _ _ _ _ _ _
      | exact laws_heldTiling.mono _ _ _ _ _
      | exact laws_markTiling.mono _ _ _ _ _
      | exact spec_ReadTiling.mono _ _
      | exact LeO.none _
      | refine LeO.ite ?_ ?_
      | refine LeO.bind ?_ (fun _ => ?_)
theorem laws_FnExactReadTiling.mono : ∀ a0 a1 k, LeO (laws_FnExactReadTiling.f k a0 a1) (laws_FnExactReadTiling.f (k + 1) a0 a1) := by
  intro a0 a1 k
  obtain ⟨ih0, ih1⟩ := laws_FnExactReadTiling.mono_l k
  unfold laws_FnExactReadTiling.f
  repeat' first
      | (with_reducible exact ih0 _ _ _ _ _ _ _ _ _ _)
      | (with_reducible exact ih1 _ _ _ _ _)
      | (with_reducible exact impl_ReadTiling.mono _ _ _)
      | (with_reducible exact laws_eqTiling.mono _ _ _ _ _ _ _)
      | (with_reducible exact laws_heldTiling.mono _ _ _ _ _)
      | (with_reducible exact laws_markTiling.mono _ _ _ _ _)
      | (with_reducible exact spec_ReadTiling.mono _ _)
      | (with_reducible exact LeO.refl _)
      | (with_reducible exact LeO.none _)
      | (with_reducible refine LeO.ite ?_ ?_)
      | (with_reducible refine LeO.bind ?_ (fun _ => ?_))
      | exact ih0 _ _ _ _ _ _ _ _ _ _
      | exact ih1 _ _ _ _ _
      | exact impl_ReadTiling.mono _ _ _
      | exact laws_eqTiling.mono _ _ _ _ _ _ _
      | exact laws_heldTiling.mono _ _ _ _ _
      | exact laws_markTiling.mono _ _ _ _ _
      | exact spec_ReadTiling.mono _ _
      | exact LeO.none _
      | refine LeO.ite ?_ ?_
      | refine LeO.bind ?_ (fun _ => ?_)
open List renaming setIfInBounds_toArray → sA, set_cons_zero → sB, set_cons_succ → sC
open Go.Proofs.YtopopjkoanpjiaaDoorW.PrintWords.Aside0 renaming mk → mkA
open Go.Proofs.YtopopjkoanpjiaaDoorX (dt_ bc_ p0_ p1_ bl_ cb_ bs0_ bs1_ bs2_ bs3_ bs4_ bs5_ bs6_ bs7_ bs8_ bs9_ bs10_ bs11_ bs12_)
set_option maxHeartbeats 8000000 in
set_option maxRecDepth 100000 in
theorem laws_FnExactReadTiling.calls (k : Nat) (a0 : ByteArray) (l1 : List (Unit)) (r : Bool) (w : World) (hr1 : Kd.C Go.Proofs.YtopopjkoanpjiaaDoorX.kLib w (some ⟨0, 0, none⟩) l1.length l1) (h : laws_FnExactReadTiling.f k a0 l1 = some r) :
 Calls Tryd.prog 4 #[.string a0] w fun e w' => e = .returned (.bool r) ∧ Below w.heap.size w w' := by
 have hu27 := Tryd.underlying27
 have HR1 := mkA hr1
 clear hr1
 have HB := mkA (Below.refl w.heap.size w)
 have H : (if (a0.size : Int) > 1048576 then (some true) else ((spec_ReadTiling.f k a0).bind fun bt295 => ((impl_ReadTiling.f k a0 l1).bind fun bt302 => ((laws_eqTiling.f k bt302.1 bt302.2.1 bt302.2.2.1 bt295.1 bt295.2.1 bt295.2.2.1).bind fun t309 => (if t309 = true then (laws_FnExactReadTiling.j0 k a0 bt295.2.2.2 (bt302.2.2.2 != bt295.2.2.2) l1 bt295.1 bt295.2.1 bt295.2.2.1 bt302.1 bt302.2.1 bt302.2.2.1) else (laws_FnExactReadTiling.j0 k a0 bt295.2.2.2 true l1 bt295.1 bt295.2.1 bt295.2.2.1 bt302.1 bt302.2.1 bt302.2.2.1)))))) = some r := h
 clear h
 by_cases c3 : (a0.size : Int) > 1048576
 · rw [if_pos c3] at H
   have c3b0 : decide (1048576 < (a0.size : Int)) = true := decide_eq_true c3
   have c3b1 : decide (1048576 < a0.size) = true := decide_eq_true (by omega)
   clear c3
   obtain rfl := Option.some.inj H
   go_enter Tryd.func4, Tryd.ntmps4
   go_wp2
   go_ret
   exact ⟨by first | rfl | (simp [errW_none, errW_some] <;> rfl) | (simp [*, errW_none, errW_some] <;> rfl), by repeat (first | (with_reducible first | exact HB.out | apply below_alloc | apply pw_below_drewN | apply below_drew1) | exact HB.out)⟩
 · rw [if_neg c3] at H
   have c3b0 : decide (1048576 < (a0.size : Int)) = false := decide_eq_false c3
   have c3b1 : decide (1048576 < a0.size) = false := decide_eq_false (by omega)
   clear c3
   replace H := Option.bind_eq_some_iff.mp H
   obtain ⟨⟨t295, t296, t297, t300⟩, A40, H⟩ := H
   replace H : ((impl_ReadTiling.f k a0 l1).bind fun bt302 => ((laws_eqTiling.f k bt302.1 bt302.2.1 bt302.2.2.1 t295 t296 t297).bind fun t309 => (if t309 = true then (laws_FnExactReadTiling.j0 k a0 t300 (bt302.2.2.2 != t300) l1 t295 t296 t297 bt302.1 bt302.2.1 bt302.2.2.1) else (laws_FnExactReadTiling.j0 k a0 t300 true l1 t295 t296 t297 bt302.1 bt302.2.1 bt302.2.2.1)))) = some r := H
   have A4 := mkA A40
   clear A40
   replace H := Option.bind_eq_some_iff.mp H
   obtain ⟨⟨t302, t303, t304, t307⟩, A50, H⟩ := H
   replace H : ((laws_eqTiling.f k t302 t303 t304 t295 t296 t297).bind fun t309 => (if t309 = true then (laws_FnExactReadTiling.j0 k a0 t300 (t307 != t300) l1 t295 t296 t297 t302 t303 t304) else (laws_FnExactReadTiling.j0 k a0 t300 true l1 t295 t296 t297 t302 t303 t304))) = some r := H
   have A5 := mkA A50
   clear A50
   have HC6 := mkA H
   clear H
   go_enter Tryd.func4, Tryd.ntmps4
   go_upto_region 5 with (first | ((with_reducible refine gate_callee (f := 10) rfl ?_); refine goesL_ (some 16) rfl rfl Tryd.func10 (by kernel_rfl) rfl #[.string a0] rfl (by (try simp only [List.map_toArray, List.map_cons, List.map_nil]); first | done | rfl | (simp only [List.length_drop, List.length_take]; rfl)) ?_; (with_reducible refine (spec_ReadTiling.calls k a0 t295 t296 t297 t300 _ A4.out).mono ?_); rintro e w7 ⟨v298, rfl, ho0, hb⟩; refine ⟨_, rfl, ?_⟩; have n0_ := mkA (Kd.R_lower ho0 (below_size (bs0_ HB.out))); have n1_ := mkA (below_step (bs0_ HB.out) hb); clear HB; have HO299 := n0_; have HB := n1_; clear n0_ n1_; (try clear hb); (try clear hb2); (try clear hk); (try clear hi); (try clear ho0)) | ((with_reducible refine gate_dst (N := 3) rfl ?_); refine box_event ?hg (N := 3) ?hd (cs := #[.int .i64 0, .int .i64 0, .slice none 0 0]) (t := 27) ?hr ?_; (case hd => rfl); (case hg => rfl); (case hr => first | (go_simp; done) | (go_simp; rfl)); intro gb301 hg w8 hbox hb; have n0_ := mkA (Kd.R_below (by (with_reducible repeat (first | apply Kd.R_alloc | apply Kd.R_drewN | apply Kd.R_drew)); exact HO299.out) hb); have n1_ := mkA (below_step (bs0_ HB.out) hb); have n2_ := mkA (hbox); have n3_ := mkA ((by rw [hg]; exact (below_size (bs0_ HB.out)) : w.heap.size ≤ gb301)); have n4_ := mkA ((by rw [hg]; exact (below_size (bs0_ HB.out)) : w.heap.size ≤ gb301)); clear HO299; clear HB; have HO299 := n0_; have HB := n1_; have BK301 := n2_; have GW301 := n3_; have GE301 := n4_; clear n0_ n1_ n2_ n3_ n4_; clear hb hbox hg; have hcz9_0 : w8.cell? ⟨gb301, 0, none⟩ = some (.int .i64 0) := (blk_cell BK301.out 0).trans rfl; have hcz9_1 : w8.cell? ⟨gb301, 1, none⟩ = some (.int .i64 0) := (blk_cell BK301.out 1).trans rfl; have hcz9_2 : w8.cell? ⟨gb301, 2, none⟩ = some (.slice none 0 0) := (blk_cell BK301.out 2).trans rfl; have hfz9_0 := blk_frozen BK301.out 0; have hfz9_1 := blk_frozen BK301.out 1; have hfz9_2 := blk_frozen BK301.out 2; obtain ⟨Ao10, co10, eo10⟩ := Kd.R_slice HO299.out; subst eo10) | ((with_reducible refine gate_callee (f := 11) rfl ?_); refine goesL_ (some 21) rfl rfl Tryd.func11 (by kernel_rfl) rfl #[.string a0] rfl (by (try simp only [List.map_toArray, List.map_cons, List.map_nil]); first | done | rfl | (simp only [List.length_drop, List.length_take]; rfl)) ?_; (with_reducible refine (impl_ReadTiling.calls k a0 l1 t302 t303 t304 t307 _ ?side1 A5.out).mono ?_); (case side1 => exact Kd.C_below HR1.out (bs1_ HB.out GE301.out)); rintro e w11 ⟨v305, rfl, ho0, hb⟩; refine ⟨_, rfl, ?_⟩; have n0_ := mkA (Kd.R_elder' (by (with_reducible repeat (first | apply Kd.R_alloc | apply Kd.R_drewN | apply Kd.R_drew)); exact (Kd.R_mono (Kd.R_far (p := ⟨gb301, 2, none⟩) (Kd.R_far (p := ⟨gb301, 1, none⟩) (Kd.R_far (p := ⟨gb301, 0, none⟩) (Kd.R_types HO299.out BK301.out (by decide)) (fun _ hk => hk.2) (.int .i64 t295)) (fun _ hk => hk.2) (.int .i64 t296)) (fun _ hk => hk.2) (.slice Ao10 t297.length co10)) (fun _ h_ => h_.1))) (Kd.R_base ho0) hb); have n1_ := mkA (Kd.R_lower (Kd.R_new' ho0 (Kd.R_lt (by (with_reducible repeat (first | apply Kd.R_alloc | apply Kd.R_drewN | apply Kd.R_drew)); exact (Kd.R_mono (Kd.R_far (p := ⟨gb301, 2, none⟩) (Kd.R_far (p := ⟨gb301, 1, none⟩) (Kd.R_far (p := ⟨gb301, 0, none⟩) (Kd.R_types HO299.out BK301.out (by decide)) (fun _ hk => hk.2) (.int .i64 t295)) (fun _ hk => hk.2) (.int .i64 t296)) (fun _ hk => hk.2) (.slice Ao10 t297.length co10)) (fun _ h_ => h_.1))))) (below_size (bs1_ HB.out GE301.out))); have n2_ := mkA (blk_below (g := gb301) (o := .cells #[.int .i64 t295, .int .i64 t296, .slice Ao10 t297.length co10] 27 (0, 0)) (by (with_reducible repeat (first | refine blk_drewN ?_ _ | refine blk_drew ?_ | refine blk_alloc ?_ _)); refine blk_put (cs := #[.int .i64 t295, .int .i64 t296, .slice none 0 0]) ?_ 2 _ rfl; (with_reducible repeat (first | refine blk_drewN ?_ _ | refine blk_drew ?_ | refine blk_alloc ?_ _)); refine blk_put (cs := #[.int .i64 t295, .int .i64 0, .slice none 0 0]) ?_ 1 _ rfl; (with_reducible repeat (first | refine blk_drewN ?_ _ | refine blk_drew ?_ | refine blk_alloc ?_ _)); refine blk_put (cs := #[.int .i64 0, .int .i64 0, .slice none 0 0]) ?_ 0 _ rfl; (with_reducible repeat (first | refine blk_drewN ?_ _ | refine blk_drew ?_ | refine blk_alloc ?_ _)); exact BK301.out) hb); have n3_ := mkA (below_step (bs1_ HB.out GE301.out) hb); clear HO299; clear BK301; clear HB; have HO299 := n0_; have HO306 := n1_; have BK301 := n2_; have HB := n3_; clear n0_ n1_ n2_ n3_; (try clear hb); (try clear hb2); (try clear hk); (try clear hi); (try clear ho0)) | ((with_reducible refine gate_dst (N := 5) rfl ?_); refine box_event ?hg (N := 5) ?hd (cs := #[.int .i64 0, .int .i64 0, .slice none 0 0]) (t := 27) ?hr ?_; (case hd => rfl); (case hg => rfl); (case hr => first | (go_simp; done) | (go_simp; rfl)); intro gb308 hg w12 hbox hb; have n0_ := mkA (Kd.R_below (by (with_reducible repeat (first | apply Kd.R_alloc | apply Kd.R_drewN | apply Kd.R_drew)); exact HO299.out) hb); have n1_ := mkA (Kd.R_below (by (with_reducible repeat (first | apply Kd.R_alloc | apply Kd.R_drewN | apply Kd.R_drew)); exact HO306.out) hb); have n2_ := mkA (blk_below (g := gb301) (o := .cells #[.int .i64 t295, .int .i64 t296, .slice Ao10 t297.length co10] 27 (0, 0)) (bl_ BK301.out) hb); have n3_ := mkA (below_step (bs1_ HB.out GE301.out) hb); have n4_ := mkA (hbox); have n5_ := mkA ((by rw [hg]; exact (below_size (bs1_ HB.out GE301.out)) : w.heap.size ≤ gb308)); have n6_ := mkA ((by rw [hg]; exact (below_size (bs1_ HB.out GE301.out)) : w.heap.size ≤ gb308)); have n7_ := mkA ((by rw [hg]; exact Nat.ne_of_lt (blk_lt (g := gb301) (o := .cells #[.int .i64 t295, .int .i64 t296, .slice Ao10 t297.length co10] 27 (0, 0)) (bl_ BK301.out)) : gb301 ≠ gb308)); have n8_ := mkA ((by rw [hg]; exact Nat.ne_of_gt (blk_lt (g := gb301) (o := .cells #[.int .i64 t295, .int .i64 t296, .slice Ao10 t297.length co10] 27 (0, 0)) (bl_ BK301.out)) : gb308 ≠ gb301)); clear HO299; clear HO306; clear BK301; clear HB; have HO299 := n0_; have HO306 := n1_; have BK301 := n2_; have HB := n3_; have BK308 := n4_; have GW308 := n5_; have GE308 := n6_; have NB301_308 := n7_; have NB308_301 := n8_; clear n0_ n1_ n2_ n3_ n4_ n5_ n6_ n7_ n8_; clear hb hbox hg; have hnb13 := NB308_301.out; have hnc13 := NB301_308.out; have hcz14_0 : w12.cell? ⟨gb308, 0, none⟩ = some (.int .i64 0) := (blk_cell BK308.out 0).trans rfl; have hcz14_1 : w12.cell? ⟨gb308, 1, none⟩ = some (.int .i64 0) := (blk_cell BK308.out 1).trans rfl; have hcz14_2 : w12.cell? ⟨gb308, 2, none⟩ = some (.slice none 0 0) := (blk_cell BK308.out 2).trans rfl; have hfz14_0 := blk_frozen BK308.out 0; have hfz14_1 := blk_frozen BK308.out 1; have hfz14_2 := blk_frozen BK308.out 2; obtain ⟨Ao15, co15, eo15⟩ := Kd.R_slice HO306.out; subst eo15))
   (try simp only [Act.put, sA, sB, sC])
   go_cut [32] (fun v32 wc => ∃ (kq : Nat) (x32_5 : Bool), v32 = .bool x32_5 ∧ Aside0 (laws_FnExactReadTiling.j0 kq a0 t300 x32_5 l1 t295 t296 t297 t302 t303 t304 = some r) ∧ Aside0 (kq ≤ k) ∧ Aside0 (Kd.R (Kd.int .i64) 2 wc w.heap.size (fun k_ => some k_ ≠ ((.slice Ao15 t304.length co15) : Value).ownBlock) (.slice Ao10 t297.length co10) t297) ∧ Aside0 (Kd.R (Kd.int .i64) 2 wc w.heap.size (fun k_ => some k_ ≠ ((.slice Ao10 t297.length co10) : Value).ownBlock) (.slice Ao15 t304.length co15) t304) ∧ Aside0 (wc.heap[gb301]? = some (.cells #[.int .i64 t295, .int .i64 t296, (.slice Ao10 t297.length co10)] 27 (0, 0))) ∧ Aside0 (wc.heap[gb308]? = some (.cells #[.int .i64 t302, .int .i64 t303, (.slice Ao15 t304.length co15)] 27 (0, 0))) ∧ Aside0 (Below w.heap.size w wc))
   case first =>
    have H := HC6.out
    clear HC6
    replace H := Option.bind_eq_some_iff.mp H
    obtain ⟨t309, A160, H⟩ := H
    replace H : (if t309 = true then (laws_FnExactReadTiling.j0 k a0 t300 (t307 != t300) l1 t295 t296 t297 t302 t303 t304) else (laws_FnExactReadTiling.j0 k a0 t300 true l1 t295 t296 t297 t302 t303 t304)) = some r := H
    have A16 := mkA A160
    clear A160
    by_cases c17 : t309 = true
    · subst c17
      have H1 : (laws_FnExactReadTiling.j0 k a0 t300 (t307 != t300) l1 t295 t296 t297 t302 t303 t304) = some r := by rw [if_pos rfl] at H; exact H
      clear H
      have H := H1
      clear H1
      have H' := mkA H
      clear H
      have hnb18 := NB308_301.out
      have hnc18 := NB301_308.out
      have hcz19_0 : w12.cell? ⟨gb308, 0, none⟩ = some (.int .i64 0) := (blk_cell BK308.out 0).trans rfl
      have hcz19_1 : w12.cell? ⟨gb308, 1, none⟩ = some (.int .i64 0) := (blk_cell BK308.out 1).trans rfl
      have hcz19_2 : w12.cell? ⟨gb308, 2, none⟩ = some (.slice none 0 0) := (blk_cell BK308.out 2).trans rfl
      have hfz19_0 := blk_frozen BK308.out 0
      have hfz19_1 := blk_frozen BK308.out 1
      have hfz19_2 := blk_frozen BK308.out 2
      have hcz20_0 : w12.cell? ⟨gb301, 0, none⟩ = some (.int .i64 t295) := (blk_cell BK301.out 0).trans rfl
      have hcz20_1 : w12.cell? ⟨gb301, 1, none⟩ = some (.int .i64 t296) := (blk_cell BK301.out 1).trans rfl
      have hcz20_2 : w12.cell? ⟨gb301, 2, none⟩ = some (.slice Ao10 t297.length co10) := (blk_cell BK301.out 2).trans rfl
      have hfz20_0 := blk_frozen BK301.out 0
      have hfz20_1 := blk_frozen BK301.out 1
      have hfz20_2 := blk_frozen BK301.out 2
      go_wp2_with (first | ((with_reducible refine gate_callee (f := 9) rfl ?_); refine goesL_ (some 26) rfl rfl Tryd.func9 (by kernel_rfl) rfl #[.agg #[.int .i64 t302, .int .i64 t303, .slice Ao15 t304.length co15], .agg #[.int .i64 t295, .int .i64 t296, .slice Ao10 t297.length co10]] rfl (by (try simp only [List.map_toArray, List.map_cons, List.map_nil]); first | done | rfl | (simp only [List.length_drop, List.length_take]; rfl)) ?_; (with_reducible refine (laws_eqTiling.calls k t302 t303 _ _ t304 t295 t296 _ _ t297 true _ ?side1 ?side2 ?side3 ?side4 A16.out).mono ?_); (case side1 => refine (Kd.R_reads' (e := 2) (base := w.heap.size) (ok := fun k_ => (True ∧ some k_ ≠ (.slice Ao10 t297.length co10 : Value).ownBlock)) (n := t304.length) (c := co15) ?_).2.2; exact (by (with_reducible repeat (first | apply Kd.R_alloc | apply Kd.R_drewN | apply Kd.R_drew)); exact (Kd.R_mono (Kd.R_far (p := ⟨gb308, 2, none⟩) (Kd.R_far (p := ⟨gb308, 1, none⟩) (Kd.R_far (p := ⟨gb308, 0, none⟩) (Kd.R_types HO306.out BK308.out (by decide)) (fun _ hk => hk.2) (.int .i64 t302)) (fun _ hk => hk.2) (.int .i64 t303)) (fun _ hk => hk.2) (.slice Ao15 t304.length co15)) (fun _ h_ => h_.1)))); (case side2 => exact (Kd.R_reads' HO306.out).2.1); (case side3 => refine (Kd.R_reads' (e := 2) (base := w.heap.size) (ok := fun k_ => (True ∧ some k_ ≠ (.slice Ao15 t304.length co15 : Value).ownBlock)) (n := t297.length) (c := co10) ?_).2.2; exact (by (with_reducible repeat (first | apply Kd.R_alloc | apply Kd.R_drewN | apply Kd.R_drew)); exact (Kd.R_mono (Kd.R_far (p := ⟨gb308, 2, none⟩) (Kd.R_far (p := ⟨gb308, 1, none⟩) (Kd.R_far (p := ⟨gb308, 0, none⟩) (Kd.R_types HO299.out BK308.out (by decide)) (fun _ hk => hk.2) (.int .i64 t302)) (fun _ hk => hk.2) (.int .i64 t303)) (fun _ hk => hk.2) (.slice Ao15 t304.length co15)) (fun _ h_ => h_.1)))); (case side4 => exact (Kd.R_reads' HO299.out).2.1); rintro e w21 ⟨rfl, hb⟩; refine ⟨_, rfl, ?_⟩; have n0_ := mkA (Kd.R_below (by (with_reducible repeat (first | apply Kd.R_alloc | apply Kd.R_drewN | apply Kd.R_drew)); exact (Kd.R_mono (Kd.R_far (p := ⟨gb308, 2, none⟩) (Kd.R_far (p := ⟨gb308, 1, none⟩) (Kd.R_far (p := ⟨gb308, 0, none⟩) (Kd.R_types HO299.out BK308.out (by decide)) (fun _ hk => hk.2) (.int .i64 t302)) (fun _ hk => hk.2) (.int .i64 t303)) (fun _ hk => hk.2) (.slice Ao15 t304.length co15)) (fun _ h_ => h_.1))) hb); have n1_ := mkA (Kd.R_below (by (with_reducible repeat (first | apply Kd.R_alloc | apply Kd.R_drewN | apply Kd.R_drew)); exact (Kd.R_mono (Kd.R_far (p := ⟨gb308, 2, none⟩) (Kd.R_far (p := ⟨gb308, 1, none⟩) (Kd.R_far (p := ⟨gb308, 0, none⟩) (Kd.R_types HO306.out BK308.out (by decide)) (fun _ hk => hk.2) (.int .i64 t302)) (fun _ hk => hk.2) (.int .i64 t303)) (fun _ hk => hk.2) (.slice Ao15 t304.length co15)) (fun _ h_ => h_.1))) hb); have n2_ := mkA (blk_below (g := gb301) (o := .cells #[.int .i64 t295, .int .i64 t296, .slice Ao10 t297.length co10] 27 (0, 0)) (by (with_reducible repeat (first | refine blk_drewN ?_ _ | refine blk_drew ?_ | refine blk_alloc ?_ _)); refine blk_far ?_ NB301_308.out _; (with_reducible repeat (first | refine blk_drewN ?_ _ | refine blk_drew ?_ | refine blk_alloc ?_ _)); refine blk_far ?_ NB301_308.out _; (with_reducible repeat (first | refine blk_drewN ?_ _ | refine blk_drew ?_ | refine blk_alloc ?_ _)); refine blk_far ?_ NB301_308.out _; (with_reducible repeat (first | refine blk_drewN ?_ _ | refine blk_drew ?_ | refine blk_alloc ?_ _)); exact BK301.out) hb); have n3_ := mkA (blk_below (g := gb308) (o := .cells #[.int .i64 t302, .int .i64 t303, .slice Ao15 t304.length co15] 27 (0, 0)) (by (with_reducible repeat (first | refine blk_drewN ?_ _ | refine blk_drew ?_ | refine blk_alloc ?_ _)); refine blk_put (cs := #[.int .i64 t302, .int .i64 t303, .slice none 0 0]) ?_ 2 _ rfl; (with_reducible repeat (first | refine blk_drewN ?_ _ | refine blk_drew ?_ | refine blk_alloc ?_ _)); refine blk_put (cs := #[.int .i64 t302, .int .i64 0, .slice none 0 0]) ?_ 1 _ rfl; (with_reducible repeat (first | refine blk_drewN ?_ _ | refine blk_drew ?_ | refine blk_alloc ?_ _)); refine blk_put (cs := #[.int .i64 0, .int .i64 0, .slice none 0 0]) ?_ 0 _ rfl; (with_reducible repeat (first | refine blk_drewN ?_ _ | refine blk_drew ?_ | refine blk_alloc ?_ _)); exact BK308.out) hb); have n4_ := mkA (below_step (bs2_ HB.out GE301.out GE308.out) hb); clear HO299; clear HO306; clear BK301; clear BK308; clear HB; have HO299 := n0_; have HO306 := n1_; have BK301 := n2_; have BK308 := n3_; have HB := n4_; clear n0_ n1_ n2_ n3_ n4_; (try clear hb); (try clear hb2); (try clear hk); (try clear hi)))
      go_meet
      case rel => exact ⟨_, ((t307 != t300)), (by first | rfl | (simp; done) | (simp [*]; done) | (simp [i64_w, i32_w]; done)), H', ⟨by first | omega | exact Nat.le_refl _⟩, ⟨by (with_reducible repeat (first | apply Kd.R_alloc | apply Kd.R_drewN | apply Kd.R_drew)); exact Kd.R_mono HO299.out (fun _ hk => hk.2)⟩, ⟨by (with_reducible repeat (first | apply Kd.R_alloc | apply Kd.R_drewN | apply Kd.R_drew)); exact Kd.R_mono HO306.out (fun _ hk => hk.2)⟩, ⟨by (with_reducible repeat (first | refine blk_drewN ?_ _ | refine blk_drew ?_ | refine blk_alloc ?_ _)); exact BK301.out⟩, ⟨by (with_reducible repeat (first | refine blk_drewN ?_ _ | refine blk_drew ?_ | refine blk_alloc ?_ _)); exact BK308.out⟩, ⟨by repeat (first | (with_reducible first | exact HB.out | apply below_alloc | apply pw_below_drewN | apply below_drew1 | refine below_set ?_ GE301.out | refine below_set ?_ GE308.out) | exact HB.out)⟩⟩
    · replace c17 := Bool.eq_false_iff.mpr c17
      subst c17
      have H1 : (laws_FnExactReadTiling.j0 k a0 t300 true l1 t295 t296 t297 t302 t303 t304) = some r := by rw [if_neg (show ¬ (false = true) by decide)] at H; exact H
      clear H
      have H := H1
      clear H1
      have H' := mkA H
      clear H
      have hnb22 := NB308_301.out
      have hnc22 := NB301_308.out
      have hcz23_0 : w12.cell? ⟨gb308, 0, none⟩ = some (.int .i64 0) := (blk_cell BK308.out 0).trans rfl
      have hcz23_1 : w12.cell? ⟨gb308, 1, none⟩ = some (.int .i64 0) := (blk_cell BK308.out 1).trans rfl
      have hcz23_2 : w12.cell? ⟨gb308, 2, none⟩ = some (.slice none 0 0) := (blk_cell BK308.out 2).trans rfl
      have hfz23_0 := blk_frozen BK308.out 0
      have hfz23_1 := blk_frozen BK308.out 1
      have hfz23_2 := blk_frozen BK308.out 2
      have hcz24_0 : w12.cell? ⟨gb301, 0, none⟩ = some (.int .i64 t295) := (blk_cell BK301.out 0).trans rfl
      have hcz24_1 : w12.cell? ⟨gb301, 1, none⟩ = some (.int .i64 t296) := (blk_cell BK301.out 1).trans rfl
      have hcz24_2 : w12.cell? ⟨gb301, 2, none⟩ = some (.slice Ao10 t297.length co10) := (blk_cell BK301.out 2).trans rfl
      have hfz24_0 := blk_frozen BK301.out 0
      have hfz24_1 := blk_frozen BK301.out 1
      have hfz24_2 := blk_frozen BK301.out 2
      go_wp2_with (first | ((with_reducible refine gate_callee (f := 9) rfl ?_); refine goesL_ (some 26) rfl rfl Tryd.func9 (by kernel_rfl) rfl #[.agg #[.int .i64 t302, .int .i64 t303, .slice Ao15 t304.length co15], .agg #[.int .i64 t295, .int .i64 t296, .slice Ao10 t297.length co10]] rfl (by (try simp only [List.map_toArray, List.map_cons, List.map_nil]); first | done | rfl | (simp only [List.length_drop, List.length_take]; rfl)) ?_; (with_reducible refine (laws_eqTiling.calls k t302 t303 _ _ t304 t295 t296 _ _ t297 false _ ?side1 ?side2 ?side3 ?side4 A16.out).mono ?_); (case side1 => refine (Kd.R_reads' (e := 2) (base := w.heap.size) (ok := fun k_ => (True ∧ some k_ ≠ (.slice Ao10 t297.length co10 : Value).ownBlock)) (n := t304.length) (c := co15) ?_).2.2; exact (by (with_reducible repeat (first | apply Kd.R_alloc | apply Kd.R_drewN | apply Kd.R_drew)); exact (Kd.R_mono (Kd.R_far (p := ⟨gb308, 2, none⟩) (Kd.R_far (p := ⟨gb308, 1, none⟩) (Kd.R_far (p := ⟨gb308, 0, none⟩) (Kd.R_types HO306.out BK308.out (by decide)) (fun _ hk => hk.2) (.int .i64 t302)) (fun _ hk => hk.2) (.int .i64 t303)) (fun _ hk => hk.2) (.slice Ao15 t304.length co15)) (fun _ h_ => h_.1)))); (case side2 => exact (Kd.R_reads' HO306.out).2.1); (case side3 => refine (Kd.R_reads' (e := 2) (base := w.heap.size) (ok := fun k_ => (True ∧ some k_ ≠ (.slice Ao15 t304.length co15 : Value).ownBlock)) (n := t297.length) (c := co10) ?_).2.2; exact (by (with_reducible repeat (first | apply Kd.R_alloc | apply Kd.R_drewN | apply Kd.R_drew)); exact (Kd.R_mono (Kd.R_far (p := ⟨gb308, 2, none⟩) (Kd.R_far (p := ⟨gb308, 1, none⟩) (Kd.R_far (p := ⟨gb308, 0, none⟩) (Kd.R_types HO299.out BK308.out (by decide)) (fun _ hk => hk.2) (.int .i64 t302)) (fun _ hk => hk.2) (.int .i64 t303)) (fun _ hk => hk.2) (.slice Ao15 t304.length co15)) (fun _ h_ => h_.1)))); (case side4 => exact (Kd.R_reads' HO299.out).2.1); rintro e w25 ⟨rfl, hb⟩; refine ⟨_, rfl, ?_⟩; have n0_ := mkA (Kd.R_below (by (with_reducible repeat (first | apply Kd.R_alloc | apply Kd.R_drewN | apply Kd.R_drew)); exact (Kd.R_mono (Kd.R_far (p := ⟨gb308, 2, none⟩) (Kd.R_far (p := ⟨gb308, 1, none⟩) (Kd.R_far (p := ⟨gb308, 0, none⟩) (Kd.R_types HO299.out BK308.out (by decide)) (fun _ hk => hk.2) (.int .i64 t302)) (fun _ hk => hk.2) (.int .i64 t303)) (fun _ hk => hk.2) (.slice Ao15 t304.length co15)) (fun _ h_ => h_.1))) hb); have n1_ := mkA (Kd.R_below (by (with_reducible repeat (first | apply Kd.R_alloc | apply Kd.R_drewN | apply Kd.R_drew)); exact (Kd.R_mono (Kd.R_far (p := ⟨gb308, 2, none⟩) (Kd.R_far (p := ⟨gb308, 1, none⟩) (Kd.R_far (p := ⟨gb308, 0, none⟩) (Kd.R_types HO306.out BK308.out (by decide)) (fun _ hk => hk.2) (.int .i64 t302)) (fun _ hk => hk.2) (.int .i64 t303)) (fun _ hk => hk.2) (.slice Ao15 t304.length co15)) (fun _ h_ => h_.1))) hb); have n2_ := mkA (blk_below (g := gb301) (o := .cells #[.int .i64 t295, .int .i64 t296, .slice Ao10 t297.length co10] 27 (0, 0)) (by (with_reducible repeat (first | refine blk_drewN ?_ _ | refine blk_drew ?_ | refine blk_alloc ?_ _)); refine blk_far ?_ NB301_308.out _; (with_reducible repeat (first | refine blk_drewN ?_ _ | refine blk_drew ?_ | refine blk_alloc ?_ _)); refine blk_far ?_ NB301_308.out _; (with_reducible repeat (first | refine blk_drewN ?_ _ | refine blk_drew ?_ | refine blk_alloc ?_ _)); refine blk_far ?_ NB301_308.out _; (with_reducible repeat (first | refine blk_drewN ?_ _ | refine blk_drew ?_ | refine blk_alloc ?_ _)); exact BK301.out) hb); have n3_ := mkA (blk_below (g := gb308) (o := .cells #[.int .i64 t302, .int .i64 t303, .slice Ao15 t304.length co15] 27 (0, 0)) (by (with_reducible repeat (first | refine blk_drewN ?_ _ | refine blk_drew ?_ | refine blk_alloc ?_ _)); refine blk_put (cs := #[.int .i64 t302, .int .i64 t303, .slice none 0 0]) ?_ 2 _ rfl; (with_reducible repeat (first | refine blk_drewN ?_ _ | refine blk_drew ?_ | refine blk_alloc ?_ _)); refine blk_put (cs := #[.int .i64 t302, .int .i64 0, .slice none 0 0]) ?_ 1 _ rfl; (with_reducible repeat (first | refine blk_drewN ?_ _ | refine blk_drew ?_ | refine blk_alloc ?_ _)); refine blk_put (cs := #[.int .i64 0, .int .i64 0, .slice none 0 0]) ?_ 0 _ rfl; (with_reducible repeat (first | refine blk_drewN ?_ _ | refine blk_drew ?_ | refine blk_alloc ?_ _)); exact BK308.out) hb); have n4_ := mkA (below_step (bs2_ HB.out GE301.out GE308.out) hb); clear HO299; clear HO306; clear BK301; clear BK308; clear HB; have HO299 := n0_; have HO306 := n1_; have BK301 := n2_; have BK308 := n3_; have HB := n4_; clear n0_ n1_ n2_ n3_ n4_; (try clear hb); (try clear hb2); (try clear hk); (try clear hi)))
      go_meet
      case rel => exact ⟨_, (true), (by first | rfl | (simp; done) | (simp [*]; done) | (simp [i64_w, i32_w]; done)), H', ⟨by first | omega | exact Nat.le_refl _⟩, ⟨by (with_reducible repeat (first | apply Kd.R_alloc | apply Kd.R_drewN | apply Kd.R_drew)); exact Kd.R_mono HO299.out (fun _ hk => hk.2)⟩, ⟨by (with_reducible repeat (first | apply Kd.R_alloc | apply Kd.R_drewN | apply Kd.R_drew)); exact Kd.R_mono HO306.out (fun _ hk => hk.2)⟩, ⟨by (with_reducible repeat (first | refine blk_drewN ?_ _ | refine blk_drew ?_ | refine blk_alloc ?_ _)); exact BK301.out⟩, ⟨by (with_reducible repeat (first | refine blk_drewN ?_ _ | refine blk_drew ?_ | refine blk_alloc ?_ _)); exact BK308.out⟩, ⟨by repeat (first | (with_reducible first | exact HB.out | apply below_alloc | apply pw_below_drewN | apply below_drew1 | refine below_set ?_ GE301.out | refine below_set ?_ GE308.out) | exact HB.out)⟩⟩
   case rest =>
    clear HC6
    try clear c1
    try clear c2
    try clear p2
    try clear c3
    try clear c3b0
    try clear c3b1
    try clear c4
    try clear c9
    try clear c10
    try clear c11
    try clear c13
    try clear c17
    try clear c18
    try clear c22
    try clear hcz14_0
    try clear hcz14_1
    try clear hcz14_2
    try clear hcz19_0
    try clear hcz19_1
    try clear hcz19_2
    try clear hcz20_0
    try clear hcz20_1
    try clear hcz20_2
    try clear hcz23_0
    try clear hcz23_1
    try clear hcz23_2
    try clear hcz24_0
    try clear hcz24_1
    try clear hcz24_2
    try clear hcz9_0
    try clear hcz9_1
    try clear hcz9_2
    try clear hfz14_0
    try clear hfz14_1
    try clear hfz14_2
    try clear hfz19_0
    try clear hfz19_1
    try clear hfz19_2
    try clear hfz20_0
    try clear hfz20_1
    try clear hfz20_2
    try clear hfz23_0
    try clear hfz23_1
    try clear hfz23_2
    try clear hfz24_0
    try clear hfz24_1
    try clear hfz24_2
    try clear hfz9_0
    try clear hfz9_1
    try clear hfz9_2
    obtain ⟨kq, x32_5, rfl, HA, HJ5, HO_302002, HO_309002, BK301, BK308, HB⟩ := hcut
    cases kq with
    | zero => exact absurd HA.out (by simp [laws_FnExactReadTiling.j0])
    | succ kj5 =>
     have H := HA.out
     clear HA
     simp only [laws_FnExactReadTiling.j0] at H
     by_cases c26 : x32_5 = true
     · subst c26
       have H1 : (some false) = some r := by rw [if_pos rfl] at H; exact H
       clear H
       have H := H1
       clear H1
       obtain rfl := Option.some.inj H
       go_wp2
       go_ret
       exact ⟨by first | rfl | (simp [errW_none, errW_some] <;> rfl) | (simp [*, errW_none, errW_some] <;> rfl), by repeat (first | (with_reducible first | exact HB.out | apply below_alloc | apply pw_below_drewN | apply below_drew1 | refine below_set ?_ GE301.out | refine below_set ?_ GE308.out) | exact HB.out)⟩
     · replace c26 := Bool.eq_false_iff.mpr c26
       subst c26
       have H1 : ((laws_markTiling.f kj5 t302 t303 t304 1).bind fun bt310 => ((laws_heldTiling.f kj5 t302 t303 bt310.2 1).bind fun t312 => (if t312 < 0 then (some false) else (if t312 = bt310.1 then ((impl_ReadTiling.f kj5 a0 l1).bind fun bt313 => ((laws_eqTiling.f kj5 bt313.1 bt313.2.1 bt313.2.2.1 t295 t296 t297).bind fun t320 => (if t320 = true then (laws_FnExactReadTiling.j1 kj5 bt310.1 (bt313.2.2.2 != t300) t302 t303 bt310.2) else (laws_FnExactReadTiling.j1 kj5 bt310.1 true t302 t303 bt310.2)))) else (some false))))) = some r := by rw [if_neg (show ¬ (false = true) by decide)] at H; exact H
       clear H
       have H := H1
       clear H1
       replace H := Option.bind_eq_some_iff.mp H
       obtain ⟨⟨t310, t311⟩, A270, H⟩ := H
       replace H : ((laws_heldTiling.f kj5 t302 t303 t311 1).bind fun t312 => (if t312 < 0 then (some false) else (if t312 = t310 then ((impl_ReadTiling.f kj5 a0 l1).bind fun bt313 => ((laws_eqTiling.f kj5 bt313.1 bt313.2.1 bt313.2.2.1 t295 t296 t297).bind fun t320 => (if t320 = true then (laws_FnExactReadTiling.j1 kj5 t310 (bt313.2.2.2 != t300) t302 t303 t311) else (laws_FnExactReadTiling.j1 kj5 t310 true t302 t303 t311)))) else (some false)))) = some r := H
       have A27 := mkA A270
       clear A270
       replace H := Option.bind_eq_some_iff.mp H
       obtain ⟨t312, A280, H⟩ := H
       replace H : (if t312 < 0 then (some false) else (if t312 = t310 then ((impl_ReadTiling.f kj5 a0 l1).bind fun bt313 => ((laws_eqTiling.f kj5 bt313.1 bt313.2.1 bt313.2.2.1 t295 t296 t297).bind fun t320 => (if t320 = true then (laws_FnExactReadTiling.j1 kj5 t310 (bt313.2.2.2 != t300) t302 t303 t311) else (laws_FnExactReadTiling.j1 kj5 t310 true t302 t303 t311)))) else (some false))) = some r := H
       have A28 := mkA A280
       clear A280
       by_cases c29 : t312 < 0
       · rw [if_pos c29] at H
         have c29b0 : decide (t312 < 0) = true := decide_eq_true c29
         clear c29
         obtain rfl := Option.some.inj H
         have hnb30 := NB308_301.out
         have hnc30 := NB301_308.out
         have hcz31_0 : wc.cell? ⟨gb308, 0, none⟩ = some (.int .i64 t302) := (blk_cell BK308.out 0).trans rfl
         have hcz31_1 : wc.cell? ⟨gb308, 1, none⟩ = some (.int .i64 t303) := (blk_cell BK308.out 1).trans rfl
         have hcz31_2 : wc.cell? ⟨gb308, 2, none⟩ = some (.slice Ao15 t304.length co15) := (blk_cell BK308.out 2).trans rfl
         have hfz31_0 := blk_frozen BK308.out 0
         have hfz31_1 := blk_frozen BK308.out 1
         have hfz31_2 := blk_frozen BK308.out 2
         go_wp2_with (first | ((with_reducible refine gate_callee (f := 12) rfl ?_); refine goesL_ (some 35) rfl rfl Tryd.func12 (by kernel_rfl) rfl #[.agg #[.int .i64 t302, .int .i64 t303, .slice Ao15 t304.length co15], .int .i64 1] rfl (by (try simp only [List.map_toArray, List.map_cons, List.map_nil]); first | done | rfl | (simp only [List.length_drop, List.length_take]; rfl)) ?_; (with_reducible refine (laws_markTiling.calls kj5 t302 t303 (fun k_ => some k_ = (.slice Ao15 t304.length co15 : Value).ownBlock) (.slice Ao15 t304.length co15) t304 1 t310 t311 w _ ?side1 ?side2 A27.out).mono ?_); (case side1 => repeat (first | (with_reducible first | exact HB.out | apply below_alloc | apply pw_below_drewN | apply below_drew1 | refine below_set ?_ GE301.out | refine below_set ?_ GE308.out) | exact HB.out)); (case side2 => exact Kd.R_tight rfl HO_309002.out); rintro e w32 ⟨rfl, hy0, hb, hkp⟩; refine ⟨_, rfl, ?_⟩; have n0_ := mkA (Kd.R_mono (ok' := fun k_ => some k_ ≠ (.slice Ao15 t304.length co15 : Value).ownBlock) (Kd.R_keptB (HO_302002.out) hkp (fun k_ hk_ hs_ => (hk_) hs_)) (fun k_ hk_ => hk_.1)); have n1_ := mkA (Kd.R_reok rfl hy0 (fun k_ e_ => HO_309002.out.1 k_ e_)); have n2_ := mkA (blk_kept (bl_ BK301.out) hkp (fun hs_ => (fun e_ => (Kd.R_ne HO_309002.out BK301.out (by decide)) e_) hs_)); have n3_ := mkA (blk_kept (bl_ BK308.out) hkp (fun hs_ => (fun e_ => (Kd.R_ne HO_309002.out BK308.out (by decide)) e_) hs_)); have n4_ := mkA (hb); clear HO_302002; clear HO_309002; clear BK301; clear BK308; clear HB; have HO_302002 := n0_; have HO_309002 := n1_; have BK301 := n2_; have BK308 := n3_; have HB := n4_; clear n0_ n1_ n2_ n3_ n4_; (try clear hb); (try clear hkp); (try clear hy0); have hcz33_0 : w32.cell? ⟨gb308, 0, none⟩ = some (.int .i64 t302) := (blk_cell BK308.out 0).trans rfl; have hcz33_1 : w32.cell? ⟨gb308, 1, none⟩ = some (.int .i64 t303) := (blk_cell BK308.out 1).trans rfl; have hcz33_2 : w32.cell? ⟨gb308, 2, none⟩ = some (.slice Ao15 t304.length co15) := (blk_cell BK308.out 2).trans rfl; have hfz33_0 := blk_frozen BK308.out 0; have hfz33_1 := blk_frozen BK308.out 1; have hfz33_2 := blk_frozen BK308.out 2) | ((with_reducible refine gate_callee (f := 13) rfl ?_); refine goesL_ (some 38) rfl rfl Tryd.func13 (by kernel_rfl) rfl #[.agg #[.int .i64 t302, .int .i64 t303, .slice Ao15 t311.length co15], .int .i64 1] rfl (by (try simp only [List.map_toArray, List.map_cons, List.map_nil]); first | done | (rw [show t311.length = t304.length from (Kd.R_reads' HO_309002.out).1.symm] <;> rfl) | rfl | (simp only [List.length_drop, List.length_take]; rfl)) ?_; (with_reducible refine (laws_heldTiling.calls kj5 t302 t303 _ _ t311 1 t312 _ ?side1 ?side2 A28.out).mono ?_); (case side1 => repeat (first | exact (Kd.R_reads' HO_309002.out).2.2 | (with_reducible refine Kd.C_alloc ?_ _) | (with_reducible refine Kd.C_drewN ?_ _) | (with_reducible refine Kd.C_drew ?_))); (case side2 => rw [show t311.length = t304.length from (Kd.R_reads' HO_309002.out).1.symm]; exact (Kd.R_reads' HO_309002.out).2.1); rintro e w34 ⟨rfl, hb⟩; refine ⟨_, rfl, ?_⟩; have n0_ := mkA (Kd.R_below (by (with_reducible repeat (first | apply Kd.R_alloc | apply Kd.R_drewN | apply Kd.R_drew)); exact HO_302002.out) hb); have n1_ := mkA (Kd.R_below (by (with_reducible repeat (first | apply Kd.R_alloc | apply Kd.R_drewN | apply Kd.R_drew)); exact HO_309002.out) hb); have n2_ := mkA (blk_below (g := gb301) (o := .cells #[.int .i64 t295, .int .i64 t296, .slice Ao10 t297.length co10] 27 (0, 0)) (bl_ BK301.out) hb); have n3_ := mkA (blk_below (g := gb308) (o := .cells #[.int .i64 t302, .int .i64 t303, .slice Ao15 t304.length co15] 27 (0, 0)) (bl_ BK308.out) hb); have n4_ := mkA (below_step (bs2_ HB.out GE301.out GE308.out) hb); clear HO_302002; clear HO_309002; clear BK301; clear BK308; clear HB; have HO_302002 := n0_; have HO_309002 := n1_; have BK301 := n2_; have BK308 := n3_; have HB := n4_; clear n0_ n1_ n2_ n3_ n4_; (try clear hb); (try clear hb2); (try clear hk); (try clear hi)))
         go_ret
         exact ⟨by first | rfl | (simp [errW_none, errW_some] <;> rfl) | (simp [*, errW_none, errW_some] <;> rfl), by repeat (first | (with_reducible first | exact HB.out | apply below_alloc | apply pw_below_drewN | apply below_drew1 | refine below_set ?_ GE301.out | refine below_set ?_ GE308.out) | exact HB.out)⟩
       · rw [if_neg c29] at H
         have c29b0 : decide (t312 < 0) = false := decide_eq_false c29
         clear c29
         by_cases c35 : t312 = t310
         rotate_left
         · rw [if_neg c35] at H
           have c35b0 : (t312 == t310) = false := beq_eq_false_iff_ne.mpr c35
           have c35b1 : (t312 != t310) = true := bne_iff_ne.mpr c35
           obtain rfl := Option.some.inj H
           have hnb79 := NB308_301.out
           have hnc79 := NB301_308.out
           have hcz80_0 : wc.cell? ⟨gb308, 0, none⟩ = some (.int .i64 t302) := (blk_cell BK308.out 0).trans rfl
           have hcz80_1 : wc.cell? ⟨gb308, 1, none⟩ = some (.int .i64 t303) := (blk_cell BK308.out 1).trans rfl
           have hcz80_2 : wc.cell? ⟨gb308, 2, none⟩ = some (.slice Ao15 t304.length co15) := (blk_cell BK308.out 2).trans rfl
           have hfz80_0 := blk_frozen BK308.out 0
           have hfz80_1 := blk_frozen BK308.out 1
           have hfz80_2 := blk_frozen BK308.out 2
           go_wp2_with (first | ((with_reducible refine gate_callee (f := 12) rfl ?_); refine goesL_ (some 35) rfl rfl Tryd.func12 (by kernel_rfl) rfl #[.agg #[.int .i64 t302, .int .i64 t303, .slice Ao15 t304.length co15], .int .i64 1] rfl (by (try simp only [List.map_toArray, List.map_cons, List.map_nil]); first | done | rfl | (simp only [List.length_drop, List.length_take]; rfl)) ?_; (with_reducible refine (laws_markTiling.calls kj5 t302 t303 (fun k_ => some k_ = (.slice Ao15 t304.length co15 : Value).ownBlock) (.slice Ao15 t304.length co15) t304 1 t310 t311 w _ ?side1 ?side2 A27.out).mono ?_); (case side1 => repeat (first | (with_reducible first | exact HB.out | apply below_alloc | apply pw_below_drewN | apply below_drew1 | refine below_set ?_ GE301.out | refine below_set ?_ GE308.out) | exact HB.out)); (case side2 => exact Kd.R_tight rfl HO_309002.out); rintro e w81 ⟨rfl, hy0, hb, hkp⟩; refine ⟨_, rfl, ?_⟩; have n0_ := mkA (Kd.R_mono (ok' := fun k_ => some k_ ≠ (.slice Ao15 t304.length co15 : Value).ownBlock) (Kd.R_keptB (HO_302002.out) hkp (fun k_ hk_ hs_ => (hk_) hs_)) (fun k_ hk_ => hk_.1)); have n1_ := mkA (Kd.R_reok rfl hy0 (fun k_ e_ => HO_309002.out.1 k_ e_)); have n2_ := mkA (blk_kept (bl_ BK301.out) hkp (fun hs_ => (fun e_ => (Kd.R_ne HO_309002.out BK301.out (by decide)) e_) hs_)); have n3_ := mkA (blk_kept (bl_ BK308.out) hkp (fun hs_ => (fun e_ => (Kd.R_ne HO_309002.out BK308.out (by decide)) e_) hs_)); have n4_ := mkA (hb); clear HO_302002; clear HO_309002; clear BK301; clear BK308; clear HB; have HO_302002 := n0_; have HO_309002 := n1_; have BK301 := n2_; have BK308 := n3_; have HB := n4_; clear n0_ n1_ n2_ n3_ n4_; (try clear hb); (try clear hkp); (try clear hy0); have hcz82_0 : w81.cell? ⟨gb308, 0, none⟩ = some (.int .i64 t302) := (blk_cell BK308.out 0).trans rfl; have hcz82_1 : w81.cell? ⟨gb308, 1, none⟩ = some (.int .i64 t303) := (blk_cell BK308.out 1).trans rfl; have hcz82_2 : w81.cell? ⟨gb308, 2, none⟩ = some (.slice Ao15 t304.length co15) := (blk_cell BK308.out 2).trans rfl; have hfz82_0 := blk_frozen BK308.out 0; have hfz82_1 := blk_frozen BK308.out 1; have hfz82_2 := blk_frozen BK308.out 2) | ((with_reducible refine gate_callee (f := 13) rfl ?_); refine goesL_ (some 38) rfl rfl Tryd.func13 (by kernel_rfl) rfl #[.agg #[.int .i64 t302, .int .i64 t303, .slice Ao15 t311.length co15], .int .i64 1] rfl (by (try simp only [List.map_toArray, List.map_cons, List.map_nil]); first | done | (rw [show t311.length = t304.length from (Kd.R_reads' HO_309002.out).1.symm] <;> rfl) | rfl | (simp only [List.length_drop, List.length_take]; rfl)) ?_; (with_reducible refine (laws_heldTiling.calls kj5 t302 t303 _ _ t311 1 t312 _ ?side1 ?side2 A28.out).mono ?_); (case side1 => repeat (first | exact (Kd.R_reads' HO_309002.out).2.2 | (with_reducible refine Kd.C_alloc ?_ _) | (with_reducible refine Kd.C_drewN ?_ _) | (with_reducible refine Kd.C_drew ?_))); (case side2 => rw [show t311.length = t304.length from (Kd.R_reads' HO_309002.out).1.symm]; exact (Kd.R_reads' HO_309002.out).2.1); rintro e w83 ⟨rfl, hb⟩; refine ⟨_, rfl, ?_⟩; have n0_ := mkA (Kd.R_below (by (with_reducible repeat (first | apply Kd.R_alloc | apply Kd.R_drewN | apply Kd.R_drew)); exact HO_302002.out) hb); have n1_ := mkA (Kd.R_below (by (with_reducible repeat (first | apply Kd.R_alloc | apply Kd.R_drewN | apply Kd.R_drew)); exact HO_309002.out) hb); have n2_ := mkA (blk_below (g := gb301) (o := .cells #[.int .i64 t295, .int .i64 t296, .slice Ao10 t297.length co10] 27 (0, 0)) (bl_ BK301.out) hb); have n3_ := mkA (blk_below (g := gb308) (o := .cells #[.int .i64 t302, .int .i64 t303, .slice Ao15 t304.length co15] 27 (0, 0)) (bl_ BK308.out) hb); have n4_ := mkA (below_step (bs2_ HB.out GE301.out GE308.out) hb); clear HO_302002; clear HO_309002; clear BK301; clear BK308; clear HB; have HO_302002 := n0_; have HO_309002 := n1_; have BK301 := n2_; have BK308 := n3_; have HB := n4_; clear n0_ n1_ n2_ n3_ n4_; (try clear hb); (try clear hb2); (try clear hk); (try clear hi)))
           go_ret
           exact ⟨by first | rfl | (simp [errW_none, errW_some] <;> rfl) | (simp [*, errW_none, errW_some] <;> rfl), by repeat (first | (with_reducible first | exact HB.out | apply below_alloc | apply pw_below_drewN | apply below_drew1 | refine below_set ?_ GE301.out | refine below_set ?_ GE308.out) | exact HB.out)⟩

         rw [if_pos c35] at H
         have c35b0 : (t312 == t310) = true := beq_iff_eq.mpr c35
         have c35b1 : (t312 != t310) = false := bne_eq_false_iff_eq.mpr c35
         clear c35
         replace H := Option.bind_eq_some_iff.mp H
         obtain ⟨⟨t313, t314, t315, t318⟩, A360, H⟩ := H
         replace H : ((laws_eqTiling.f kj5 t313 t314 t315 t295 t296 t297).bind fun t320 => (if t320 = true then (laws_FnExactReadTiling.j1 kj5 t310 (t318 != t300) t302 t303 t311) else (laws_FnExactReadTiling.j1 kj5 t310 true t302 t303 t311))) = some r := H
         have A36 := mkA A360
         clear A360
         have HC37 := mkA H
         clear H
         have hnb38 := NB308_301.out
         have hnc38 := NB301_308.out
         have hcz39_0 : wc.cell? ⟨gb308, 0, none⟩ = some (.int .i64 t302) := (blk_cell BK308.out 0).trans rfl
         have hcz39_1 : wc.cell? ⟨gb308, 1, none⟩ = some (.int .i64 t303) := (blk_cell BK308.out 1).trans rfl
         have hcz39_2 : wc.cell? ⟨gb308, 2, none⟩ = some (.slice Ao15 t304.length co15) := (blk_cell BK308.out 2).trans rfl
         have hfz39_0 := blk_frozen BK308.out 0
         have hfz39_1 := blk_frozen BK308.out 1
         have hfz39_2 := blk_frozen BK308.out 2
         go_upto_region 16 with (first | ((with_reducible refine gate_callee (f := 12) rfl ?_); refine goesL_ (some 35) rfl rfl Tryd.func12 (by kernel_rfl) rfl #[.agg #[.int .i64 t302, .int .i64 t303, .slice Ao15 t304.length co15], .int .i64 1] rfl (by (try simp only [List.map_toArray, List.map_cons, List.map_nil]); first | done | rfl | (simp only [List.length_drop, List.length_take]; rfl)) ?_; (with_reducible refine (laws_markTiling.calls kj5 t302 t303 (fun k_ => some k_ = (.slice Ao15 t304.length co15 : Value).ownBlock) (.slice Ao15 t304.length co15) t304 1 t310 t311 w _ ?side1 ?side2 A27.out).mono ?_); (case side1 => repeat (first | (with_reducible first | exact HB.out | apply below_alloc | apply pw_below_drewN | apply below_drew1 | refine below_set ?_ GE301.out | refine below_set ?_ GE308.out) | exact HB.out)); (case side2 => exact Kd.R_tight rfl HO_309002.out); rintro e w40 ⟨rfl, hy0, hb, hkp⟩; refine ⟨_, rfl, ?_⟩; have n0_ := mkA (Kd.R_mono (ok' := fun k_ => some k_ ≠ (.slice Ao15 t304.length co15 : Value).ownBlock) (Kd.R_keptB (HO_302002.out) hkp (fun k_ hk_ hs_ => (hk_) hs_)) (fun k_ hk_ => hk_.1)); have n1_ := mkA (Kd.R_reok rfl hy0 (fun k_ e_ => HO_309002.out.1 k_ e_)); have n2_ := mkA (blk_kept (bl_ BK301.out) hkp (fun hs_ => (fun e_ => (Kd.R_ne HO_309002.out BK301.out (by decide)) e_) hs_)); have n3_ := mkA (blk_kept (bl_ BK308.out) hkp (fun hs_ => (fun e_ => (Kd.R_ne HO_309002.out BK308.out (by decide)) e_) hs_)); have n4_ := mkA (hb); clear HO_302002; clear HO_309002; clear BK301; clear BK308; clear HB; have HO_302002 := n0_; have HO_309002 := n1_; have BK301 := n2_; have BK308 := n3_; have HB := n4_; clear n0_ n1_ n2_ n3_ n4_; (try clear hb); (try clear hkp); (try clear hy0); have hcz41_0 : w40.cell? ⟨gb308, 0, none⟩ = some (.int .i64 t302) := (blk_cell BK308.out 0).trans rfl; have hcz41_1 : w40.cell? ⟨gb308, 1, none⟩ = some (.int .i64 t303) := (blk_cell BK308.out 1).trans rfl; have hcz41_2 : w40.cell? ⟨gb308, 2, none⟩ = some (.slice Ao15 t304.length co15) := (blk_cell BK308.out 2).trans rfl; have hfz41_0 := blk_frozen BK308.out 0; have hfz41_1 := blk_frozen BK308.out 1; have hfz41_2 := blk_frozen BK308.out 2) | ((with_reducible refine gate_callee (f := 13) rfl ?_); refine goesL_ (some 38) rfl rfl Tryd.func13 (by kernel_rfl) rfl #[.agg #[.int .i64 t302, .int .i64 t303, .slice Ao15 t311.length co15], .int .i64 1] rfl (by (try simp only [List.map_toArray, List.map_cons, List.map_nil]); first | done | (rw [show t311.length = t304.length from (Kd.R_reads' HO_309002.out).1.symm] <;> rfl) | rfl | (simp only [List.length_drop, List.length_take]; rfl)) ?_; (with_reducible refine (laws_heldTiling.calls kj5 t302 t303 _ _ t311 1 t312 _ ?side1 ?side2 A28.out).mono ?_); (case side1 => repeat (first | exact (Kd.R_reads' HO_309002.out).2.2 | (with_reducible refine Kd.C_alloc ?_ _) | (with_reducible refine Kd.C_drewN ?_ _) | (with_reducible refine Kd.C_drew ?_))); (case side2 => rw [show t311.length = t304.length from (Kd.R_reads' HO_309002.out).1.symm]; exact (Kd.R_reads' HO_309002.out).2.1); rintro e w42 ⟨rfl, hb⟩; refine ⟨_, rfl, ?_⟩; have n0_ := mkA (Kd.R_below (by (with_reducible repeat (first | apply Kd.R_alloc | apply Kd.R_drewN | apply Kd.R_drew)); exact HO_302002.out) hb); have n1_ := mkA (Kd.R_below (by (with_reducible repeat (first | apply Kd.R_alloc | apply Kd.R_drewN | apply Kd.R_drew)); exact HO_309002.out) hb); have n2_ := mkA (blk_below (g := gb301) (o := .cells #[.int .i64 t295, .int .i64 t296, .slice Ao10 t297.length co10] 27 (0, 0)) (bl_ BK301.out) hb); have n3_ := mkA (blk_below (g := gb308) (o := .cells #[.int .i64 t302, .int .i64 t303, .slice Ao15 t304.length co15] 27 (0, 0)) (bl_ BK308.out) hb); have n4_ := mkA (below_step (bs2_ HB.out GE301.out GE308.out) hb); clear HO_302002; clear HO_309002; clear BK301; clear BK308; clear HB; have HO_302002 := n0_; have HO_309002 := n1_; have BK301 := n2_; have BK308 := n3_; have HB := n4_; clear n0_ n1_ n2_ n3_ n4_; (try clear hb); (try clear hb2); (try clear hk); (try clear hi)) | ((with_reducible refine gate_callee (f := 11) rfl ?_); refine goesL_ (some 46) rfl rfl Tryd.func11 (by kernel_rfl) rfl #[.string a0] rfl (by (try simp only [List.map_toArray, List.map_cons, List.map_nil]); first | done | rfl | (simp only [List.length_drop, List.length_take]; rfl)) ?_; (with_reducible refine (impl_ReadTiling.calls kj5 a0 l1 t313 t314 t315 t318 _ ?side1 A36.out).mono ?_); (case side1 => exact cb_ HR1.out HB.out); rintro e w43 ⟨v316, rfl, ho0, hb⟩; refine ⟨_, rfl, ?_⟩; have n0_ := mkA (Kd.R_elder' (by (with_reducible repeat (first | apply Kd.R_alloc | apply Kd.R_drewN | apply Kd.R_drew)); exact HO_302002.out) (Kd.R_base ho0) hb); have n1_ := mkA (Kd.R_elder' (by (with_reducible repeat (first | apply Kd.R_alloc | apply Kd.R_drewN | apply Kd.R_drew)); exact HO_309002.out) (Kd.R_base ho0) hb); have n2_ := mkA (Kd.R_lower (Kd.R_new' (Kd.R_new' ho0 (Kd.R_lt (by (with_reducible repeat (first | apply Kd.R_alloc | apply Kd.R_drewN | apply Kd.R_drew)); exact HO_302002.out))) (Kd.R_lt (by (with_reducible repeat (first | apply Kd.R_alloc | apply Kd.R_drewN | apply Kd.R_drew)); exact HO_309002.out))) (below_size (bs2_ HB.out GE301.out GE308.out))); have n3_ := mkA (blk_below (g := gb301) (o := .cells #[.int .i64 t295, .int .i64 t296, .slice Ao10 t297.length co10] 27 (0, 0)) (bl_ BK301.out) hb); have n4_ := mkA (blk_below (g := gb308) (o := .cells #[.int .i64 t302, .int .i64 t303, .slice Ao15 t304.length co15] 27 (0, 0)) (bl_ BK308.out) hb); have n5_ := mkA (below_step (bs2_ HB.out GE301.out GE308.out) hb); clear HO_302002; clear HO_309002; clear BK301; clear BK308; clear HB; have HO_302002 := n0_; have HO_309002 := n1_; have HO317 := n2_; have BK301 := n3_; have BK308 := n4_; have HB := n5_; clear n0_ n1_ n2_ n3_ n4_ n5_; (try clear hb); (try clear hb2); (try clear hk); (try clear hi); (try clear ho0)) | ((with_reducible refine gate_dst (N := 9) rfl ?_); refine box_event ?hg (N := 9) ?hd (cs := #[.int .i64 0, .int .i64 0, .slice none 0 0]) (t := 27) ?hr ?_; (case hd => rfl); (case hg => rfl); (case hr => first | (go_simp; done) | (go_simp; rfl)); intro gb319 hg w44 hbox hb; have n0_ := mkA (Kd.R_below (by (with_reducible repeat (first | apply Kd.R_alloc | apply Kd.R_drewN | apply Kd.R_drew)); exact HO_302002.out) hb); have n1_ := mkA (Kd.R_below (by (with_reducible repeat (first | apply Kd.R_alloc | apply Kd.R_drewN | apply Kd.R_drew)); exact HO_309002.out) hb); have n2_ := mkA (Kd.R_below (by (with_reducible repeat (first | apply Kd.R_alloc | apply Kd.R_drewN | apply Kd.R_drew)); exact HO317.out) hb); have n3_ := mkA (blk_below (g := gb301) (o := .cells #[.int .i64 t295, .int .i64 t296, .slice Ao10 t297.length co10] 27 (0, 0)) (bl_ BK301.out) hb); have n4_ := mkA (blk_below (g := gb308) (o := .cells #[.int .i64 t302, .int .i64 t303, .slice Ao15 t304.length co15] 27 (0, 0)) (bl_ BK308.out) hb); have n5_ := mkA (below_step (bs2_ HB.out GE301.out GE308.out) hb); have n6_ := mkA (hbox); have n7_ := mkA ((by rw [hg]; exact (below_size (bs2_ HB.out GE301.out GE308.out)) : w.heap.size ≤ gb319)); have n8_ := mkA ((by rw [hg]; exact (below_size (bs2_ HB.out GE301.out GE308.out)) : w.heap.size ≤ gb319)); have n9_ := mkA ((by rw [hg]; exact Nat.ne_of_lt (blk_lt (g := gb301) (o := .cells #[.int .i64 t295, .int .i64 t296, .slice Ao10 t297.length co10] 27 (0, 0)) (bl_ BK301.out)) : gb301 ≠ gb319)); have n10_ := mkA ((by rw [hg]; exact Nat.ne_of_gt (blk_lt (g := gb301) (o := .cells #[.int .i64 t295, .int .i64 t296, .slice Ao10 t297.length co10] 27 (0, 0)) (bl_ BK301.out)) : gb319 ≠ gb301)); have n11_ := mkA ((by rw [hg]; exact Nat.ne_of_lt (blk_lt (g := gb308) (o := .cells #[.int .i64 t302, .int .i64 t303, .slice Ao15 t304.length co15] 27 (0, 0)) (bl_ BK308.out)) : gb308 ≠ gb319)); have n12_ := mkA ((by rw [hg]; exact Nat.ne_of_gt (blk_lt (g := gb308) (o := .cells #[.int .i64 t302, .int .i64 t303, .slice Ao15 t304.length co15] 27 (0, 0)) (bl_ BK308.out)) : gb319 ≠ gb308)); clear HO_302002; clear HO_309002; clear HO317; clear BK301; clear BK308; clear HB; have HO_302002 := n0_; have HO_309002 := n1_; have HO317 := n2_; have BK301 := n3_; have BK308 := n4_; have HB := n5_; have BK319 := n6_; have GW319 := n7_; have GE319 := n8_; have NB301_319 := n9_; have NB319_301 := n10_; have NB308_319 := n11_; have NB319_308 := n12_; clear n0_ n1_ n2_ n3_ n4_ n5_ n6_ n7_ n8_ n9_ n10_ n11_ n12_; clear hb hbox hg; have hnb45 := NB319_301.out; have hnc45 := NB301_319.out; have hnb46 := NB319_308.out; have hnc46 := NB308_319.out; have hcz47_0 : w44.cell? ⟨gb319, 0, none⟩ = some (.int .i64 0) := (blk_cell BK319.out 0).trans rfl; have hcz47_1 : w44.cell? ⟨gb319, 1, none⟩ = some (.int .i64 0) := (blk_cell BK319.out 1).trans rfl; have hcz47_2 : w44.cell? ⟨gb319, 2, none⟩ = some (.slice none 0 0) := (blk_cell BK319.out 2).trans rfl; have hfz47_0 := blk_frozen BK319.out 0; have hfz47_1 := blk_frozen BK319.out 1; have hfz47_2 := blk_frozen BK319.out 2; obtain ⟨Ao48, co48, eo48⟩ := Kd.R_slice HO317.out; subst eo48))
         (try simp only [Act.put, sA, sB, sC])
         go_cut [57] (fun v57 wc => ∃ (kq : Nat) (x57_36 : Bool), v57 = .bool x57_36 ∧ Aside0 (laws_FnExactReadTiling.j1 kq t310 x57_36 t302 t303 t311 = some r) ∧ Aside0 (kq ≤ kj5) ∧ Aside0 (Kd.R (Kd.int .i64) 2 wc w.heap.size (fun k_ => some k_ ≠ ((.slice Ao15 t304.length co15) : Value).ownBlock ∧ some k_ ≠ ((.slice Ao48 t315.length co48) : Value).ownBlock) (.slice Ao10 t297.length co10) t297) ∧ Aside0 (Kd.R (Kd.int .i64) 2 wc w.heap.size (fun k_ => some k_ ≠ ((.slice Ao10 t297.length co10) : Value).ownBlock ∧ some k_ ≠ ((.slice Ao48 t315.length co48) : Value).ownBlock) (.slice Ao15 t304.length co15) t311) ∧ Aside0 (Kd.R (Kd.int .i64) 2 wc w.heap.size (fun k_ => some k_ ≠ ((.slice Ao10 t297.length co10) : Value).ownBlock ∧ some k_ ≠ ((.slice Ao15 t304.length co15) : Value).ownBlock) (.slice Ao48 t315.length co48) t315) ∧ Aside0 (wc.heap[gb301]? = some (.cells #[.int .i64 t295, .int .i64 t296, (.slice Ao10 t297.length co10)] 27 (0, 0))) ∧ Aside0 (wc.heap[gb308]? = some (.cells #[.int .i64 t302, .int .i64 t303, (.slice Ao15 t304.length co15)] 27 (0, 0))) ∧ Aside0 (wc.heap[gb319]? = some (.cells #[.int .i64 t313, .int .i64 t314, (.slice Ao48 t315.length co48)] 27 (0, 0))) ∧ Aside0 (Below w.heap.size w wc))
         case first =>
          have H := HC37.out
          clear HC37
          replace H := Option.bind_eq_some_iff.mp H
          obtain ⟨t320, A490, H⟩ := H
          replace H : (if t320 = true then (laws_FnExactReadTiling.j1 kj5 t310 (t318 != t300) t302 t303 t311) else (laws_FnExactReadTiling.j1 kj5 t310 true t302 t303 t311)) = some r := H
          have A49 := mkA A490
          clear A490
          by_cases c50 : t320 = true
          · subst c50
            have H1 : (laws_FnExactReadTiling.j1 kj5 t310 (t318 != t300) t302 t303 t311) = some r := by rw [if_pos rfl] at H; exact H
            clear H
            have H := H1
            clear H1
            have H' := mkA H
            clear H
            have hnb51 := NB319_301.out
            have hnc51 := NB301_319.out
            have hnb52 := NB319_308.out
            have hnc52 := NB308_319.out
            have hcz53_0 : w44.cell? ⟨gb319, 0, none⟩ = some (.int .i64 0) := (blk_cell BK319.out 0).trans rfl
            have hcz53_1 : w44.cell? ⟨gb319, 1, none⟩ = some (.int .i64 0) := (blk_cell BK319.out 1).trans rfl
            have hcz53_2 : w44.cell? ⟨gb319, 2, none⟩ = some (.slice none 0 0) := (blk_cell BK319.out 2).trans rfl
            have hfz53_0 := blk_frozen BK319.out 0
            have hfz53_1 := blk_frozen BK319.out 1
            have hfz53_2 := blk_frozen BK319.out 2
            have hnb54 := NB301_308.out
            have hnc54 := NB308_301.out
            have hcz55_0 : w44.cell? ⟨gb301, 0, none⟩ = some (.int .i64 t295) := (blk_cell BK301.out 0).trans rfl
            have hcz55_1 : w44.cell? ⟨gb301, 1, none⟩ = some (.int .i64 t296) := (blk_cell BK301.out 1).trans rfl
            have hcz55_2 : w44.cell? ⟨gb301, 2, none⟩ = some (.slice Ao10 t297.length co10) := (blk_cell BK301.out 2).trans rfl
            have hfz55_0 := blk_frozen BK301.out 0
            have hfz55_1 := blk_frozen BK301.out 1
            have hfz55_2 := blk_frozen BK301.out 2
            go_wp2_with (first | ((with_reducible refine gate_callee (f := 9) rfl ?_); refine goesL_ (some 51) rfl rfl Tryd.func9 (by kernel_rfl) rfl #[.agg #[.int .i64 t313, .int .i64 t314, .slice Ao48 t315.length co48], .agg #[.int .i64 t295, .int .i64 t296, .slice Ao10 t297.length co10]] rfl (by (try simp only [List.map_toArray, List.map_cons, List.map_nil]); first | done | rfl | (simp only [List.length_drop, List.length_take]; rfl)) ?_; (with_reducible refine (laws_eqTiling.calls kj5 t313 t314 _ _ t315 t295 t296 _ _ t297 true _ ?side1 ?side2 ?side3 ?side4 A49.out).mono ?_); (case side1 => refine (Kd.R_reads' (e := 2) (base := w.heap.size) (ok := fun k_ => ((True ∧ some k_ ≠ (.slice Ao10 t297.length co10 : Value).ownBlock) ∧ some k_ ≠ (.slice Ao15 t304.length co15 : Value).ownBlock)) (n := t315.length) (c := co48) ?_).2.2; exact (by (with_reducible repeat (first | apply Kd.R_alloc | apply Kd.R_drewN | apply Kd.R_drew)); exact (Kd.R_mono (Kd.R_far (p := ⟨gb319, 2, none⟩) (Kd.R_far (p := ⟨gb319, 1, none⟩) (Kd.R_far (p := ⟨gb319, 0, none⟩) (Kd.R_types HO317.out BK319.out (by decide)) (fun _ hk => hk.2) (.int .i64 t313)) (fun _ hk => hk.2) (.int .i64 t314)) (fun _ hk => hk.2) (.slice Ao48 t315.length co48)) (fun _ h_ => h_.1)))); (case side2 => exact (Kd.R_reads' HO317.out).2.1); (case side3 => refine (Kd.R_reads' (e := 2) (base := w.heap.size) (ok := fun k_ => (some k_ ≠ (.slice Ao15 t304.length co15 : Value).ownBlock ∧ some k_ ≠ (.slice Ao48 t315.length co48 : Value).ownBlock)) (n := t297.length) (c := co10) ?_).2.2; exact (by (with_reducible repeat (first | apply Kd.R_alloc | apply Kd.R_drewN | apply Kd.R_drew)); exact (Kd.R_mono (Kd.R_far (p := ⟨gb319, 2, none⟩) (Kd.R_far (p := ⟨gb319, 1, none⟩) (Kd.R_far (p := ⟨gb319, 0, none⟩) (Kd.R_types HO_302002.out BK319.out (by decide)) (fun _ hk => hk.2) (.int .i64 t313)) (fun _ hk => hk.2) (.int .i64 t314)) (fun _ hk => hk.2) (.slice Ao48 t315.length co48)) (fun _ h_ => h_.1)))); (case side4 => exact (Kd.R_reads' HO_302002.out).2.1); rintro e w56 ⟨rfl, hb⟩; refine ⟨_, rfl, ?_⟩; have n0_ := mkA (Kd.R_below (by (with_reducible repeat (first | apply Kd.R_alloc | apply Kd.R_drewN | apply Kd.R_drew)); exact (Kd.R_mono (Kd.R_far (p := ⟨gb319, 2, none⟩) (Kd.R_far (p := ⟨gb319, 1, none⟩) (Kd.R_far (p := ⟨gb319, 0, none⟩) (Kd.R_types HO_302002.out BK319.out (by decide)) (fun _ hk => hk.2) (.int .i64 t313)) (fun _ hk => hk.2) (.int .i64 t314)) (fun _ hk => hk.2) (.slice Ao48 t315.length co48)) (fun _ h_ => h_.1))) hb); have n1_ := mkA (Kd.R_below (by (with_reducible repeat (first | apply Kd.R_alloc | apply Kd.R_drewN | apply Kd.R_drew)); exact (Kd.R_mono (Kd.R_far (p := ⟨gb319, 2, none⟩) (Kd.R_far (p := ⟨gb319, 1, none⟩) (Kd.R_far (p := ⟨gb319, 0, none⟩) (Kd.R_types HO_309002.out BK319.out (by decide)) (fun _ hk => hk.2) (.int .i64 t313)) (fun _ hk => hk.2) (.int .i64 t314)) (fun _ hk => hk.2) (.slice Ao48 t315.length co48)) (fun _ h_ => h_.1))) hb); have n2_ := mkA (Kd.R_below (by (with_reducible repeat (first | apply Kd.R_alloc | apply Kd.R_drewN | apply Kd.R_drew)); exact (Kd.R_mono (Kd.R_far (p := ⟨gb319, 2, none⟩) (Kd.R_far (p := ⟨gb319, 1, none⟩) (Kd.R_far (p := ⟨gb319, 0, none⟩) (Kd.R_types HO317.out BK319.out (by decide)) (fun _ hk => hk.2) (.int .i64 t313)) (fun _ hk => hk.2) (.int .i64 t314)) (fun _ hk => hk.2) (.slice Ao48 t315.length co48)) (fun _ h_ => h_.1))) hb); have n3_ := mkA (blk_below (g := gb301) (o := .cells #[.int .i64 t295, .int .i64 t296, .slice Ao10 t297.length co10] 27 (0, 0)) (by (with_reducible repeat (first | refine blk_drewN ?_ _ | refine blk_drew ?_ | refine blk_alloc ?_ _)); refine blk_far ?_ NB301_319.out _; (with_reducible repeat (first | refine blk_drewN ?_ _ | refine blk_drew ?_ | refine blk_alloc ?_ _)); refine blk_far ?_ NB301_319.out _; (with_reducible repeat (first | refine blk_drewN ?_ _ | refine blk_drew ?_ | refine blk_alloc ?_ _)); refine blk_far ?_ NB301_319.out _; (with_reducible repeat (first | refine blk_drewN ?_ _ | refine blk_drew ?_ | refine blk_alloc ?_ _)); exact BK301.out) hb); have n4_ := mkA (blk_below (g := gb308) (o := .cells #[.int .i64 t302, .int .i64 t303, .slice Ao15 t304.length co15] 27 (0, 0)) (by (with_reducible repeat (first | refine blk_drewN ?_ _ | refine blk_drew ?_ | refine blk_alloc ?_ _)); refine blk_far ?_ NB308_319.out _; (with_reducible repeat (first | refine blk_drewN ?_ _ | refine blk_drew ?_ | refine blk_alloc ?_ _)); refine blk_far ?_ NB308_319.out _; (with_reducible repeat (first | refine blk_drewN ?_ _ | refine blk_drew ?_ | refine blk_alloc ?_ _)); refine blk_far ?_ NB308_319.out _; (with_reducible repeat (first | refine blk_drewN ?_ _ | refine blk_drew ?_ | refine blk_alloc ?_ _)); exact BK308.out) hb); have n5_ := mkA (blk_below (g := gb319) (o := .cells #[.int .i64 t313, .int .i64 t314, .slice Ao48 t315.length co48] 27 (0, 0)) (by (with_reducible repeat (first | refine blk_drewN ?_ _ | refine blk_drew ?_ | refine blk_alloc ?_ _)); refine blk_put (cs := #[.int .i64 t313, .int .i64 t314, .slice none 0 0]) ?_ 2 _ rfl; (with_reducible repeat (first | refine blk_drewN ?_ _ | refine blk_drew ?_ | refine blk_alloc ?_ _)); refine blk_put (cs := #[.int .i64 t313, .int .i64 0, .slice none 0 0]) ?_ 1 _ rfl; (with_reducible repeat (first | refine blk_drewN ?_ _ | refine blk_drew ?_ | refine blk_alloc ?_ _)); refine blk_put (cs := #[.int .i64 0, .int .i64 0, .slice none 0 0]) ?_ 0 _ rfl; (with_reducible repeat (first | refine blk_drewN ?_ _ | refine blk_drew ?_ | refine blk_alloc ?_ _)); exact BK319.out) hb); have n6_ := mkA (below_step (bs3_ HB.out GE301.out GE308.out GE319.out) hb); clear HO_302002; clear HO_309002; clear HO317; clear BK301; clear BK308; clear BK319; clear HB; have HO_302002 := n0_; have HO_309002 := n1_; have HO317 := n2_; have BK301 := n3_; have BK308 := n4_; have BK319 := n5_; have HB := n6_; clear n0_ n1_ n2_ n3_ n4_ n5_ n6_; (try clear hb); (try clear hb2); (try clear hk); (try clear hi)))
            go_meet
            case rel => exact ⟨_, ((t318 != t300)), (by first | rfl | (simp; done) | (simp [*]; done) | (simp [i64_w, i32_w]; done)), H', ⟨by have := HJ5.out; first | omega | exact Nat.le_refl _⟩, ⟨by (with_reducible repeat (first | apply Kd.R_alloc | apply Kd.R_drewN | apply Kd.R_drew)); exact HO_302002.out⟩, ⟨by (with_reducible repeat (first | apply Kd.R_alloc | apply Kd.R_drewN | apply Kd.R_drew)); exact HO_309002.out⟩, ⟨by (with_reducible repeat (first | apply Kd.R_alloc | apply Kd.R_drewN | apply Kd.R_drew)); exact Kd.R_mono HO317.out (fun _ hk => ⟨hk.1.2, hk.2⟩)⟩, ⟨by (with_reducible repeat (first | refine blk_drewN ?_ _ | refine blk_drew ?_ | refine blk_alloc ?_ _)); exact BK301.out⟩, ⟨by (with_reducible repeat (first | refine blk_drewN ?_ _ | refine blk_drew ?_ | refine blk_alloc ?_ _)); exact BK308.out⟩, ⟨by (with_reducible repeat (first | refine blk_drewN ?_ _ | refine blk_drew ?_ | refine blk_alloc ?_ _)); exact BK319.out⟩, ⟨by repeat (first | (with_reducible first | exact HB.out | apply below_alloc | apply pw_below_drewN | apply below_drew1 | refine below_set ?_ GE301.out | refine below_set ?_ GE308.out | refine below_set ?_ GE319.out) | exact HB.out)⟩⟩
          · replace c50 := Bool.eq_false_iff.mpr c50
            subst c50
            have H1 : (laws_FnExactReadTiling.j1 kj5 t310 true t302 t303 t311) = some r := by rw [if_neg (show ¬ (false = true) by decide)] at H; exact H
            clear H
            have H := H1
            clear H1
            have H' := mkA H
            clear H
            have hnb57 := NB319_301.out
            have hnc57 := NB301_319.out
            have hnb58 := NB319_308.out
            have hnc58 := NB308_319.out
            have hcz59_0 : w44.cell? ⟨gb319, 0, none⟩ = some (.int .i64 0) := (blk_cell BK319.out 0).trans rfl
            have hcz59_1 : w44.cell? ⟨gb319, 1, none⟩ = some (.int .i64 0) := (blk_cell BK319.out 1).trans rfl
            have hcz59_2 : w44.cell? ⟨gb319, 2, none⟩ = some (.slice none 0 0) := (blk_cell BK319.out 2).trans rfl
            have hfz59_0 := blk_frozen BK319.out 0
            have hfz59_1 := blk_frozen BK319.out 1
            have hfz59_2 := blk_frozen BK319.out 2
            have hnb60 := NB301_308.out
            have hnc60 := NB308_301.out
            have hcz61_0 : w44.cell? ⟨gb301, 0, none⟩ = some (.int .i64 t295) := (blk_cell BK301.out 0).trans rfl
            have hcz61_1 : w44.cell? ⟨gb301, 1, none⟩ = some (.int .i64 t296) := (blk_cell BK301.out 1).trans rfl
            have hcz61_2 : w44.cell? ⟨gb301, 2, none⟩ = some (.slice Ao10 t297.length co10) := (blk_cell BK301.out 2).trans rfl
            have hfz61_0 := blk_frozen BK301.out 0
            have hfz61_1 := blk_frozen BK301.out 1
            have hfz61_2 := blk_frozen BK301.out 2
            go_wp2_with (first | ((with_reducible refine gate_callee (f := 9) rfl ?_); refine goesL_ (some 51) rfl rfl Tryd.func9 (by kernel_rfl) rfl #[.agg #[.int .i64 t313, .int .i64 t314, .slice Ao48 t315.length co48], .agg #[.int .i64 t295, .int .i64 t296, .slice Ao10 t297.length co10]] rfl (by (try simp only [List.map_toArray, List.map_cons, List.map_nil]); first | done | rfl | (simp only [List.length_drop, List.length_take]; rfl)) ?_; (with_reducible refine (laws_eqTiling.calls kj5 t313 t314 _ _ t315 t295 t296 _ _ t297 false _ ?side1 ?side2 ?side3 ?side4 A49.out).mono ?_); (case side1 => refine (Kd.R_reads' (e := 2) (base := w.heap.size) (ok := fun k_ => ((True ∧ some k_ ≠ (.slice Ao10 t297.length co10 : Value).ownBlock) ∧ some k_ ≠ (.slice Ao15 t304.length co15 : Value).ownBlock)) (n := t315.length) (c := co48) ?_).2.2; exact (by (with_reducible repeat (first | apply Kd.R_alloc | apply Kd.R_drewN | apply Kd.R_drew)); exact (Kd.R_mono (Kd.R_far (p := ⟨gb319, 2, none⟩) (Kd.R_far (p := ⟨gb319, 1, none⟩) (Kd.R_far (p := ⟨gb319, 0, none⟩) (Kd.R_types HO317.out BK319.out (by decide)) (fun _ hk => hk.2) (.int .i64 t313)) (fun _ hk => hk.2) (.int .i64 t314)) (fun _ hk => hk.2) (.slice Ao48 t315.length co48)) (fun _ h_ => h_.1)))); (case side2 => exact (Kd.R_reads' HO317.out).2.1); (case side3 => refine (Kd.R_reads' (e := 2) (base := w.heap.size) (ok := fun k_ => (some k_ ≠ (.slice Ao15 t304.length co15 : Value).ownBlock ∧ some k_ ≠ (.slice Ao48 t315.length co48 : Value).ownBlock)) (n := t297.length) (c := co10) ?_).2.2; exact (by (with_reducible repeat (first | apply Kd.R_alloc | apply Kd.R_drewN | apply Kd.R_drew)); exact (Kd.R_mono (Kd.R_far (p := ⟨gb319, 2, none⟩) (Kd.R_far (p := ⟨gb319, 1, none⟩) (Kd.R_far (p := ⟨gb319, 0, none⟩) (Kd.R_types HO_302002.out BK319.out (by decide)) (fun _ hk => hk.2) (.int .i64 t313)) (fun _ hk => hk.2) (.int .i64 t314)) (fun _ hk => hk.2) (.slice Ao48 t315.length co48)) (fun _ h_ => h_.1)))); (case side4 => exact (Kd.R_reads' HO_302002.out).2.1); rintro e w62 ⟨rfl, hb⟩; refine ⟨_, rfl, ?_⟩; have n0_ := mkA (Kd.R_below (by (with_reducible repeat (first | apply Kd.R_alloc | apply Kd.R_drewN | apply Kd.R_drew)); exact (Kd.R_mono (Kd.R_far (p := ⟨gb319, 2, none⟩) (Kd.R_far (p := ⟨gb319, 1, none⟩) (Kd.R_far (p := ⟨gb319, 0, none⟩) (Kd.R_types HO_302002.out BK319.out (by decide)) (fun _ hk => hk.2) (.int .i64 t313)) (fun _ hk => hk.2) (.int .i64 t314)) (fun _ hk => hk.2) (.slice Ao48 t315.length co48)) (fun _ h_ => h_.1))) hb); have n1_ := mkA (Kd.R_below (by (with_reducible repeat (first | apply Kd.R_alloc | apply Kd.R_drewN | apply Kd.R_drew)); exact (Kd.R_mono (Kd.R_far (p := ⟨gb319, 2, none⟩) (Kd.R_far (p := ⟨gb319, 1, none⟩) (Kd.R_far (p := ⟨gb319, 0, none⟩) (Kd.R_types HO_309002.out BK319.out (by decide)) (fun _ hk => hk.2) (.int .i64 t313)) (fun _ hk => hk.2) (.int .i64 t314)) (fun _ hk => hk.2) (.slice Ao48 t315.length co48)) (fun _ h_ => h_.1))) hb); have n2_ := mkA (Kd.R_below (by (with_reducible repeat (first | apply Kd.R_alloc | apply Kd.R_drewN | apply Kd.R_drew)); exact (Kd.R_mono (Kd.R_far (p := ⟨gb319, 2, none⟩) (Kd.R_far (p := ⟨gb319, 1, none⟩) (Kd.R_far (p := ⟨gb319, 0, none⟩) (Kd.R_types HO317.out BK319.out (by decide)) (fun _ hk => hk.2) (.int .i64 t313)) (fun _ hk => hk.2) (.int .i64 t314)) (fun _ hk => hk.2) (.slice Ao48 t315.length co48)) (fun _ h_ => h_.1))) hb); have n3_ := mkA (blk_below (g := gb301) (o := .cells #[.int .i64 t295, .int .i64 t296, .slice Ao10 t297.length co10] 27 (0, 0)) (by (with_reducible repeat (first | refine blk_drewN ?_ _ | refine blk_drew ?_ | refine blk_alloc ?_ _)); refine blk_far ?_ NB301_319.out _; (with_reducible repeat (first | refine blk_drewN ?_ _ | refine blk_drew ?_ | refine blk_alloc ?_ _)); refine blk_far ?_ NB301_319.out _; (with_reducible repeat (first | refine blk_drewN ?_ _ | refine blk_drew ?_ | refine blk_alloc ?_ _)); refine blk_far ?_ NB301_319.out _; (with_reducible repeat (first | refine blk_drewN ?_ _ | refine blk_drew ?_ | refine blk_alloc ?_ _)); exact BK301.out) hb); have n4_ := mkA (blk_below (g := gb308) (o := .cells #[.int .i64 t302, .int .i64 t303, .slice Ao15 t304.length co15] 27 (0, 0)) (by (with_reducible repeat (first | refine blk_drewN ?_ _ | refine blk_drew ?_ | refine blk_alloc ?_ _)); refine blk_far ?_ NB308_319.out _; (with_reducible repeat (first | refine blk_drewN ?_ _ | refine blk_drew ?_ | refine blk_alloc ?_ _)); refine blk_far ?_ NB308_319.out _; (with_reducible repeat (first | refine blk_drewN ?_ _ | refine blk_drew ?_ | refine blk_alloc ?_ _)); refine blk_far ?_ NB308_319.out _; (with_reducible repeat (first | refine blk_drewN ?_ _ | refine blk_drew ?_ | refine blk_alloc ?_ _)); exact BK308.out) hb); have n5_ := mkA (blk_below (g := gb319) (o := .cells #[.int .i64 t313, .int .i64 t314, .slice Ao48 t315.length co48] 27 (0, 0)) (by (with_reducible repeat (first | refine blk_drewN ?_ _ | refine blk_drew ?_ | refine blk_alloc ?_ _)); refine blk_put (cs := #[.int .i64 t313, .int .i64 t314, .slice none 0 0]) ?_ 2 _ rfl; (with_reducible repeat (first | refine blk_drewN ?_ _ | refine blk_drew ?_ | refine blk_alloc ?_ _)); refine blk_put (cs := #[.int .i64 t313, .int .i64 0, .slice none 0 0]) ?_ 1 _ rfl; (with_reducible repeat (first | refine blk_drewN ?_ _ | refine blk_drew ?_ | refine blk_alloc ?_ _)); refine blk_put (cs := #[.int .i64 0, .int .i64 0, .slice none 0 0]) ?_ 0 _ rfl; (with_reducible repeat (first | refine blk_drewN ?_ _ | refine blk_drew ?_ | refine blk_alloc ?_ _)); exact BK319.out) hb); have n6_ := mkA (below_step (bs3_ HB.out GE301.out GE308.out GE319.out) hb); clear HO_302002; clear HO_309002; clear HO317; clear BK301; clear BK308; clear BK319; clear HB; have HO_302002 := n0_; have HO_309002 := n1_; have HO317 := n2_; have BK301 := n3_; have BK308 := n4_; have BK319 := n5_; have HB := n6_; clear n0_ n1_ n2_ n3_ n4_ n5_ n6_; (try clear hb); (try clear hb2); (try clear hk); (try clear hi)))
            go_meet
            case rel => exact ⟨_, (true), (by first | rfl | (simp; done) | (simp [*]; done) | (simp [i64_w, i32_w]; done)), H', ⟨by have := HJ5.out; first | omega | exact Nat.le_refl _⟩, ⟨by (with_reducible repeat (first | apply Kd.R_alloc | apply Kd.R_drewN | apply Kd.R_drew)); exact HO_302002.out⟩, ⟨by (with_reducible repeat (first | apply Kd.R_alloc | apply Kd.R_drewN | apply Kd.R_drew)); exact HO_309002.out⟩, ⟨by (with_reducible repeat (first | apply Kd.R_alloc | apply Kd.R_drewN | apply Kd.R_drew)); exact Kd.R_mono HO317.out (fun _ hk => ⟨hk.1.2, hk.2⟩)⟩, ⟨by (with_reducible repeat (first | refine blk_drewN ?_ _ | refine blk_drew ?_ | refine blk_alloc ?_ _)); exact BK301.out⟩, ⟨by (with_reducible repeat (first | refine blk_drewN ?_ _ | refine blk_drew ?_ | refine blk_alloc ?_ _)); exact BK308.out⟩, ⟨by (with_reducible repeat (first | refine blk_drewN ?_ _ | refine blk_drew ?_ | refine blk_alloc ?_ _)); exact BK319.out⟩, ⟨by repeat (first | (with_reducible first | exact HB.out | apply below_alloc | apply pw_below_drewN | apply below_drew1 | refine below_set ?_ GE301.out | refine below_set ?_ GE308.out | refine below_set ?_ GE319.out) | exact HB.out)⟩⟩
         case rest =>
          clear HC37
          try clear c1
          try clear c2
          try clear p2
          try clear c3
          try clear c3b0
          try clear c3b1
          try clear c4
          try clear c5
          try clear c6
          try clear c9
          try clear c10
          try clear c11
          try clear c12
          try clear c13
          try clear c17
          try clear c18
          try clear c22
          try clear c26
          try clear c29
          try clear c29b0
          try clear c30
          try clear c35
          try clear c35b0
          try clear c35b1
          try clear c38
          try clear c45
          try clear c46
          try clear c50
          try clear c51
          try clear c52
          try clear c54
          try clear c57
          try clear c58
          try clear c60
          try clear hcz14_0
          try clear hcz14_1
          try clear hcz14_2
          try clear hcz19_0
          try clear hcz19_1
          try clear hcz19_2
          try clear hcz20_0
          try clear hcz20_1
          try clear hcz20_2
          try clear hcz23_0
          try clear hcz23_1
          try clear hcz23_2
          try clear hcz24_0
          try clear hcz24_1
          try clear hcz24_2
          try clear hcz31_0
          try clear hcz31_1
          try clear hcz31_2
          try clear hcz33_0
          try clear hcz33_1
          try clear hcz33_2
          try clear hcz39_0
          try clear hcz39_1
          try clear hcz39_2
          try clear hcz41_0
          try clear hcz41_1
          try clear hcz41_2
          try clear hcz47_0
          try clear hcz47_1
          try clear hcz47_2
          try clear hcz53_0
          try clear hcz53_1
          try clear hcz53_2
          try clear hcz55_0
          try clear hcz55_1
          try clear hcz55_2
          try clear hcz59_0
          try clear hcz59_1
          try clear hcz59_2
          try clear hcz61_0
          try clear hcz61_1
          try clear hcz61_2
          try clear hcz9_0
          try clear hcz9_1
          try clear hcz9_2
          try clear hfz14_0
          try clear hfz14_1
          try clear hfz14_2
          try clear hfz19_0
          try clear hfz19_1
          try clear hfz19_2
          try clear hfz20_0
          try clear hfz20_1
          try clear hfz20_2
          try clear hfz23_0
          try clear hfz23_1
          try clear hfz23_2
          try clear hfz24_0
          try clear hfz24_1
          try clear hfz24_2
          try clear hfz31_0
          try clear hfz31_1
          try clear hfz31_2
          try clear hfz33_0
          try clear hfz33_1
          try clear hfz33_2
          try clear hfz39_0
          try clear hfz39_1
          try clear hfz39_2
          try clear hfz41_0
          try clear hfz41_1
          try clear hfz41_2
          try clear hfz47_0
          try clear hfz47_1
          try clear hfz47_2
          try clear hfz53_0
          try clear hfz53_1
          try clear hfz53_2
          try clear hfz55_0
          try clear hfz55_1
          try clear hfz55_2
          try clear hfz59_0
          try clear hfz59_1
          try clear hfz59_2
          try clear hfz61_0
          try clear hfz61_1
          try clear hfz61_2
          try clear hfz9_0
          try clear hfz9_1
          try clear hfz9_2
          try clear p2
          obtain ⟨kq, x57_36, rfl, HA, HJ36, HO_302002, HO_309002, HO_320002, BK301, BK308, BK319, HB⟩ := hcut
          have hl309002_36 := (Kd.R_reads' HO_309002.out).1
          rw [hl309002_36] at HO_309002
          (try simp only [hl309002_36])
          (try simp only [hl309002_36] at BK301)
          (try simp only [hl309002_36] at BK308)
          (try simp only [hl309002_36] at BK319)
          (try simp only [hl309002_36] at HO_302002)
          (try simp only [hl309002_36] at HO_320002)
          cases kq with
          | zero => exact absurd HA.out (by simp [laws_FnExactReadTiling.j1])
          | succ kj36 =>
           have H := HA.out
           clear HA
           simp only [laws_FnExactReadTiling.j1] at H
           by_cases c63 : x57_36 = true
           · subst c63
             have H1 : (some false) = some r := by rw [if_pos rfl] at H; exact H
             clear H
             have H := H1
             clear H1
             obtain rfl := Option.some.inj H
             go_wp2
             go_ret
             exact ⟨by first | rfl | (simp [errW_none, errW_some] <;> rfl) | (simp [*, errW_none, errW_some] <;> rfl), by repeat (first | (with_reducible first | exact HB.out | apply below_alloc | apply pw_below_drewN | apply below_drew1 | refine below_set ?_ GE301.out | refine below_set ?_ GE308.out | refine below_set ?_ GE319.out) | exact HB.out)⟩
           · replace c63 := Bool.eq_false_iff.mpr c63
             subst c63
             have H1 : ((laws_heldTiling.f kj36 t302 t303 t311 1).bind fun t321 => (if t321 < 0 then (some false) else (if t321 = t310 then (some true) else (some false)))) = some r := by rw [if_neg (show ¬ (false = true) by decide)] at H; exact H
             clear H
             have H := H1
             clear H1
             replace H := Option.bind_eq_some_iff.mp H
             obtain ⟨t321, A640, H⟩ := H
             replace H : (if t321 < 0 then (some false) else (if t321 = t310 then (some true) else (some false))) = some r := H
             have A64 := mkA A640
             clear A640
             by_cases c65 : t321 < 0
             · rw [if_pos c65] at H
               have c65b0 : decide (t321 < 0) = true := decide_eq_true c65
               clear c65
               obtain rfl := Option.some.inj H
               have hnb66 := NB308_301.out
               have hnc66 := NB301_308.out
               have hnb67 := NB308_319.out
               have hnc67 := NB319_308.out
               have hcz68_0 : wc.cell? ⟨gb308, 0, none⟩ = some (.int .i64 t302) := (blk_cell BK308.out 0).trans rfl
               have hcz68_1 : wc.cell? ⟨gb308, 1, none⟩ = some (.int .i64 t303) := (blk_cell BK308.out 1).trans rfl
               have hcz68_2 : wc.cell? ⟨gb308, 2, none⟩ = some (.slice Ao15 t311.length co15) := (blk_cell BK308.out 2).trans rfl
               have hfz68_0 := blk_frozen BK308.out 0
               have hfz68_1 := blk_frozen BK308.out 1
               have hfz68_2 := blk_frozen BK308.out 2
               go_wp2_with (first | ((with_reducible refine gate_callee (f := 13) rfl ?_); refine goesL_ (some 60) rfl rfl Tryd.func13 (by kernel_rfl) rfl #[.agg #[.int .i64 t302, .int .i64 t303, .slice Ao15 t311.length co15], .int .i64 1] rfl (by (try simp only [List.map_toArray, List.map_cons, List.map_nil]); first | done | rfl | (simp only [List.length_drop, List.length_take]; rfl)) ?_; (with_reducible refine (laws_heldTiling.calls kj36 t302 t303 _ _ t311 1 t321 _ ?side1 ?side2 A64.out).mono ?_); (case side1 => repeat (first | exact (Kd.R_reads' HO_309002.out).2.2 | (with_reducible refine Kd.C_alloc ?_ _) | (with_reducible refine Kd.C_drewN ?_ _) | (with_reducible refine Kd.C_drew ?_))); (case side2 => exact (Kd.R_reads' HO_309002.out).2.1); rintro e w69 ⟨rfl, hb⟩; refine ⟨_, rfl, ?_⟩; have n0_ := mkA (Kd.R_below (by (with_reducible repeat (first | apply Kd.R_alloc | apply Kd.R_drewN | apply Kd.R_drew)); exact HO_302002.out) hb); have n1_ := mkA (Kd.R_below (by (with_reducible repeat (first | apply Kd.R_alloc | apply Kd.R_drewN | apply Kd.R_drew)); exact HO_309002.out) hb); have n2_ := mkA (Kd.R_below (by (with_reducible repeat (first | apply Kd.R_alloc | apply Kd.R_drewN | apply Kd.R_drew)); exact HO_320002.out) hb); have n3_ := mkA (blk_below (g := gb301) (o := .cells #[.int .i64 t295, .int .i64 t296, .slice Ao10 t297.length co10] 27 (0, 0)) (bl_ BK301.out) hb); have n4_ := mkA (blk_below (g := gb308) (o := .cells #[.int .i64 t302, .int .i64 t303, .slice Ao15 t311.length co15] 27 (0, 0)) (bl_ BK308.out) hb); have n5_ := mkA (blk_below (g := gb319) (o := .cells #[.int .i64 t313, .int .i64 t314, .slice Ao48 t315.length co48] 27 (0, 0)) (bl_ BK319.out) hb); have n6_ := mkA (below_step (bs3_ HB.out GE301.out GE308.out GE319.out) hb); clear HO_302002; clear HO_309002; clear HO_320002; clear BK301; clear BK308; clear BK319; clear HB; have HO_302002 := n0_; have HO_309002 := n1_; have HO_320002 := n2_; have BK301 := n3_; have BK308 := n4_; have BK319 := n5_; have HB := n6_; clear n0_ n1_ n2_ n3_ n4_ n5_ n6_; (try clear hb); (try clear hb2); (try clear hk); (try clear hi)))
               go_ret
               exact ⟨by first | rfl | (simp [errW_none, errW_some] <;> rfl) | (simp [*, errW_none, errW_some] <;> rfl), by repeat (first | (with_reducible first | exact HB.out | apply below_alloc | apply pw_below_drewN | apply below_drew1 | refine below_set ?_ GE301.out | refine below_set ?_ GE308.out | refine below_set ?_ GE319.out) | exact HB.out)⟩
             · rw [if_neg c65] at H
               have c65b0 : decide (t321 < 0) = false := decide_eq_false c65
               clear c65
               by_cases c70 : t321 = t310
               rotate_left
               · rw [if_neg c70] at H
                 have c70b0 : (t321 == t310) = false := beq_eq_false_iff_ne.mpr c70
                 have c70b1 : (t321 != t310) = true := bne_iff_ne.mpr c70
                 obtain rfl := Option.some.inj H
                 have hnb75 := NB308_301.out
                 have hnc75 := NB301_308.out
                 have hnb76 := NB308_319.out
                 have hnc76 := NB319_308.out
                 have hcz77_0 : wc.cell? ⟨gb308, 0, none⟩ = some (.int .i64 t302) := (blk_cell BK308.out 0).trans rfl
                 have hcz77_1 : wc.cell? ⟨gb308, 1, none⟩ = some (.int .i64 t303) := (blk_cell BK308.out 1).trans rfl
                 have hcz77_2 : wc.cell? ⟨gb308, 2, none⟩ = some (.slice Ao15 t311.length co15) := (blk_cell BK308.out 2).trans rfl
                 have hfz77_0 := blk_frozen BK308.out 0
                 have hfz77_1 := blk_frozen BK308.out 1
                 have hfz77_2 := blk_frozen BK308.out 2
                 go_wp2_with (first | ((with_reducible refine gate_callee (f := 13) rfl ?_); refine goesL_ (some 60) rfl rfl Tryd.func13 (by kernel_rfl) rfl #[.agg #[.int .i64 t302, .int .i64 t303, .slice Ao15 t311.length co15], .int .i64 1] rfl (by (try simp only [List.map_toArray, List.map_cons, List.map_nil]); first | done | rfl | (simp only [List.length_drop, List.length_take]; rfl)) ?_; (with_reducible refine (laws_heldTiling.calls kj36 t302 t303 _ _ t311 1 t321 _ ?side1 ?side2 A64.out).mono ?_); (case side1 => repeat (first | exact (Kd.R_reads' HO_309002.out).2.2 | (with_reducible refine Kd.C_alloc ?_ _) | (with_reducible refine Kd.C_drewN ?_ _) | (with_reducible refine Kd.C_drew ?_))); (case side2 => exact (Kd.R_reads' HO_309002.out).2.1); rintro e w78 ⟨rfl, hb⟩; refine ⟨_, rfl, ?_⟩; have n0_ := mkA (Kd.R_below (by (with_reducible repeat (first | apply Kd.R_alloc | apply Kd.R_drewN | apply Kd.R_drew)); exact HO_302002.out) hb); have n1_ := mkA (Kd.R_below (by (with_reducible repeat (first | apply Kd.R_alloc | apply Kd.R_drewN | apply Kd.R_drew)); exact HO_309002.out) hb); have n2_ := mkA (Kd.R_below (by (with_reducible repeat (first | apply Kd.R_alloc | apply Kd.R_drewN | apply Kd.R_drew)); exact HO_320002.out) hb); have n3_ := mkA (blk_below (g := gb301) (o := .cells #[.int .i64 t295, .int .i64 t296, .slice Ao10 t297.length co10] 27 (0, 0)) (bl_ BK301.out) hb); have n4_ := mkA (blk_below (g := gb308) (o := .cells #[.int .i64 t302, .int .i64 t303, .slice Ao15 t311.length co15] 27 (0, 0)) (bl_ BK308.out) hb); have n5_ := mkA (blk_below (g := gb319) (o := .cells #[.int .i64 t313, .int .i64 t314, .slice Ao48 t315.length co48] 27 (0, 0)) (bl_ BK319.out) hb); have n6_ := mkA (below_step (bs3_ HB.out GE301.out GE308.out GE319.out) hb); clear HO_302002; clear HO_309002; clear HO_320002; clear BK301; clear BK308; clear BK319; clear HB; have HO_302002 := n0_; have HO_309002 := n1_; have HO_320002 := n2_; have BK301 := n3_; have BK308 := n4_; have BK319 := n5_; have HB := n6_; clear n0_ n1_ n2_ n3_ n4_ n5_ n6_; (try clear hb); (try clear hb2); (try clear hk); (try clear hi)))
                 go_ret
                 exact ⟨by first | rfl | (simp [errW_none, errW_some] <;> rfl) | (simp [*, errW_none, errW_some] <;> rfl), by repeat (first | (with_reducible first | exact HB.out | apply below_alloc | apply pw_below_drewN | apply below_drew1 | refine below_set ?_ GE301.out | refine below_set ?_ GE308.out | refine below_set ?_ GE319.out) | exact HB.out)⟩
               rw [if_pos c70] at H
               have c70b0 : (t321 == t310) = true := beq_iff_eq.mpr c70
               have c70b1 : (t321 != t310) = false := bne_eq_false_iff_eq.mpr c70
               clear c70
               obtain rfl := Option.some.inj H
               have hnb71 := NB308_301.out
               have hnc71 := NB301_308.out
               have hnb72 := NB308_319.out
               have hnc72 := NB319_308.out
               have hcz73_0 : wc.cell? ⟨gb308, 0, none⟩ = some (.int .i64 t302) := (blk_cell BK308.out 0).trans rfl
               have hcz73_1 : wc.cell? ⟨gb308, 1, none⟩ = some (.int .i64 t303) := (blk_cell BK308.out 1).trans rfl
               have hcz73_2 : wc.cell? ⟨gb308, 2, none⟩ = some (.slice Ao15 t311.length co15) := (blk_cell BK308.out 2).trans rfl
               have hfz73_0 := blk_frozen BK308.out 0
               have hfz73_1 := blk_frozen BK308.out 1
               have hfz73_2 := blk_frozen BK308.out 2
               go_wp2_with (first | ((with_reducible refine gate_callee (f := 13) rfl ?_); refine goesL_ (some 60) rfl rfl Tryd.func13 (by kernel_rfl) rfl #[.agg #[.int .i64 t302, .int .i64 t303, .slice Ao15 t311.length co15], .int .i64 1] rfl (by (try simp only [List.map_toArray, List.map_cons, List.map_nil]); first | done | rfl | (simp only [List.length_drop, List.length_take]; rfl)) ?_; (with_reducible refine (laws_heldTiling.calls kj36 t302 t303 _ _ t311 1 t321 _ ?side1 ?side2 A64.out).mono ?_); (case side1 => repeat (first | exact (Kd.R_reads' HO_309002.out).2.2 | (with_reducible refine Kd.C_alloc ?_ _) | (with_reducible refine Kd.C_drewN ?_ _) | (with_reducible refine Kd.C_drew ?_))); (case side2 => exact (Kd.R_reads' HO_309002.out).2.1); rintro e w74 ⟨rfl, hb⟩; refine ⟨_, rfl, ?_⟩; have n0_ := mkA (Kd.R_below (by (with_reducible repeat (first | apply Kd.R_alloc | apply Kd.R_drewN | apply Kd.R_drew)); exact HO_302002.out) hb); have n1_ := mkA (Kd.R_below (by (with_reducible repeat (first | apply Kd.R_alloc | apply Kd.R_drewN | apply Kd.R_drew)); exact HO_309002.out) hb); have n2_ := mkA (Kd.R_below (by (with_reducible repeat (first | apply Kd.R_alloc | apply Kd.R_drewN | apply Kd.R_drew)); exact HO_320002.out) hb); have n3_ := mkA (blk_below (g := gb301) (o := .cells #[.int .i64 t295, .int .i64 t296, .slice Ao10 t297.length co10] 27 (0, 0)) (bl_ BK301.out) hb); have n4_ := mkA (blk_below (g := gb308) (o := .cells #[.int .i64 t302, .int .i64 t303, .slice Ao15 t311.length co15] 27 (0, 0)) (bl_ BK308.out) hb); have n5_ := mkA (blk_below (g := gb319) (o := .cells #[.int .i64 t313, .int .i64 t314, .slice Ao48 t315.length co48] 27 (0, 0)) (bl_ BK319.out) hb); have n6_ := mkA (below_step (bs3_ HB.out GE301.out GE308.out GE319.out) hb); clear HO_302002; clear HO_309002; clear HO_320002; clear BK301; clear BK308; clear BK319; clear HB; have HO_302002 := n0_; have HO_309002 := n1_; have HO_320002 := n2_; have BK301 := n3_; have BK308 := n4_; have BK319 := n5_; have HB := n6_; clear n0_ n1_ n2_ n3_ n4_ n5_ n6_; (try clear hb); (try clear hb2); (try clear hk); (try clear hi)))
               go_ret
               exact ⟨by first | rfl | (simp [errW_none, errW_some] <;> rfl) | (simp [*, errW_none, errW_some] <;> rfl), by repeat (first | (with_reducible first | exact HB.out | apply below_alloc | apply pw_below_drewN | apply below_drew1 | refine below_set ?_ GE301.out | refine below_set ?_ GE308.out | refine below_set ?_ GE319.out) | exact HB.out)⟩
/-- THE ONE PURE STATEMENT of laws_FnExactReadTiling. -/
def laws_FnExactReadTiling.Pure : Prop := ∀ (a0 : ByteArray), a0.size ≤ maxLen → ∃ k, laws_FnExactReadTiling.f k a0 ([()] : List Unit) = some true

end Go.Proofs.YtopopjkoanpjiaaDoor.GFnExactReadTiling

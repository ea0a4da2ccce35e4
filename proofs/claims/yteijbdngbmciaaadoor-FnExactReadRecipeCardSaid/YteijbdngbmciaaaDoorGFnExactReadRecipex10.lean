-- Written by the session's own program (gen.py) out of the translation's print. Lean checks it.
import Derived.Test.YteijbdngbmciaaaDoorGFnExactReadRecipex0
import Derived.Test.YteijbdngbmciaaaDoorGFnExactReadRecipex1
import Derived.Test.YteijbdngbmciaaaDoorGFnExactReadRecipex5
import Derived.Test.YteijbdngbmciaaaDoorGFnExactReadRecipex8
import Derived.Test.YteijbdngbmciaaaDoorGFnExactReadRecipex9
namespace Go.Proofs.YteijbdngbmciaaaDoor.GFnExactReadRecipe
open Go.RowKit Go.Proofs.YteijbdngbmciaaaDoorW.PrintWords Go.Proofs.YteijbdngbmciaaaDoorW.PrintLast Go.Proofs.YteijbdngbmciaaaDoorW.PrintMore
attribute [local go_sem] max2_int min2_int max_two min_two max_three min_three max_four min_four   -- for this text's walks alone
set_option linter.unusedVariables false
set_option linter.unusedSimpArgs false

/-! ### laws_FnExactReadRecipe: function 4 -/
mutual
def laws_FnExactReadRecipe.j0 : Nat → ByteArray → Bool → Bool → List (Unit) → ByteArray → List (S44) → ByteArray → List (S44) → Option (Bool)
  | 0, _, _, _, _, _, _, _, _ => none
  | k + 1, x0, x4, x32, x961, x307000, x307001, x313000, x313001 => if x32 = true then (some false) else ((laws_markRecipe.f k x313000 x313001 1).bind fun bt314 => ((laws_heldRecipe.f k x313000 bt314.2 1).bind fun t316 => (if t316 < 0 then (some false) else (if t316 = bt314.1 then ((impl_ReadRecipe.f k x0 x961).bind fun bt317 => ((laws_eqRecipe.f k bt317.1 bt317.2.1 x307000 x307001).bind fun t323 => (if t323 = true then (laws_FnExactReadRecipe.j1 k bt314.1 (bt317.2.2 != x4) x313000 bt314.2) else (laws_FnExactReadRecipe.j1 k bt314.1 true x313000 bt314.2)))) else (some false)))))
def laws_FnExactReadRecipe.j1 : Nat → Int → Bool → ByteArray → List (S44) → Option (Bool)
  | 0, _, _, _, _ => none
  | k + 1, x7, x57, x313000, x313001 => if x57 = true then (some false) else ((laws_heldRecipe.f k x313000 x313001 1).bind fun t324 => (if t324 < 0 then (some false) else (if t324 = x7 then (some true) else (some false))))
end
def laws_FnExactReadRecipe.f (k : Nat) (a0 : ByteArray) (l1 : List (Unit)) : Option (Bool) := if (a0.size : Int) > 1048576 then (some true) else ((spec_ReadRecipe.f k a0).bind fun bt301 => ((impl_ReadRecipe.f k a0 l1).bind fun bt307 => ((laws_eqRecipe.f k bt307.1 bt307.2.1 bt301.1 bt301.2.1).bind fun t313 => (if t313 = true then (laws_FnExactReadRecipe.j0 k a0 bt301.2.2 (bt307.2.2 != bt301.2.2) l1 bt301.1 bt301.2.1 bt307.1 bt307.2.1) else (laws_FnExactReadRecipe.j0 k a0 bt301.2.2 true l1 bt301.1 bt301.2.1 bt307.1 bt307.2.1)))))
theorem laws_FnExactReadRecipe.mono_l : ∀ k, (∀ y0 y1 y2 y3 y4 y5 y6 y7, LeO (laws_FnExactReadRecipe.j0 k y0 y1 y2 y3 y4 y5 y6 y7) (laws_FnExactReadRecipe.j0 (k + 1) y0 y1 y2 y3 y4 y5 y6 y7)) ∧ (∀ y0 y1 y2 y3, LeO (laws_FnExactReadRecipe.j1 k y0 y1 y2 y3) (laws_FnExactReadRecipe.j1 (k + 1) y0 y1 y2 y3))
  | 0 => ⟨fun _ _ _ _ _ _ _ _ r h => by simp [laws_FnExactReadRecipe.j0] at h, fun _ _ _ _ r h => by simp [laws_FnExactReadRecipe.j1] at h⟩
  | k + 1 => by
    obtain ⟨ih0, ih1⟩ := laws_FnExactReadRecipe.mono_l k
    refine ⟨?_, ?_⟩
    · intro y0 y1 y2 y3 y4 y5 y6 y7
      unfold laws_FnExactReadRecipe.j0
      repeat' first
      | (with_reducible exact ih0 _ _ _ _ _ _ _ _)
      | (with_reducible exact ih1 _ _ _ _)
      | (with_reducible exact impl_ReadRecipe.mono _ _ _)
      | (with_reducible exact laws_eqRecipe.mono _ _ _ _ _)
      | (with_reducible exact laws_heldRecipe.mono _ _ _ _)
      | (with_reducible exact laws_markRecipe.mono _ _ _ _)
      | (with_reducible exact spec_ReadRecipe.mono _ _)
      | (with_reducible exact LeO.refl _)
      | (with_reducible exact LeO.none _)
      | (with_reducible refine LeO.ite ?_ ?_)
      | (with_reducible refine LeO.bind ?_ (fun _ => ?_))
      | exact ih0 _ _ _ _ _ _ _ _
      | exact ih1 _ _ _ _
      | exact impl_ReadRecipe.mono _ _ _
      | exact laws_eqRecipe.mono _ _ _ _ _
      | exact laws_heldRecipe.mono _ _ _ _
      | exact laws_markRecipe.mono _ _ _ _
      | exact spec_ReadRecipe.mono _ _
      | exact LeO.none _
      | refine LeO.ite ?_ ?_
      | refine LeO.bind ?_ (fun _ => ?_)
    · intro y0 y1 y2 y3
      unfold laws_FnExactReadRecipe.j1
      repeat' first
      | (with_reducible exact ih0 _ _ _ _ _ _ _ _)
      | (with_reducible exact ih1 _ _ _ _)
      | (with_reducible exact impl_ReadRecipe.mono _ _ _)
      | (with_reducible exact laws_eqRecipe.mono _ _ _ _ _)
      | (with_reducible exact laws_heldRecipe.mono _ _ _ _)
      | (with_reducible exact laws_markRecipe.mono _ _ _ _)
      | (with_reducible exact spec_ReadRecipe.mono _ _)
      | (with_reducible exact LeO.refl _)
      | (with_reducible exact LeO.none _)
      | (with_reducible refine LeO.ite ?_ ?_)
      | (with_reducible refine LeO.bind ?_ (fun _ => ?_))
      | exact ih0 _ _ _ _ _ _ _ _
      | exact ih1 _ _ _ _
      | exact impl_ReadRecipe.mono _ _ _
      | exact laws_eqRecipe.mono _ _ _ _ _
      | exact laws_heldRecipe.mono _ _ _ _
      | exact laws_markRecipe.mono _ _ _ _
      | exact spec_ReadRecipe.mono _ _
      | exact LeO.none _
      | refine LeO.ite ?_ ?_
      | refine LeO.bind ?_ (fun _ => ?_)
theorem laws_FnExactReadRecipe.mono : ∀ a0 a1 k, LeO (laws_FnExactReadRecipe.f k a0 a1) (laws_FnExactReadRecipe.f (k + 1) a0 a1) := by
  intro a0 a1 k
  obtain ⟨ih0, ih1⟩ := laws_FnExactReadRecipe.mono_l k
  unfold laws_FnExactReadRecipe.f
  repeat' first
      | (with_reducible exact ih0 _ _ _ _ _ _ _ _)
      | (with_reducible exact ih1 _ _ _ _)
      | (with_reducible exact impl_ReadRecipe.mono _ _ _)
      | (with_reducible exact laws_eqRecipe.mono _ _ _ _ _)
      | (with_reducible exact laws_heldRecipe.mono _ _ _ _)
      | (with_reducible exact laws_markRecipe.mono _ _ _ _)
      | (with_reducible exact spec_ReadRecipe.mono _ _)
      | (with_reducible exact LeO.refl _)
      | (with_reducible exact LeO.none _)
      | (with_reducible refine LeO.ite ?_ ?_)
      | (with_reducible refine LeO.bind ?_ (fun _ => ?_))
      | exact ih0 _ _ _ _ _ _ _ _
      | exact ih1 _ _ _ _
      | exact impl_ReadRecipe.mono _ _ _
      | exact laws_eqRecipe.mono _ _ _ _ _
      | exact laws_heldRecipe.mono _ _ _ _
      | exact laws_markRecipe.mono _ _ _ _
      | exact spec_ReadRecipe.mono _ _
      | exact LeO.none _
      | refine LeO.ite ?_ ?_
      | refine LeO.bind ?_ (fun _ => ?_)
open List renaming setIfInBounds_toArray → sA, set_cons_zero → sB, set_cons_succ → sC
open Go.Proofs.YteijbdngbmciaaaDoorW.PrintWords.Aside0 renaming mk → mkA
open Go.Proofs.YteijbdngbmciaaaDoorX (dt_ bc_ p0_ p1_ bl_ cb_ bs0_ bs1_ bs2_ bs3_ bs4_ bs5_ bs6_ bs7_ bs8_ bs9_ bs10_ bs11_ bs12_)
set_option maxHeartbeats 8000000 in
set_option maxRecDepth 100000 in
theorem laws_FnExactReadRecipe.calls (k : Nat) (a0 : ByteArray) (l1 : List (Unit)) (r : Bool) (w : World) (hr1 : Kd.C Go.Proofs.YteijbdngbmciaaaDoorX.kLib w (some ⟨0, 0, none⟩) l1.length l1) (h : laws_FnExactReadRecipe.f k a0 l1 = some r) :
 Calls Tryd.prog 4 #[.string a0] w fun e w' => e = .returned (.bool r) ∧ Below w.heap.size w w' := by
 have hu29 := Tryd.underlying29
 have HR1 := mkA hr1
 clear hr1
 have HB := mkA (Below.refl w.heap.size w)
 have H : (if (a0.size : Int) > 1048576 then (some true) else ((spec_ReadRecipe.f k a0).bind fun bt301 => ((impl_ReadRecipe.f k a0 l1).bind fun bt307 => ((laws_eqRecipe.f k bt307.1 bt307.2.1 bt301.1 bt301.2.1).bind fun t313 => (if t313 = true then (laws_FnExactReadRecipe.j0 k a0 bt301.2.2 (bt307.2.2 != bt301.2.2) l1 bt301.1 bt301.2.1 bt307.1 bt307.2.1) else (laws_FnExactReadRecipe.j0 k a0 bt301.2.2 true l1 bt301.1 bt301.2.1 bt307.1 bt307.2.1)))))) = some r := h
 clear h
 by_cases c3 : (a0.size : Int) > 1048576
 · rw [if_pos c3] at H
   have c3b0 : decide (1048576 < (a0.size : Int)) = true := decide_eq_true c3
   have c3b1 : decide (1048576 < a0.size) = true := decide_eq_true (by omega)
   clear c3
   obtain rfl := Option.some.inj H
   go_enter Tryd.func4, Tryd.ntmps4
   go_wp2
   go_ret
   exact ⟨by first | rfl | (simp [errW_none, errW_some] <;> rfl) | (simp [*, errW_none, errW_some] <;> rfl), by repeat (first | (with_reducible first | exact HB.out | apply below_alloc | apply pw_below_drewN | apply below_drew1) | exact HB.out)⟩
 · rw [if_neg c3] at H
   have c3b0 : decide (1048576 < (a0.size : Int)) = false := decide_eq_false c3
   have c3b1 : decide (1048576 < a0.size) = false := decide_eq_false (by omega)
   clear c3
   replace H := Option.bind_eq_some_iff.mp H
   obtain ⟨⟨t301, t302, t305⟩, A40, H⟩ := H
   replace H : ((impl_ReadRecipe.f k a0 l1).bind fun bt307 => ((laws_eqRecipe.f k bt307.1 bt307.2.1 t301 t302).bind fun t313 => (if t313 = true then (laws_FnExactReadRecipe.j0 k a0 t305 (bt307.2.2 != t305) l1 t301 t302 bt307.1 bt307.2.1) else (laws_FnExactReadRecipe.j0 k a0 t305 true l1 t301 t302 bt307.1 bt307.2.1)))) = some r := H
   have A4 := mkA A40
   clear A40
   replace H := Option.bind_eq_some_iff.mp H
   obtain ⟨⟨t307, t308, t311⟩, A50, H⟩ := H
   replace H : ((laws_eqRecipe.f k t307 t308 t301 t302).bind fun t313 => (if t313 = true then (laws_FnExactReadRecipe.j0 k a0 t305 (t311 != t305) l1 t301 t302 t307 t308) else (laws_FnExactReadRecipe.j0 k a0 t305 true l1 t301 t302 t307 t308))) = some r := H
   have A5 := mkA A50
   clear A50
   have HC6 := mkA H
   clear H
   go_enter Tryd.func4, Tryd.ntmps4
   go_upto_region 5 with (first | ((with_reducible refine gate_callee (f := 10) rfl ?_); refine goesL_ (some 16) rfl rfl Tryd.func10 (by kernel_rfl) rfl #[.string a0] rfl (by (try simp only [List.map_toArray, List.map_cons, List.map_nil]); first | done | rfl | (simp only [List.length_drop, List.length_take]; rfl)) ?_; (with_reducible refine (spec_ReadRecipe.calls k a0 t301 t302 t305 _ A4.out).mono ?_); rintro e w7 ⟨v303, rfl, ho0, hb⟩; refine ⟨_, rfl, ?_⟩; have n0_ := mkA (Kd.R_lower ho0 (below_size (bs0_ HB.out))); have n1_ := mkA (below_step (bs0_ HB.out) hb); clear HB; have HO304 := n0_; have HB := n1_; clear n0_ n1_; (try clear hb); (try clear hb2); (try clear hk); (try clear hi); (try clear ho0)) | ((with_reducible refine gate_dst (N := 3) rfl ?_); refine box_event ?hg (N := 3) ?hd (cs := #[.string (⟨#[]⟩ : ByteArray), .slice none 0 0]) (t := 29) ?hr ?_; (case hd => rfl); (case hg => rfl); (case hr => first | (go_simp; done) | (go_simp; rfl)); intro gb306 hg w8 hbox hb; have n0_ := mkA (Kd.R_below (by (with_reducible repeat (first | apply Kd.R_alloc | apply Kd.R_drewN | apply Kd.R_drew)); exact HO304.out) hb); have n1_ := mkA (below_step (bs0_ HB.out) hb); have n2_ := mkA (hbox); have n3_ := mkA ((by rw [hg]; exact (below_size (bs0_ HB.out)) : w.heap.size ≤ gb306)); have n4_ := mkA ((by rw [hg]; exact (below_size (bs0_ HB.out)) : w.heap.size ≤ gb306)); clear HO304; clear HB; have HO304 := n0_; have HB := n1_; have BK306 := n2_; have GW306 := n3_; have GE306 := n4_; clear n0_ n1_ n2_ n3_ n4_; clear hb hbox hg; have hcz9_0 : w8.cell? ⟨gb306, 0, none⟩ = some (.string (⟨#[]⟩ : ByteArray)) := (blk_cell BK306.out 0).trans rfl; have hcz9_1 : w8.cell? ⟨gb306, 1, none⟩ = some (.slice none 0 0) := (blk_cell BK306.out 1).trans rfl; have hfz9_0 := blk_frozen BK306.out 0; have hfz9_1 := blk_frozen BK306.out 1; obtain ⟨Ao10, co10, eo10⟩ := Kd.R_slice HO304.out; subst eo10) | ((with_reducible refine gate_callee (f := 11) rfl ?_); refine goesL_ (some 21) rfl rfl Tryd.func11 (by kernel_rfl) rfl #[.string a0] rfl (by (try simp only [List.map_toArray, List.map_cons, List.map_nil]); first | done | rfl | (simp only [List.length_drop, List.length_take]; rfl)) ?_; (with_reducible refine (impl_ReadRecipe.calls k a0 l1 t307 t308 t311 _ ?side1 A5.out).mono ?_); (case side1 => exact Kd.C_below HR1.out (bs1_ HB.out GE306.out)); rintro e w11 ⟨v309, rfl, ho0, hb⟩; refine ⟨_, rfl, ?_⟩; have n0_ := mkA (Kd.R_elder' (by (with_reducible repeat (first | apply Kd.R_alloc | apply Kd.R_drewN | apply Kd.R_drew)); exact (Kd.R_mono (Kd.R_far (p := ⟨gb306, 1, none⟩) (Kd.R_far (p := ⟨gb306, 0, none⟩) (Kd.R_types HO304.out BK306.out (by decide)) (fun _ hk => hk.2) (.string t301)) (fun _ hk => hk.2) (.slice Ao10 t302.length co10)) (fun _ h_ => h_.1))) (Kd.R_base ho0) hb); have n1_ := mkA (Kd.R_lower (Kd.R_new' ho0 (Kd.R_lt (by (with_reducible repeat (first | apply Kd.R_alloc | apply Kd.R_drewN | apply Kd.R_drew)); exact (Kd.R_mono (Kd.R_far (p := ⟨gb306, 1, none⟩) (Kd.R_far (p := ⟨gb306, 0, none⟩) (Kd.R_types HO304.out BK306.out (by decide)) (fun _ hk => hk.2) (.string t301)) (fun _ hk => hk.2) (.slice Ao10 t302.length co10)) (fun _ h_ => h_.1))))) (below_size (bs1_ HB.out GE306.out))); have n2_ := mkA (blk_below (g := gb306) (o := .cells #[.string t301, .slice Ao10 t302.length co10] 29 (0, 0)) (by (with_reducible repeat (first | refine blk_drewN ?_ _ | refine blk_drew ?_ | refine blk_alloc ?_ _)); refine blk_put (cs := #[.string t301, .slice none 0 0]) ?_ 1 _ rfl; (with_reducible repeat (first | refine blk_drewN ?_ _ | refine blk_drew ?_ | refine blk_alloc ?_ _)); refine blk_put (cs := #[.string (⟨#[]⟩ : ByteArray), .slice none 0 0]) ?_ 0 _ rfl; (with_reducible repeat (first | refine blk_drewN ?_ _ | refine blk_drew ?_ | refine blk_alloc ?_ _)); exact BK306.out) hb); have n3_ := mkA (below_step (bs1_ HB.out GE306.out) hb); clear HO304; clear BK306; clear HB; have HO304 := n0_; have HO310 := n1_; have BK306 := n2_; have HB := n3_; clear n0_ n1_ n2_ n3_; (try clear hb); (try clear hb2); (try clear hk); (try clear hi); (try clear ho0)) | ((with_reducible refine gate_dst (N := 5) rfl ?_); refine box_event ?hg (N := 5) ?hd (cs := #[.string (⟨#[]⟩ : ByteArray), .slice none 0 0]) (t := 29) ?hr ?_; (case hd => rfl); (case hg => rfl); (case hr => first | (go_simp; done) | (go_simp; rfl)); intro gb312 hg w12 hbox hb; have n0_ := mkA (Kd.R_below (by (with_reducible repeat (first | apply Kd.R_alloc | apply Kd.R_drewN | apply Kd.R_drew)); exact HO304.out) hb); have n1_ := mkA (Kd.R_below (by (with_reducible repeat (first | apply Kd.R_alloc | apply Kd.R_drewN | apply Kd.R_drew)); exact HO310.out) hb); have n2_ := mkA (blk_below (g := gb306) (o := .cells #[.string t301, .slice Ao10 t302.length co10] 29 (0, 0)) (bl_ BK306.out) hb); have n3_ := mkA (below_step (bs1_ HB.out GE306.out) hb); have n4_ := mkA (hbox); have n5_ := mkA ((by rw [hg]; exact (below_size (bs1_ HB.out GE306.out)) : w.heap.size ≤ gb312)); have n6_ := mkA ((by rw [hg]; exact (below_size (bs1_ HB.out GE306.out)) : w.heap.size ≤ gb312)); have n7_ := mkA ((by rw [hg]; exact Nat.ne_of_lt (blk_lt (g := gb306) (o := .cells #[.string t301, .slice Ao10 t302.length co10] 29 (0, 0)) (bl_ BK306.out)) : gb306 ≠ gb312)); have n8_ := mkA ((by rw [hg]; exact Nat.ne_of_gt (blk_lt (g := gb306) (o := .cells #[.string t301, .slice Ao10 t302.length co10] 29 (0, 0)) (bl_ BK306.out)) : gb312 ≠ gb306)); clear HO304; clear HO310; clear BK306; clear HB; have HO304 := n0_; have HO310 := n1_; have BK306 := n2_; have HB := n3_; have BK312 := n4_; have GW312 := n5_; have GE312 := n6_; have NB306_312 := n7_; have NB312_306 := n8_; clear n0_ n1_ n2_ n3_ n4_ n5_ n6_ n7_ n8_; clear hb hbox hg; have hnb13 := NB312_306.out; have hnc13 := NB306_312.out; have hcz14_0 : w12.cell? ⟨gb312, 0, none⟩ = some (.string (⟨#[]⟩ : ByteArray)) := (blk_cell BK312.out 0).trans rfl; have hcz14_1 : w12.cell? ⟨gb312, 1, none⟩ = some (.slice none 0 0) := (blk_cell BK312.out 1).trans rfl; have hfz14_0 := blk_frozen BK312.out 0; have hfz14_1 := blk_frozen BK312.out 1; obtain ⟨Ao15, co15, eo15⟩ := Kd.R_slice HO310.out; subst eo15))
   (try simp only [Act.put, sA, sB, sC])
   go_cut [32] (fun v32 wc => ∃ (kq : Nat) (x32_5 : Bool), v32 = .bool x32_5 ∧ Aside0 (laws_FnExactReadRecipe.j0 kq a0 t305 x32_5 l1 t301 t302 t307 t308 = some r) ∧ Aside0 (kq ≤ k) ∧ Aside0 (Kd.R k44 44 wc w.heap.size (fun k_ => some k_ ≠ ((.slice Ao15 t308.length co15) : Value).ownBlock) (.slice Ao10 t302.length co10) t302) ∧ Aside0 (Kd.R k44 44 wc w.heap.size (fun k_ => some k_ ≠ ((.slice Ao10 t302.length co10) : Value).ownBlock) (.slice Ao15 t308.length co15) t308) ∧ Aside0 (wc.heap[gb306]? = some (.cells #[.string t301, (.slice Ao10 t302.length co10)] 29 (0, 0))) ∧ Aside0 (wc.heap[gb312]? = some (.cells #[.string t307, (.slice Ao15 t308.length co15)] 29 (0, 0))) ∧ Aside0 (Below w.heap.size w wc))
   case first =>
    have H := HC6.out
    clear HC6
    replace H := Option.bind_eq_some_iff.mp H
    obtain ⟨t313, A160, H⟩ := H
    replace H : (if t313 = true then (laws_FnExactReadRecipe.j0 k a0 t305 (t311 != t305) l1 t301 t302 t307 t308) else (laws_FnExactReadRecipe.j0 k a0 t305 true l1 t301 t302 t307 t308)) = some r := H
    have A16 := mkA A160
    clear A160
    by_cases c17 : t313 = true
    · subst c17
      have H1 : (laws_FnExactReadRecipe.j0 k a0 t305 (t311 != t305) l1 t301 t302 t307 t308) = some r := by rw [if_pos rfl] at H; exact H
      clear H
      have H := H1
      clear H1
      have H' := mkA H
      clear H
      have hnb18 := NB312_306.out
      have hnc18 := NB306_312.out
      have hcz19_0 : w12.cell? ⟨gb312, 0, none⟩ = some (.string (⟨#[]⟩ : ByteArray)) := (blk_cell BK312.out 0).trans rfl
      have hcz19_1 : w12.cell? ⟨gb312, 1, none⟩ = some (.slice none 0 0) := (blk_cell BK312.out 1).trans rfl
      have hfz19_0 := blk_frozen BK312.out 0
      have hfz19_1 := blk_frozen BK312.out 1
      have hcz20_0 : w12.cell? ⟨gb306, 0, none⟩ = some (.string t301) := (blk_cell BK306.out 0).trans rfl
      have hcz20_1 : w12.cell? ⟨gb306, 1, none⟩ = some (.slice Ao10 t302.length co10) := (blk_cell BK306.out 1).trans rfl
      have hfz20_0 := blk_frozen BK306.out 0
      have hfz20_1 := blk_frozen BK306.out 1
      go_wp2_with (first | ((with_reducible refine gate_callee (f := 9) rfl ?_); refine goesL_ (some 26) rfl rfl Tryd.func9 (by kernel_rfl) rfl #[.agg #[.string t307, .slice Ao15 t308.length co15], .agg #[.string t301, .slice Ao10 t302.length co10]] rfl (by (try simp only [List.map_toArray, List.map_cons, List.map_nil]); first | done | rfl | (simp only [List.length_drop, List.length_take]; rfl)) ?_; (with_reducible refine (laws_eqRecipe.calls k t307 _ _ t308 t301 _ _ t302 true _ ?side1 ?side2 ?side3 ?side4 A16.out).mono ?_); (case side1 => refine (Kd.R_reads' (e := 44) (base := w.heap.size) (ok := fun k_ => (True ∧ some k_ ≠ (.slice Ao10 t302.length co10 : Value).ownBlock)) (n := t308.length) (c := co15) ?_).2.2; exact (by (with_reducible repeat (first | apply Kd.R_alloc | apply Kd.R_drewN | apply Kd.R_drew)); exact (Kd.R_mono (Kd.R_far (p := ⟨gb312, 1, none⟩) (Kd.R_far (p := ⟨gb312, 0, none⟩) (Kd.R_types HO310.out BK312.out (by decide)) (fun _ hk => hk.2) (.string t307)) (fun _ hk => hk.2) (.slice Ao15 t308.length co15)) (fun _ h_ => h_.1)))); (case side2 => exact (Kd.R_reads' HO310.out).2.1); (case side3 => refine (Kd.R_reads' (e := 44) (base := w.heap.size) (ok := fun k_ => (True ∧ some k_ ≠ (.slice Ao15 t308.length co15 : Value).ownBlock)) (n := t302.length) (c := co10) ?_).2.2; exact (by (with_reducible repeat (first | apply Kd.R_alloc | apply Kd.R_drewN | apply Kd.R_drew)); exact (Kd.R_mono (Kd.R_far (p := ⟨gb312, 1, none⟩) (Kd.R_far (p := ⟨gb312, 0, none⟩) (Kd.R_types HO304.out BK312.out (by decide)) (fun _ hk => hk.2) (.string t307)) (fun _ hk => hk.2) (.slice Ao15 t308.length co15)) (fun _ h_ => h_.1)))); (case side4 => exact (Kd.R_reads' HO304.out).2.1); rintro e w21 ⟨rfl, hb⟩; refine ⟨_, rfl, ?_⟩; have n0_ := mkA (Kd.R_below (by (with_reducible repeat (first | apply Kd.R_alloc | apply Kd.R_drewN | apply Kd.R_drew)); exact (Kd.R_mono (Kd.R_far (p := ⟨gb312, 1, none⟩) (Kd.R_far (p := ⟨gb312, 0, none⟩) (Kd.R_types HO304.out BK312.out (by decide)) (fun _ hk => hk.2) (.string t307)) (fun _ hk => hk.2) (.slice Ao15 t308.length co15)) (fun _ h_ => h_.1))) hb); have n1_ := mkA (Kd.R_below (by (with_reducible repeat (first | apply Kd.R_alloc | apply Kd.R_drewN | apply Kd.R_drew)); exact (Kd.R_mono (Kd.R_far (p := ⟨gb312, 1, none⟩) (Kd.R_far (p := ⟨gb312, 0, none⟩) (Kd.R_types HO310.out BK312.out (by decide)) (fun _ hk => hk.2) (.string t307)) (fun _ hk => hk.2) (.slice Ao15 t308.length co15)) (fun _ h_ => h_.1))) hb); have n2_ := mkA (blk_below (g := gb306) (o := .cells #[.string t301, .slice Ao10 t302.length co10] 29 (0, 0)) (by (with_reducible repeat (first | refine blk_drewN ?_ _ | refine blk_drew ?_ | refine blk_alloc ?_ _)); refine blk_far ?_ NB306_312.out _; (with_reducible repeat (first | refine blk_drewN ?_ _ | refine blk_drew ?_ | refine blk_alloc ?_ _)); refine blk_far ?_ NB306_312.out _; (with_reducible repeat (first | refine blk_drewN ?_ _ | refine blk_drew ?_ | refine blk_alloc ?_ _)); exact BK306.out) hb); have n3_ := mkA (blk_below (g := gb312) (o := .cells #[.string t307, .slice Ao15 t308.length co15] 29 (0, 0)) (by (with_reducible repeat (first | refine blk_drewN ?_ _ | refine blk_drew ?_ | refine blk_alloc ?_ _)); refine blk_put (cs := #[.string t307, .slice none 0 0]) ?_ 1 _ rfl; (with_reducible repeat (first | refine blk_drewN ?_ _ | refine blk_drew ?_ | refine blk_alloc ?_ _)); refine blk_put (cs := #[.string (⟨#[]⟩ : ByteArray), .slice none 0 0]) ?_ 0 _ rfl; (with_reducible repeat (first | refine blk_drewN ?_ _ | refine blk_drew ?_ | refine blk_alloc ?_ _)); exact BK312.out) hb); have n4_ := mkA (below_step (bs2_ HB.out GE306.out GE312.out) hb); clear HO304; clear HO310; clear BK306; clear BK312; clear HB; have HO304 := n0_; have HO310 := n1_; have BK306 := n2_; have BK312 := n3_; have HB := n4_; clear n0_ n1_ n2_ n3_ n4_; (try clear hb); (try clear hb2); (try clear hk); (try clear hi)))
      go_meet
      case rel => exact ⟨_, ((t311 != t305)), (by first | rfl | (simp; done) | (simp [*]; done) | (simp [i64_w, i32_w]; done)), H', ⟨by first | omega | exact Nat.le_refl _⟩, ⟨by (with_reducible repeat (first | apply Kd.R_alloc | apply Kd.R_drewN | apply Kd.R_drew)); exact Kd.R_mono HO304.out (fun _ hk => hk.2)⟩, ⟨by (with_reducible repeat (first | apply Kd.R_alloc | apply Kd.R_drewN | apply Kd.R_drew)); exact Kd.R_mono HO310.out (fun _ hk => hk.2)⟩, ⟨by (with_reducible repeat (first | refine blk_drewN ?_ _ | refine blk_drew ?_ | refine blk_alloc ?_ _)); exact BK306.out⟩, ⟨by (with_reducible repeat (first | refine blk_drewN ?_ _ | refine blk_drew ?_ | refine blk_alloc ?_ _)); exact BK312.out⟩, ⟨by repeat (first | (with_reducible first | exact HB.out | apply below_alloc | apply pw_below_drewN | apply below_drew1 | refine below_set ?_ GE306.out | refine below_set ?_ GE312.out) | exact HB.out)⟩⟩
    · replace c17 := Bool.eq_false_iff.mpr c17
      subst c17
      have H1 : (laws_FnExactReadRecipe.j0 k a0 t305 true l1 t301 t302 t307 t308) = some r := by rw [if_neg (show ¬ (false = true) by decide)] at H; exact H
      clear H
      have H := H1
      clear H1
      have H' := mkA H
      clear H
      have hnb22 := NB312_306.out
      have hnc22 := NB306_312.out
      have hcz23_0 : w12.cell? ⟨gb312, 0, none⟩ = some (.string (⟨#[]⟩ : ByteArray)) := (blk_cell BK312.out 0).trans rfl
      have hcz23_1 : w12.cell? ⟨gb312, 1, none⟩ = some (.slice none 0 0) := (blk_cell BK312.out 1).trans rfl
      have hfz23_0 := blk_frozen BK312.out 0
      have hfz23_1 := blk_frozen BK312.out 1
      have hcz24_0 : w12.cell? ⟨gb306, 0, none⟩ = some (.string t301) := (blk_cell BK306.out 0).trans rfl
      have hcz24_1 : w12.cell? ⟨gb306, 1, none⟩ = some (.slice Ao10 t302.length co10) := (blk_cell BK306.out 1).trans rfl
      have hfz24_0 := blk_frozen BK306.out 0
      have hfz24_1 := blk_frozen BK306.out 1
      go_wp2_with (first | ((with_reducible refine gate_callee (f := 9) rfl ?_); refine goesL_ (some 26) rfl rfl Tryd.func9 (by kernel_rfl) rfl #[.agg #[.string t307, .slice Ao15 t308.length co15], .agg #[.string t301, .slice Ao10 t302.length co10]] rfl (by (try simp only [List.map_toArray, List.map_cons, List.map_nil]); first | done | rfl | (simp only [List.length_drop, List.length_take]; rfl)) ?_; (with_reducible refine (laws_eqRecipe.calls k t307 _ _ t308 t301 _ _ t302 false _ ?side1 ?side2 ?side3 ?side4 A16.out).mono ?_); (case side1 => refine (Kd.R_reads' (e := 44) (base := w.heap.size) (ok := fun k_ => (True ∧ some k_ ≠ (.slice Ao10 t302.length co10 : Value).ownBlock)) (n := t308.length) (c := co15) ?_).2.2; exact (by (with_reducible repeat (first | apply Kd.R_alloc | apply Kd.R_drewN | apply Kd.R_drew)); exact (Kd.R_mono (Kd.R_far (p := ⟨gb312, 1, none⟩) (Kd.R_far (p := ⟨gb312, 0, none⟩) (Kd.R_types HO310.out BK312.out (by decide)) (fun _ hk => hk.2) (.string t307)) (fun _ hk => hk.2) (.slice Ao15 t308.length co15)) (fun _ h_ => h_.1)))); (case side2 => exact (Kd.R_reads' HO310.out).2.1); (case side3 => refine (Kd.R_reads' (e := 44) (base := w.heap.size) (ok := fun k_ => (True ∧ some k_ ≠ (.slice Ao15 t308.length co15 : Value).ownBlock)) (n := t302.length) (c := co10) ?_).2.2; exact (by (with_reducible repeat (first | apply Kd.R_alloc | apply Kd.R_drewN | apply Kd.R_drew)); exact (Kd.R_mono (Kd.R_far (p := ⟨gb312, 1, none⟩) (Kd.R_far (p := ⟨gb312, 0, none⟩) (Kd.R_types HO304.out BK312.out (by decide)) (fun _ hk => hk.2) (.string t307)) (fun _ hk => hk.2) (.slice Ao15 t308.length co15)) (fun _ h_ => h_.1)))); (case side4 => exact (Kd.R_reads' HO304.out).2.1); rintro e w25 ⟨rfl, hb⟩; refine ⟨_, rfl, ?_⟩; have n0_ := mkA (Kd.R_below (by (with_reducible repeat (first | apply Kd.R_alloc | apply Kd.R_drewN | apply Kd.R_drew)); exact (Kd.R_mono (Kd.R_far (p := ⟨gb312, 1, none⟩) (Kd.R_far (p := ⟨gb312, 0, none⟩) (Kd.R_types HO304.out BK312.out (by decide)) (fun _ hk => hk.2) (.string t307)) (fun _ hk => hk.2) (.slice Ao15 t308.length co15)) (fun _ h_ => h_.1))) hb); have n1_ := mkA (Kd.R_below (by (with_reducible repeat (first | apply Kd.R_alloc | apply Kd.R_drewN | apply Kd.R_drew)); exact (Kd.R_mono (Kd.R_far (p := ⟨gb312, 1, none⟩) (Kd.R_far (p := ⟨gb312, 0, none⟩) (Kd.R_types HO310.out BK312.out (by decide)) (fun _ hk => hk.2) (.string t307)) (fun _ hk => hk.2) (.slice Ao15 t308.length co15)) (fun _ h_ => h_.1))) hb); have n2_ := mkA (blk_below (g := gb306) (o := .cells #[.string t301, .slice Ao10 t302.length co10] 29 (0, 0)) (by (with_reducible repeat (first | refine blk_drewN ?_ _ | refine blk_drew ?_ | refine blk_alloc ?_ _)); refine blk_far ?_ NB306_312.out _; (with_reducible repeat (first | refine blk_drewN ?_ _ | refine blk_drew ?_ | refine blk_alloc ?_ _)); refine blk_far ?_ NB306_312.out _; (with_reducible repeat (first | refine blk_drewN ?_ _ | refine blk_drew ?_ | refine blk_alloc ?_ _)); exact BK306.out) hb); have n3_ := mkA (blk_below (g := gb312) (o := .cells #[.string t307, .slice Ao15 t308.length co15] 29 (0, 0)) (by (with_reducible repeat (first | refine blk_drewN ?_ _ | refine blk_drew ?_ | refine blk_alloc ?_ _)); refine blk_put (cs := #[.string t307, .slice none 0 0]) ?_ 1 _ rfl; (with_reducible repeat (first | refine blk_drewN ?_ _ | refine blk_drew ?_ | refine blk_alloc ?_ _)); refine blk_put (cs := #[.string (⟨#[]⟩ : ByteArray), .slice none 0 0]) ?_ 0 _ rfl; (with_reducible repeat (first | refine blk_drewN ?_ _ | refine blk_drew ?_ | refine blk_alloc ?_ _)); exact BK312.out) hb); have n4_ := mkA (below_step (bs2_ HB.out GE306.out GE312.out) hb); clear HO304; clear HO310; clear BK306; clear BK312; clear HB; have HO304 := n0_; have HO310 := n1_; have BK306 := n2_; have BK312 := n3_; have HB := n4_; clear n0_ n1_ n2_ n3_ n4_; (try clear hb); (try clear hb2); (try clear hk); (try clear hi)))
      go_meet
      case rel => exact ⟨_, (true), (by first | rfl | (simp; done) | (simp [*]; done) | (simp [i64_w, i32_w]; done)), H', ⟨by first | omega | exact Nat.le_refl _⟩, ⟨by (with_reducible repeat (first | apply Kd.R_alloc | apply Kd.R_drewN | apply Kd.R_drew)); exact Kd.R_mono HO304.out (fun _ hk => hk.2)⟩, ⟨by (with_reducible repeat (first | apply Kd.R_alloc | apply Kd.R_drewN | apply Kd.R_drew)); exact Kd.R_mono HO310.out (fun _ hk => hk.2)⟩, ⟨by (with_reducible repeat (first | refine blk_drewN ?_ _ | refine blk_drew ?_ | refine blk_alloc ?_ _)); exact BK306.out⟩, ⟨by (with_reducible repeat (first | refine blk_drewN ?_ _ | refine blk_drew ?_ | refine blk_alloc ?_ _)); exact BK312.out⟩, ⟨by repeat (first | (with_reducible first | exact HB.out | apply below_alloc | apply pw_below_drewN | apply below_drew1 | refine below_set ?_ GE306.out | refine below_set ?_ GE312.out) | exact HB.out)⟩⟩
   case rest =>
    clear HC6
    try clear c1
    try clear c2
    try clear p2
    try clear c3
    try clear c3b0
    try clear c3b1
    try clear c4
    try clear c9
    try clear c10
    try clear c11
    try clear c13
    try clear c17
    try clear c18
    try clear c22
    try clear hcz14_0
    try clear hcz14_1
    try clear hcz19_0
    try clear hcz19_1
    try clear hcz20_0
    try clear hcz20_1
    try clear hcz23_0
    try clear hcz23_1
    try clear hcz24_0
    try clear hcz24_1
    try clear hcz9_0
    try clear hcz9_1
    try clear hfz14_0
    try clear hfz14_1
    try clear hfz19_0
    try clear hfz19_1
    try clear hfz20_0
    try clear hfz20_1
    try clear hfz23_0
    try clear hfz23_1
    try clear hfz24_0
    try clear hfz24_1
    try clear hfz9_0
    try clear hfz9_1
    obtain ⟨kq, x32_5, rfl, HA, HJ5, HO_307001, HO_313001, BK306, BK312, HB⟩ := hcut
    cases kq with
    | zero => exact absurd HA.out (by simp [laws_FnExactReadRecipe.j0])
    | succ kj5 =>
     have H := HA.out
     clear HA
     simp only [laws_FnExactReadRecipe.j0] at H
     by_cases c26 : x32_5 = true
     · subst c26
       have H1 : (some false) = some r := by rw [if_pos rfl] at H; exact H
       clear H
       have H := H1
       clear H1
       obtain rfl := Option.some.inj H
       go_wp2
       go_ret
       exact ⟨by first | rfl | (simp [errW_none, errW_some] <;> rfl) | (simp [*, errW_none, errW_some] <;> rfl), by repeat (first | (with_reducible first | exact HB.out | apply below_alloc | apply pw_below_drewN | apply below_drew1 | refine below_set ?_ GE306.out | refine below_set ?_ GE312.out) | exact HB.out)⟩
     · replace c26 := Bool.eq_false_iff.mpr c26
       subst c26
       have H1 : ((laws_markRecipe.f kj5 t307 t308 1).bind fun bt314 => ((laws_heldRecipe.f kj5 t307 bt314.2 1).bind fun t316 => (if t316 < 0 then (some false) else (if t316 = bt314.1 then ((impl_ReadRecipe.f kj5 a0 l1).bind fun bt317 => ((laws_eqRecipe.f kj5 bt317.1 bt317.2.1 t301 t302).bind fun t323 => (if t323 = true then (laws_FnExactReadRecipe.j1 kj5 bt314.1 (bt317.2.2 != t305) t307 bt314.2) else (laws_FnExactReadRecipe.j1 kj5 bt314.1 true t307 bt314.2)))) else (some false))))) = some r := by rw [if_neg (show ¬ (false = true) by decide)] at H; exact H
       clear H
       have H := H1
       clear H1
       replace H := Option.bind_eq_some_iff.mp H
       obtain ⟨⟨t314, t315⟩, A270, H⟩ := H
       replace H : ((laws_heldRecipe.f kj5 t307 t315 1).bind fun t316 => (if t316 < 0 then (some false) else (if t316 = t314 then ((impl_ReadRecipe.f kj5 a0 l1).bind fun bt317 => ((laws_eqRecipe.f kj5 bt317.1 bt317.2.1 t301 t302).bind fun t323 => (if t323 = true then (laws_FnExactReadRecipe.j1 kj5 t314 (bt317.2.2 != t305) t307 t315) else (laws_FnExactReadRecipe.j1 kj5 t314 true t307 t315)))) else (some false)))) = some r := H
       have A27 := mkA A270
       clear A270
       replace H := Option.bind_eq_some_iff.mp H
       obtain ⟨t316, A280, H⟩ := H
       replace H : (if t316 < 0 then (some false) else (if t316 = t314 then ((impl_ReadRecipe.f kj5 a0 l1).bind fun bt317 => ((laws_eqRecipe.f kj5 bt317.1 bt317.2.1 t301 t302).bind fun t323 => (if t323 = true then (laws_FnExactReadRecipe.j1 kj5 t314 (bt317.2.2 != t305) t307 t315) else (laws_FnExactReadRecipe.j1 kj5 t314 true t307 t315)))) else (some false))) = some r := H
       have A28 := mkA A280
       clear A280
       by_cases c29 : t316 < 0
       · rw [if_pos c29] at H
         have c29b0 : decide (t316 < 0) = true := decide_eq_true c29
         clear c29
         obtain rfl := Option.some.inj H
         have hnb30 := NB312_306.out
         have hnc30 := NB306_312.out
         have hcz31_0 : wc.cell? ⟨gb312, 0, none⟩ = some (.string t307) := (blk_cell BK312.out 0).trans rfl
         have hcz31_1 : wc.cell? ⟨gb312, 1, none⟩ = some (.slice Ao15 t308.length co15) := (blk_cell BK312.out 1).trans rfl
         have hfz31_0 := blk_frozen BK312.out 0
         have hfz31_1 := blk_frozen BK312.out 1
         go_wp2_with (first | ((with_reducible refine gate_callee (f := 12) rfl ?_); refine goesL_ (some 35) rfl rfl Tryd.func12 (by kernel_rfl) rfl #[.agg #[.string t307, .slice Ao15 t308.length co15], .int .i64 1] rfl (by (try simp only [List.map_toArray, List.map_cons, List.map_nil]); first | done | rfl | (simp only [List.length_drop, List.length_take]; rfl)) ?_; (with_reducible refine (laws_markRecipe.calls kj5 t307 (fun k_ => some k_ = (.slice Ao15 t308.length co15 : Value).ownBlock) (.slice Ao15 t308.length co15) t308 1 t314 t315 w _ ?side1 ?side2 A27.out).mono ?_); (case side1 => repeat (first | (with_reducible first | exact HB.out | apply below_alloc | apply pw_below_drewN | apply below_drew1 | refine below_set ?_ GE306.out | refine below_set ?_ GE312.out) | exact HB.out)); (case side2 => exact Kd.R_tight rfl HO_313001.out); rintro e w32 ⟨rfl, hy0, hb, hkp⟩; refine ⟨_, rfl, ?_⟩; have n0_ := mkA (Kd.R_mono (ok' := fun k_ => some k_ ≠ (.slice Ao15 t308.length co15 : Value).ownBlock) (Kd.R_keptB (HO_307001.out) hkp (fun k_ hk_ hs_ => (hk_) hs_)) (fun k_ hk_ => hk_.1)); have n1_ := mkA (Kd.R_reok rfl hy0 (fun k_ e_ => HO_313001.out.1 k_ e_)); have n2_ := mkA (blk_kept (bl_ BK306.out) hkp (fun hs_ => (fun e_ => (Kd.R_ne HO_313001.out BK306.out (by decide)) e_) hs_)); have n3_ := mkA (blk_kept (bl_ BK312.out) hkp (fun hs_ => (fun e_ => (Kd.R_ne HO_313001.out BK312.out (by decide)) e_) hs_)); have n4_ := mkA (hb); clear HO_307001; clear HO_313001; clear BK306; clear BK312; clear HB; have HO_307001 := n0_; have HO_313001 := n1_; have BK306 := n2_; have BK312 := n3_; have HB := n4_; clear n0_ n1_ n2_ n3_ n4_; (try clear hb); (try clear hkp); (try clear hy0); have hcz33_0 : w32.cell? ⟨gb312, 0, none⟩ = some (.string t307) := (blk_cell BK312.out 0).trans rfl; have hcz33_1 : w32.cell? ⟨gb312, 1, none⟩ = some (.slice Ao15 t308.length co15) := (blk_cell BK312.out 1).trans rfl; have hfz33_0 := blk_frozen BK312.out 0; have hfz33_1 := blk_frozen BK312.out 1) | ((with_reducible refine gate_callee (f := 13) rfl ?_); refine goesL_ (some 38) rfl rfl Tryd.func13 (by kernel_rfl) rfl #[.agg #[.string t307, .slice Ao15 t315.length co15], .int .i64 1] rfl (by (try simp only [List.map_toArray, List.map_cons, List.map_nil]); first | done | (rw [show t315.length = t308.length from (Kd.R_reads' HO_313001.out).1.symm] <;> rfl) | rfl | (simp only [List.length_drop, List.length_take]; rfl)) ?_; (with_reducible refine (laws_heldRecipe.calls kj5 t307 _ _ t315 1 t316 _ ?side1 ?side2 A28.out).mono ?_); (case side1 => repeat (first | exact (Kd.R_reads' HO_313001.out).2.2 | (with_reducible refine Kd.C_alloc ?_ _) | (with_reducible refine Kd.C_drewN ?_ _) | (with_reducible refine Kd.C_drew ?_))); (case side2 => rw [show t315.length = t308.length from (Kd.R_reads' HO_313001.out).1.symm]; exact (Kd.R_reads' HO_313001.out).2.1); rintro e w34 ⟨rfl, hb⟩; refine ⟨_, rfl, ?_⟩; have n0_ := mkA (Kd.R_below (by (with_reducible repeat (first | apply Kd.R_alloc | apply Kd.R_drewN | apply Kd.R_drew)); exact HO_307001.out) hb); have n1_ := mkA (Kd.R_below (by (with_reducible repeat (first | apply Kd.R_alloc | apply Kd.R_drewN | apply Kd.R_drew)); exact HO_313001.out) hb); have n2_ := mkA (blk_below (g := gb306) (o := .cells #[.string t301, .slice Ao10 t302.length co10] 29 (0, 0)) (bl_ BK306.out) hb); have n3_ := mkA (blk_below (g := gb312) (o := .cells #[.string t307, .slice Ao15 t308.length co15] 29 (0, 0)) (bl_ BK312.out) hb); have n4_ := mkA (below_step (bs2_ HB.out GE306.out GE312.out) hb); clear HO_307001; clear HO_313001; clear BK306; clear BK312; clear HB; have HO_307001 := n0_; have HO_313001 := n1_; have BK306 := n2_; have BK312 := n3_; have HB := n4_; clear n0_ n1_ n2_ n3_ n4_; (try clear hb); (try clear hb2); (try clear hk); (try clear hi)))
         go_ret
         exact ⟨by first | rfl | (simp [errW_none, errW_some] <;> rfl) | (simp [*, errW_none, errW_some] <;> rfl), by repeat (first | (with_reducible first | exact HB.out | apply below_alloc | apply pw_below_drewN | apply below_drew1 | refine below_set ?_ GE306.out | refine below_set ?_ GE312.out) | exact HB.out)⟩
       · rw [if_neg c29] at H
         have c29b0 : decide (t316 < 0) = false := decide_eq_false c29
         clear c29
         by_cases c35 : t316 = t314
         rotate_left
         · rw [if_neg c35] at H
           have c35b0 : (t316 == t314) = false := beq_eq_false_iff_ne.mpr c35
           have c35b1 : (t316 != t314) = true := bne_iff_ne.mpr c35
           obtain rfl := Option.some.inj H
           have hnb79 := NB312_306.out
           have hnc79 := NB306_312.out
           have hcz80_0 : wc.cell? ⟨gb312, 0, none⟩ = some (.string t307) := (blk_cell BK312.out 0).trans rfl
           have hcz80_1 : wc.cell? ⟨gb312, 1, none⟩ = some (.slice Ao15 t308.length co15) := (blk_cell BK312.out 1).trans rfl
           have hfz80_0 := blk_frozen BK312.out 0
           have hfz80_1 := blk_frozen BK312.out 1
           go_wp2_with (first | ((with_reducible refine gate_callee (f := 12) rfl ?_); refine goesL_ (some 35) rfl rfl Tryd.func12 (by kernel_rfl) rfl #[.agg #[.string t307, .slice Ao15 t308.length co15], .int .i64 1] rfl (by (try simp only [List.map_toArray, List.map_cons, List.map_nil]); first | done | rfl | (simp only [List.length_drop, List.length_take]; rfl)) ?_; (with_reducible refine (laws_markRecipe.calls kj5 t307 (fun k_ => some k_ = (.slice Ao15 t308.length co15 : Value).ownBlock) (.slice Ao15 t308.length co15) t308 1 t314 t315 w _ ?side1 ?side2 A27.out).mono ?_); (case side1 => repeat (first | (with_reducible first | exact HB.out | apply below_alloc | apply pw_below_drewN | apply below_drew1 | refine below_set ?_ GE306.out | refine below_set ?_ GE312.out) | exact HB.out)); (case side2 => exact Kd.R_tight rfl HO_313001.out); rintro e w81 ⟨rfl, hy0, hb, hkp⟩; refine ⟨_, rfl, ?_⟩; have n0_ := mkA (Kd.R_mono (ok' := fun k_ => some k_ ≠ (.slice Ao15 t308.length co15 : Value).ownBlock) (Kd.R_keptB (HO_307001.out) hkp (fun k_ hk_ hs_ => (hk_) hs_)) (fun k_ hk_ => hk_.1)); have n1_ := mkA (Kd.R_reok rfl hy0 (fun k_ e_ => HO_313001.out.1 k_ e_)); have n2_ := mkA (blk_kept (bl_ BK306.out) hkp (fun hs_ => (fun e_ => (Kd.R_ne HO_313001.out BK306.out (by decide)) e_) hs_)); have n3_ := mkA (blk_kept (bl_ BK312.out) hkp (fun hs_ => (fun e_ => (Kd.R_ne HO_313001.out BK312.out (by decide)) e_) hs_)); have n4_ := mkA (hb); clear HO_307001; clear HO_313001; clear BK306; clear BK312; clear HB; have HO_307001 := n0_; have HO_313001 := n1_; have BK306 := n2_; have BK312 := n3_; have HB := n4_; clear n0_ n1_ n2_ n3_ n4_; (try clear hb); (try clear hkp); (try clear hy0); have hcz82_0 : w81.cell? ⟨gb312, 0, none⟩ = some (.string t307) := (blk_cell BK312.out 0).trans rfl; have hcz82_1 : w81.cell? ⟨gb312, 1, none⟩ = some (.slice Ao15 t308.length co15) := (blk_cell BK312.out 1).trans rfl; have hfz82_0 := blk_frozen BK312.out 0; have hfz82_1 := blk_frozen BK312.out 1) | ((with_reducible refine gate_callee (f := 13) rfl ?_); refine goesL_ (some 38) rfl rfl Tryd.func13 (by kernel_rfl) rfl #[.agg #[.string t307, .slice Ao15 t315.length co15], .int .i64 1] rfl (by (try simp only [List.map_toArray, List.map_cons, List.map_nil]); first | done | (rw [show t315.length = t308.length from (Kd.R_reads' HO_313001.out).1.symm] <;> rfl) | rfl | (simp only [List.length_drop, List.length_take]; rfl)) ?_; (with_reducible refine (laws_heldRecipe.calls kj5 t307 _ _ t315 1 t316 _ ?side1 ?side2 A28.out).mono ?_); (case side1 => repeat (first | exact (Kd.R_reads' HO_313001.out).2.2 | (with_reducible refine Kd.C_alloc ?_ _) | (with_reducible refine Kd.C_drewN ?_ _) | (with_reducible refine Kd.C_drew ?_))); (case side2 => rw [show t315.length = t308.length from (Kd.R_reads' HO_313001.out).1.symm]; exact (Kd.R_reads' HO_313001.out).2.1); rintro e w83 ⟨rfl, hb⟩; refine ⟨_, rfl, ?_⟩; have n0_ := mkA (Kd.R_below (by (with_reducible repeat (first | apply Kd.R_alloc | apply Kd.R_drewN | apply Kd.R_drew)); exact HO_307001.out) hb); have n1_ := mkA (Kd.R_below (by (with_reducible repeat (first | apply Kd.R_alloc | apply Kd.R_drewN | apply Kd.R_drew)); exact HO_313001.out) hb); have n2_ := mkA (blk_below (g := gb306) (o := .cells #[.string t301, .slice Ao10 t302.length co10] 29 (0, 0)) (bl_ BK306.out) hb); have n3_ := mkA (blk_below (g := gb312) (o := .cells #[.string t307, .slice Ao15 t308.length co15] 29 (0, 0)) (bl_ BK312.out) hb); have n4_ := mkA (below_step (bs2_ HB.out GE306.out GE312.out) hb); clear HO_307001; clear HO_313001; clear BK306; clear BK312; clear HB; have HO_307001 := n0_; have HO_313001 := n1_; have BK306 := n2_; have BK312 := n3_; have HB := n4_; clear n0_ n1_ n2_ n3_ n4_; (try clear hb); (try clear hb2); (try clear hk); (try clear hi)))
           go_ret
           exact ⟨by first | rfl | (simp [errW_none, errW_some] <;> rfl) | (simp [*, errW_none, errW_some] <;> rfl), by repeat (first | (with_reducible first | exact HB.out | apply below_alloc | apply pw_below_drewN | apply below_drew1 | refine below_set ?_ GE306.out | refine below_set ?_ GE312.out) | exact HB.out)⟩

         rw [if_pos c35] at H
         have c35b0 : (t316 == t314) = true := beq_iff_eq.mpr c35
         have c35b1 : (t316 != t314) = false := bne_eq_false_iff_eq.mpr c35
         clear c35
         replace H := Option.bind_eq_some_iff.mp H
         obtain ⟨⟨t317, t318, t321⟩, A360, H⟩ := H
         replace H : ((laws_eqRecipe.f kj5 t317 t318 t301 t302).bind fun t323 => (if t323 = true then (laws_FnExactReadRecipe.j1 kj5 t314 (t321 != t305) t307 t315) else (laws_FnExactReadRecipe.j1 kj5 t314 true t307 t315))) = some r := H
         have A36 := mkA A360
         clear A360
         have HC37 := mkA H
         clear H
         have hnb38 := NB312_306.out
         have hnc38 := NB306_312.out
         have hcz39_0 : wc.cell? ⟨gb312, 0, none⟩ = some (.string t307) := (blk_cell BK312.out 0).trans rfl
         have hcz39_1 : wc.cell? ⟨gb312, 1, none⟩ = some (.slice Ao15 t308.length co15) := (blk_cell BK312.out 1).trans rfl
         have hfz39_0 := blk_frozen BK312.out 0
         have hfz39_1 := blk_frozen BK312.out 1
         go_upto_region 16 with (first | ((with_reducible refine gate_callee (f := 12) rfl ?_); refine goesL_ (some 35) rfl rfl Tryd.func12 (by kernel_rfl) rfl #[.agg #[.string t307, .slice Ao15 t308.length co15], .int .i64 1] rfl (by (try simp only [List.map_toArray, List.map_cons, List.map_nil]); first | done | rfl | (simp only [List.length_drop, List.length_take]; rfl)) ?_; (with_reducible refine (laws_markRecipe.calls kj5 t307 (fun k_ => some k_ = (.slice Ao15 t308.length co15 : Value).ownBlock) (.slice Ao15 t308.length co15) t308 1 t314 t315 w _ ?side1 ?side2 A27.out).mono ?_); (case side1 => repeat (first | (with_reducible first | exact HB.out | apply below_alloc | apply pw_below_drewN | apply below_drew1 | refine below_set ?_ GE306.out | refine below_set ?_ GE312.out) | exact HB.out)); (case side2 => exact Kd.R_tight rfl HO_313001.out); rintro e w40 ⟨rfl, hy0, hb, hkp⟩; refine ⟨_, rfl, ?_⟩; have n0_ := mkA (Kd.R_mono (ok' := fun k_ => some k_ ≠ (.slice Ao15 t308.length co15 : Value).ownBlock) (Kd.R_keptB (HO_307001.out) hkp (fun k_ hk_ hs_ => (hk_) hs_)) (fun k_ hk_ => hk_.1)); have n1_ := mkA (Kd.R_reok rfl hy0 (fun k_ e_ => HO_313001.out.1 k_ e_)); have n2_ := mkA (blk_kept (bl_ BK306.out) hkp (fun hs_ => (fun e_ => (Kd.R_ne HO_313001.out BK306.out (by decide)) e_) hs_)); have n3_ := mkA (blk_kept (bl_ BK312.out) hkp (fun hs_ => (fun e_ => (Kd.R_ne HO_313001.out BK312.out (by decide)) e_) hs_)); have n4_ := mkA (hb); clear HO_307001; clear HO_313001; clear BK306; clear BK312; clear HB; have HO_307001 := n0_; have HO_313001 := n1_; have BK306 := n2_; have BK312 := n3_; have HB := n4_; clear n0_ n1_ n2_ n3_ n4_; (try clear hb); (try clear hkp); (try clear hy0); have hcz41_0 : w40.cell? ⟨gb312, 0, none⟩ = some (.string t307) := (blk_cell BK312.out 0).trans rfl; have hcz41_1 : w40.cell? ⟨gb312, 1, none⟩ = some (.slice Ao15 t308.length co15) := (blk_cell BK312.out 1).trans rfl; have hfz41_0 := blk_frozen BK312.out 0; have hfz41_1 := blk_frozen BK312.out 1) | ((with_reducible refine gate_callee (f := 13) rfl ?_); refine goesL_ (some 38) rfl rfl Tryd.func13 (by kernel_rfl) rfl #[.agg #[.string t307, .slice Ao15 t315.length co15], .int .i64 1] rfl (by (try simp only [List.map_toArray, List.map_cons, List.map_nil]); first | done | (rw [show t315.length = t308.length from (Kd.R_reads' HO_313001.out).1.symm] <;> rfl) | rfl | (simp only [List.length_drop, List.length_take]; rfl)) ?_; (with_reducible refine (laws_heldRecipe.calls kj5 t307 _ _ t315 1 t316 _ ?side1 ?side2 A28.out).mono ?_); (case side1 => repeat (first | exact (Kd.R_reads' HO_313001.out).2.2 | (with_reducible refine Kd.C_alloc ?_ _) | (with_reducible refine Kd.C_drewN ?_ _) | (with_reducible refine Kd.C_drew ?_))); (case side2 => rw [show t315.length = t308.length from (Kd.R_reads' HO_313001.out).1.symm]; exact (Kd.R_reads' HO_313001.out).2.1); rintro e w42 ⟨rfl, hb⟩; refine ⟨_, rfl, ?_⟩; have n0_ := mkA (Kd.R_below (by (with_reducible repeat (first | apply Kd.R_alloc | apply Kd.R_drewN | apply Kd.R_drew)); exact HO_307001.out) hb); have n1_ := mkA (Kd.R_below (by (with_reducible repeat (first | apply Kd.R_alloc | apply Kd.R_drewN | apply Kd.R_drew)); exact HO_313001.out) hb); have n2_ := mkA (blk_below (g := gb306) (o := .cells #[.string t301, .slice Ao10 t302.length co10] 29 (0, 0)) (bl_ BK306.out) hb); have n3_ := mkA (blk_below (g := gb312) (o := .cells #[.string t307, .slice Ao15 t308.length co15] 29 (0, 0)) (bl_ BK312.out) hb); have n4_ := mkA (below_step (bs2_ HB.out GE306.out GE312.out) hb); clear HO_307001; clear HO_313001; clear BK306; clear BK312; clear HB; have HO_307001 := n0_; have HO_313001 := n1_; have BK306 := n2_; have BK312 := n3_; have HB := n4_; clear n0_ n1_ n2_ n3_ n4_; (try clear hb); (try clear hb2); (try clear hk); (try clear hi)) | ((with_reducible refine gate_callee (f := 11) rfl ?_); refine goesL_ (some 46) rfl rfl Tryd.func11 (by kernel_rfl) rfl #[.string a0] rfl (by (try simp only [List.map_toArray, List.map_cons, List.map_nil]); first | done | rfl | (simp only [List.length_drop, List.length_take]; rfl)) ?_; (with_reducible refine (impl_ReadRecipe.calls kj5 a0 l1 t317 t318 t321 _ ?side1 A36.out).mono ?_); (case side1 => exact cb_ HR1.out HB.out); rintro e w43 ⟨v319, rfl, ho0, hb⟩; refine ⟨_, rfl, ?_⟩; have n0_ := mkA (Kd.R_elder' (by (with_reducible repeat (first | apply Kd.R_alloc | apply Kd.R_drewN | apply Kd.R_drew)); exact HO_307001.out) (Kd.R_base ho0) hb); have n1_ := mkA (Kd.R_elder' (by (with_reducible repeat (first | apply Kd.R_alloc | apply Kd.R_drewN | apply Kd.R_drew)); exact HO_313001.out) (Kd.R_base ho0) hb); have n2_ := mkA (Kd.R_lower (Kd.R_new' (Kd.R_new' ho0 (Kd.R_lt (by (with_reducible repeat (first | apply Kd.R_alloc | apply Kd.R_drewN | apply Kd.R_drew)); exact HO_307001.out))) (Kd.R_lt (by (with_reducible repeat (first | apply Kd.R_alloc | apply Kd.R_drewN | apply Kd.R_drew)); exact HO_313001.out))) (below_size (bs2_ HB.out GE306.out GE312.out))); have n3_ := mkA (blk_below (g := gb306) (o := .cells #[.string t301, .slice Ao10 t302.length co10] 29 (0, 0)) (bl_ BK306.out) hb); have n4_ := mkA (blk_below (g := gb312) (o := .cells #[.string t307, .slice Ao15 t308.length co15] 29 (0, 0)) (bl_ BK312.out) hb); have n5_ := mkA (below_step (bs2_ HB.out GE306.out GE312.out) hb); clear HO_307001; clear HO_313001; clear BK306; clear BK312; clear HB; have HO_307001 := n0_; have HO_313001 := n1_; have HO320 := n2_; have BK306 := n3_; have BK312 := n4_; have HB := n5_; clear n0_ n1_ n2_ n3_ n4_ n5_; (try clear hb); (try clear hb2); (try clear hk); (try clear hi); (try clear ho0)) | ((with_reducible refine gate_dst (N := 9) rfl ?_); refine box_event ?hg (N := 9) ?hd (cs := #[.string (⟨#[]⟩ : ByteArray), .slice none 0 0]) (t := 29) ?hr ?_; (case hd => rfl); (case hg => rfl); (case hr => first | (go_simp; done) | (go_simp; rfl)); intro gb322 hg w44 hbox hb; have n0_ := mkA (Kd.R_below (by (with_reducible repeat (first | apply Kd.R_alloc | apply Kd.R_drewN | apply Kd.R_drew)); exact HO_307001.out) hb); have n1_ := mkA (Kd.R_below (by (with_reducible repeat (first | apply Kd.R_alloc | apply Kd.R_drewN | apply Kd.R_drew)); exact HO_313001.out) hb); have n2_ := mkA (Kd.R_below (by (with_reducible repeat (first | apply Kd.R_alloc | apply Kd.R_drewN | apply Kd.R_drew)); exact HO320.out) hb); have n3_ := mkA (blk_below (g := gb306) (o := .cells #[.string t301, .slice Ao10 t302.length co10] 29 (0, 0)) (bl_ BK306.out) hb); have n4_ := mkA (blk_below (g := gb312) (o := .cells #[.string t307, .slice Ao15 t308.length co15] 29 (0, 0)) (bl_ BK312.out) hb); have n5_ := mkA (below_step (bs2_ HB.out GE306.out GE312.out) hb); have n6_ := mkA (hbox); have n7_ := mkA ((by rw [hg]; exact (below_size (bs2_ HB.out GE306.out GE312.out)) : w.heap.size ≤ gb322)); have n8_ := mkA ((by rw [hg]; exact (below_size (bs2_ HB.out GE306.out GE312.out)) : w.heap.size ≤ gb322)); have n9_ := mkA ((by rw [hg]; exact Nat.ne_of_lt (blk_lt (g := gb306) (o := .cells #[.string t301, .slice Ao10 t302.length co10] 29 (0, 0)) (bl_ BK306.out)) : gb306 ≠ gb322)); have n10_ := mkA ((by rw [hg]; exact Nat.ne_of_gt (blk_lt (g := gb306) (o := .cells #[.string t301, .slice Ao10 t302.length co10] 29 (0, 0)) (bl_ BK306.out)) : gb322 ≠ gb306)); have n11_ := mkA ((by rw [hg]; exact Nat.ne_of_lt (blk_lt (g := gb312) (o := .cells #[.string t307, .slice Ao15 t308.length co15] 29 (0, 0)) (bl_ BK312.out)) : gb312 ≠ gb322)); have n12_ := mkA ((by rw [hg]; exact Nat.ne_of_gt (blk_lt (g := gb312) (o := .cells #[.string t307, .slice Ao15 t308.length co15] 29 (0, 0)) (bl_ BK312.out)) : gb322 ≠ gb312)); clear HO_307001; clear HO_313001; clear HO320; clear BK306; clear BK312; clear HB; have HO_307001 := n0_; have HO_313001 := n1_; have HO320 := n2_; have BK306 := n3_; have BK312 := n4_; have HB := n5_; have BK322 := n6_; have GW322 := n7_; have GE322 := n8_; have NB306_322 := n9_; have NB322_306 := n10_; have NB312_322 := n11_; have NB322_312 := n12_; clear n0_ n1_ n2_ n3_ n4_ n5_ n6_ n7_ n8_ n9_ n10_ n11_ n12_; clear hb hbox hg; have hnb45 := NB322_306.out; have hnc45 := NB306_322.out; have hnb46 := NB322_312.out; have hnc46 := NB312_322.out; have hcz47_0 : w44.cell? ⟨gb322, 0, none⟩ = some (.string (⟨#[]⟩ : ByteArray)) := (blk_cell BK322.out 0).trans rfl; have hcz47_1 : w44.cell? ⟨gb322, 1, none⟩ = some (.slice none 0 0) := (blk_cell BK322.out 1).trans rfl; have hfz47_0 := blk_frozen BK322.out 0; have hfz47_1 := blk_frozen BK322.out 1; obtain ⟨Ao48, co48, eo48⟩ := Kd.R_slice HO320.out; subst eo48))
         (try simp only [Act.put, sA, sB, sC])
         go_cut [57] (fun v57 wc => ∃ (kq : Nat) (x57_36 : Bool), v57 = .bool x57_36 ∧ Aside0 (laws_FnExactReadRecipe.j1 kq t314 x57_36 t307 t315 = some r) ∧ Aside0 (kq ≤ kj5) ∧ Aside0 (Kd.R k44 44 wc w.heap.size (fun k_ => some k_ ≠ ((.slice Ao15 t308.length co15) : Value).ownBlock ∧ some k_ ≠ ((.slice Ao48 t318.length co48) : Value).ownBlock) (.slice Ao10 t302.length co10) t302) ∧ Aside0 (Kd.R k44 44 wc w.heap.size (fun k_ => some k_ ≠ ((.slice Ao10 t302.length co10) : Value).ownBlock ∧ some k_ ≠ ((.slice Ao48 t318.length co48) : Value).ownBlock) (.slice Ao15 t308.length co15) t315) ∧ Aside0 (Kd.R k44 44 wc w.heap.size (fun k_ => some k_ ≠ ((.slice Ao10 t302.length co10) : Value).ownBlock ∧ some k_ ≠ ((.slice Ao15 t308.length co15) : Value).ownBlock) (.slice Ao48 t318.length co48) t318) ∧ Aside0 (wc.heap[gb306]? = some (.cells #[.string t301, (.slice Ao10 t302.length co10)] 29 (0, 0))) ∧ Aside0 (wc.heap[gb312]? = some (.cells #[.string t307, (.slice Ao15 t308.length co15)] 29 (0, 0))) ∧ Aside0 (wc.heap[gb322]? = some (.cells #[.string t317, (.slice Ao48 t318.length co48)] 29 (0, 0))) ∧ Aside0 (Below w.heap.size w wc))
         case first =>
          have H := HC37.out
          clear HC37
          replace H := Option.bind_eq_some_iff.mp H
          obtain ⟨t323, A490, H⟩ := H
          replace H : (if t323 = true then (laws_FnExactReadRecipe.j1 kj5 t314 (t321 != t305) t307 t315) else (laws_FnExactReadRecipe.j1 kj5 t314 true t307 t315)) = some r := H
          have A49 := mkA A490
          clear A490
          by_cases c50 : t323 = true
          · subst c50
            have H1 : (laws_FnExactReadRecipe.j1 kj5 t314 (t321 != t305) t307 t315) = some r := by rw [if_pos rfl] at H; exact H
            clear H
            have H := H1
            clear H1
            have H' := mkA H
            clear H
            have hnb51 := NB322_306.out
            have hnc51 := NB306_322.out
            have hnb52 := NB322_312.out
            have hnc52 := NB312_322.out
            have hcz53_0 : w44.cell? ⟨gb322, 0, none⟩ = some (.string (⟨#[]⟩ : ByteArray)) := (blk_cell BK322.out 0).trans rfl
            have hcz53_1 : w44.cell? ⟨gb322, 1, none⟩ = some (.slice none 0 0) := (blk_cell BK322.out 1).trans rfl
            have hfz53_0 := blk_frozen BK322.out 0
            have hfz53_1 := blk_frozen BK322.out 1
            have hnb54 := NB306_312.out
            have hnc54 := NB312_306.out
            have hcz55_0 : w44.cell? ⟨gb306, 0, none⟩ = some (.string t301) := (blk_cell BK306.out 0).trans rfl
            have hcz55_1 : w44.cell? ⟨gb306, 1, none⟩ = some (.slice Ao10 t302.length co10) := (blk_cell BK306.out 1).trans rfl
            have hfz55_0 := blk_frozen BK306.out 0
            have hfz55_1 := blk_frozen BK306.out 1
            go_wp2_with (first | ((with_reducible refine gate_callee (f := 9) rfl ?_); refine goesL_ (some 51) rfl rfl Tryd.func9 (by kernel_rfl) rfl #[.agg #[.string t317, .slice Ao48 t318.length co48], .agg #[.string t301, .slice Ao10 t302.length co10]] rfl (by (try simp only [List.map_toArray, List.map_cons, List.map_nil]); first | done | rfl | (simp only [List.length_drop, List.length_take]; rfl)) ?_; (with_reducible refine (laws_eqRecipe.calls kj5 t317 _ _ t318 t301 _ _ t302 true _ ?side1 ?side2 ?side3 ?side4 A49.out).mono ?_); (case side1 => refine (Kd.R_reads' (e := 44) (base := w.heap.size) (ok := fun k_ => ((True ∧ some k_ ≠ (.slice Ao10 t302.length co10 : Value).ownBlock) ∧ some k_ ≠ (.slice Ao15 t308.length co15 : Value).ownBlock)) (n := t318.length) (c := co48) ?_).2.2; exact (by (with_reducible repeat (first | apply Kd.R_alloc | apply Kd.R_drewN | apply Kd.R_drew)); exact (Kd.R_mono (Kd.R_far (p := ⟨gb322, 1, none⟩) (Kd.R_far (p := ⟨gb322, 0, none⟩) (Kd.R_types HO320.out BK322.out (by decide)) (fun _ hk => hk.2) (.string t317)) (fun _ hk => hk.2) (.slice Ao48 t318.length co48)) (fun _ h_ => h_.1)))); (case side2 => exact (Kd.R_reads' HO320.out).2.1); (case side3 => refine (Kd.R_reads' (e := 44) (base := w.heap.size) (ok := fun k_ => (some k_ ≠ (.slice Ao15 t308.length co15 : Value).ownBlock ∧ some k_ ≠ (.slice Ao48 t318.length co48 : Value).ownBlock)) (n := t302.length) (c := co10) ?_).2.2; exact (by (with_reducible repeat (first | apply Kd.R_alloc | apply Kd.R_drewN | apply Kd.R_drew)); exact (Kd.R_mono (Kd.R_far (p := ⟨gb322, 1, none⟩) (Kd.R_far (p := ⟨gb322, 0, none⟩) (Kd.R_types HO_307001.out BK322.out (by decide)) (fun _ hk => hk.2) (.string t317)) (fun _ hk => hk.2) (.slice Ao48 t318.length co48)) (fun _ h_ => h_.1)))); (case side4 => exact (Kd.R_reads' HO_307001.out).2.1); rintro e w56 ⟨rfl, hb⟩; refine ⟨_, rfl, ?_⟩; have n0_ := mkA (Kd.R_below (by (with_reducible repeat (first | apply Kd.R_alloc | apply Kd.R_drewN | apply Kd.R_drew)); exact (Kd.R_mono (Kd.R_far (p := ⟨gb322, 1, none⟩) (Kd.R_far (p := ⟨gb322, 0, none⟩) (Kd.R_types HO_307001.out BK322.out (by decide)) (fun _ hk => hk.2) (.string t317)) (fun _ hk => hk.2) (.slice Ao48 t318.length co48)) (fun _ h_ => h_.1))) hb); have n1_ := mkA (Kd.R_below (by (with_reducible repeat (first | apply Kd.R_alloc | apply Kd.R_drewN | apply Kd.R_drew)); exact (Kd.R_mono (Kd.R_far (p := ⟨gb322, 1, none⟩) (Kd.R_far (p := ⟨gb322, 0, none⟩) (Kd.R_types HO_313001.out BK322.out (by decide)) (fun _ hk => hk.2) (.string t317)) (fun _ hk => hk.2) (.slice Ao48 t318.length co48)) (fun _ h_ => h_.1))) hb); have n2_ := mkA (Kd.R_below (by (with_reducible repeat (first | apply Kd.R_alloc | apply Kd.R_drewN | apply Kd.R_drew)); exact (Kd.R_mono (Kd.R_far (p := ⟨gb322, 1, none⟩) (Kd.R_far (p := ⟨gb322, 0, none⟩) (Kd.R_types HO320.out BK322.out (by decide)) (fun _ hk => hk.2) (.string t317)) (fun _ hk => hk.2) (.slice Ao48 t318.length co48)) (fun _ h_ => h_.1))) hb); have n3_ := mkA (blk_below (g := gb306) (o := .cells #[.string t301, .slice Ao10 t302.length co10] 29 (0, 0)) (by (with_reducible repeat (first | refine blk_drewN ?_ _ | refine blk_drew ?_ | refine blk_alloc ?_ _)); refine blk_far ?_ NB306_322.out _; (with_reducible repeat (first | refine blk_drewN ?_ _ | refine blk_drew ?_ | refine blk_alloc ?_ _)); refine blk_far ?_ NB306_322.out _; (with_reducible repeat (first | refine blk_drewN ?_ _ | refine blk_drew ?_ | refine blk_alloc ?_ _)); exact BK306.out) hb); have n4_ := mkA (blk_below (g := gb312) (o := .cells #[.string t307, .slice Ao15 t308.length co15] 29 (0, 0)) (by (with_reducible repeat (first | refine blk_drewN ?_ _ | refine blk_drew ?_ | refine blk_alloc ?_ _)); refine blk_far ?_ NB312_322.out _; (with_reducible repeat (first | refine blk_drewN ?_ _ | refine blk_drew ?_ | refine blk_alloc ?_ _)); refine blk_far ?_ NB312_322.out _; (with_reducible repeat (first | refine blk_drewN ?_ _ | refine blk_drew ?_ | refine blk_alloc ?_ _)); exact BK312.out) hb); have n5_ := mkA (blk_below (g := gb322) (o := .cells #[.string t317, .slice Ao48 t318.length co48] 29 (0, 0)) (by (with_reducible repeat (first | refine blk_drewN ?_ _ | refine blk_drew ?_ | refine blk_alloc ?_ _)); refine blk_put (cs := #[.string t317, .slice none 0 0]) ?_ 1 _ rfl; (with_reducible repeat (first | refine blk_drewN ?_ _ | refine blk_drew ?_ | refine blk_alloc ?_ _)); refine blk_put (cs := #[.string (⟨#[]⟩ : ByteArray), .slice none 0 0]) ?_ 0 _ rfl; (with_reducible repeat (first | refine blk_drewN ?_ _ | refine blk_drew ?_ | refine blk_alloc ?_ _)); exact BK322.out) hb); have n6_ := mkA (below_step (bs3_ HB.out GE306.out GE312.out GE322.out) hb); clear HO_307001; clear HO_313001; clear HO320; clear BK306; clear BK312; clear BK322; clear HB; have HO_307001 := n0_; have HO_313001 := n1_; have HO320 := n2_; have BK306 := n3_; have BK312 := n4_; have BK322 := n5_; have HB := n6_; clear n0_ n1_ n2_ n3_ n4_ n5_ n6_; (try clear hb); (try clear hb2); (try clear hk); (try clear hi)))
            go_meet
            case rel => exact ⟨_, ((t321 != t305)), (by first | rfl | (simp; done) | (simp [*]; done) | (simp [i64_w, i32_w]; done)), H', ⟨by have := HJ5.out; first | omega | exact Nat.le_refl _⟩, ⟨by (with_reducible repeat (first | apply Kd.R_alloc | apply Kd.R_drewN | apply Kd.R_drew)); exact HO_307001.out⟩, ⟨by (with_reducible repeat (first | apply Kd.R_alloc | apply Kd.R_drewN | apply Kd.R_drew)); exact HO_313001.out⟩, ⟨by (with_reducible repeat (first | apply Kd.R_alloc | apply Kd.R_drewN | apply Kd.R_drew)); exact Kd.R_mono HO320.out (fun _ hk => ⟨hk.1.2, hk.2⟩)⟩, ⟨by (with_reducible repeat (first | refine blk_drewN ?_ _ | refine blk_drew ?_ | refine blk_alloc ?_ _)); exact BK306.out⟩, ⟨by (with_reducible repeat (first | refine blk_drewN ?_ _ | refine blk_drew ?_ | refine blk_alloc ?_ _)); exact BK312.out⟩, ⟨by (with_reducible repeat (first | refine blk_drewN ?_ _ | refine blk_drew ?_ | refine blk_alloc ?_ _)); exact BK322.out⟩, ⟨by repeat (first | (with_reducible first | exact HB.out | apply below_alloc | apply pw_below_drewN | apply below_drew1 | refine below_set ?_ GE306.out | refine below_set ?_ GE312.out | refine below_set ?_ GE322.out) | exact HB.out)⟩⟩
          · replace c50 := Bool.eq_false_iff.mpr c50
            subst c50
            have H1 : (laws_FnExactReadRecipe.j1 kj5 t314 true t307 t315) = some r := by rw [if_neg (show ¬ (false = true) by decide)] at H; exact H
            clear H
            have H := H1
            clear H1
            have H' := mkA H
            clear H
            have hnb57 := NB322_306.out
            have hnc57 := NB306_322.out
            have hnb58 := NB322_312.out
            have hnc58 := NB312_322.out
            have hcz59_0 : w44.cell? ⟨gb322, 0, none⟩ = some (.string (⟨#[]⟩ : ByteArray)) := (blk_cell BK322.out 0).trans rfl
            have hcz59_1 : w44.cell? ⟨gb322, 1, none⟩ = some (.slice none 0 0) := (blk_cell BK322.out 1).trans rfl
            have hfz59_0 := blk_frozen BK322.out 0
            have hfz59_1 := blk_frozen BK322.out 1
            have hnb60 := NB306_312.out
            have hnc60 := NB312_306.out
            have hcz61_0 : w44.cell? ⟨gb306, 0, none⟩ = some (.string t301) := (blk_cell BK306.out 0).trans rfl
            have hcz61_1 : w44.cell? ⟨gb306, 1, none⟩ = some (.slice Ao10 t302.length co10) := (blk_cell BK306.out 1).trans rfl
            have hfz61_0 := blk_frozen BK306.out 0
            have hfz61_1 := blk_frozen BK306.out 1
            go_wp2_with (first | ((with_reducible refine gate_callee (f := 9) rfl ?_); refine goesL_ (some 51) rfl rfl Tryd.func9 (by kernel_rfl) rfl #[.agg #[.string t317, .slice Ao48 t318.length co48], .agg #[.string t301, .slice Ao10 t302.length co10]] rfl (by (try simp only [List.map_toArray, List.map_cons, List.map_nil]); first | done | rfl | (simp only [List.length_drop, List.length_take]; rfl)) ?_; (with_reducible refine (laws_eqRecipe.calls kj5 t317 _ _ t318 t301 _ _ t302 false _ ?side1 ?side2 ?side3 ?side4 A49.out).mono ?_); (case side1 => refine (Kd.R_reads' (e := 44) (base := w.heap.size) (ok := fun k_ => ((True ∧ some k_ ≠ (.slice Ao10 t302.length co10 : Value).ownBlock) ∧ some k_ ≠ (.slice Ao15 t308.length co15 : Value).ownBlock)) (n := t318.length) (c := co48) ?_).2.2; exact (by (with_reducible repeat (first | apply Kd.R_alloc | apply Kd.R_drewN | apply Kd.R_drew)); exact (Kd.R_mono (Kd.R_far (p := ⟨gb322, 1, none⟩) (Kd.R_far (p := ⟨gb322, 0, none⟩) (Kd.R_types HO320.out BK322.out (by decide)) (fun _ hk => hk.2) (.string t317)) (fun _ hk => hk.2) (.slice Ao48 t318.length co48)) (fun _ h_ => h_.1)))); (case side2 => exact (Kd.R_reads' HO320.out).2.1); (case side3 => refine (Kd.R_reads' (e := 44) (base := w.heap.size) (ok := fun k_ => (some k_ ≠ (.slice Ao15 t308.length co15 : Value).ownBlock ∧ some k_ ≠ (.slice Ao48 t318.length co48 : Value).ownBlock)) (n := t302.length) (c := co10) ?_).2.2; exact (by (with_reducible repeat (first | apply Kd.R_alloc | apply Kd.R_drewN | apply Kd.R_drew)); exact (Kd.R_mono (Kd.R_far (p := ⟨gb322, 1, none⟩) (Kd.R_far (p := ⟨gb322, 0, none⟩) (Kd.R_types HO_307001.out BK322.out (by decide)) (fun _ hk => hk.2) (.string t317)) (fun _ hk => hk.2) (.slice Ao48 t318.length co48)) (fun _ h_ => h_.1)))); (case side4 => exact (Kd.R_reads' HO_307001.out).2.1); rintro e w62 ⟨rfl, hb⟩; refine ⟨_, rfl, ?_⟩; have n0_ := mkA (Kd.R_below (by (with_reducible repeat (first | apply Kd.R_alloc | apply Kd.R_drewN | apply Kd.R_drew)); exact (Kd.R_mono (Kd.R_far (p := ⟨gb322, 1, none⟩) (Kd.R_far (p := ⟨gb322, 0, none⟩) (Kd.R_types HO_307001.out BK322.out (by decide)) (fun _ hk => hk.2) (.string t317)) (fun _ hk => hk.2) (.slice Ao48 t318.length co48)) (fun _ h_ => h_.1))) hb); have n1_ := mkA (Kd.R_below (by (with_reducible repeat (first | apply Kd.R_alloc | apply Kd.R_drewN | apply Kd.R_drew)); exact (Kd.R_mono (Kd.R_far (p := ⟨gb322, 1, none⟩) (Kd.R_far (p := ⟨gb322, 0, none⟩) (Kd.R_types HO_313001.out BK322.out (by decide)) (fun _ hk => hk.2) (.string t317)) (fun _ hk => hk.2) (.slice Ao48 t318.length co48)) (fun _ h_ => h_.1))) hb); have n2_ := mkA (Kd.R_below (by (with_reducible repeat (first | apply Kd.R_alloc | apply Kd.R_drewN | apply Kd.R_drew)); exact (Kd.R_mono (Kd.R_far (p := ⟨gb322, 1, none⟩) (Kd.R_far (p := ⟨gb322, 0, none⟩) (Kd.R_types HO320.out BK322.out (by decide)) (fun _ hk => hk.2) (.string t317)) (fun _ hk => hk.2) (.slice Ao48 t318.length co48)) (fun _ h_ => h_.1))) hb); have n3_ := mkA (blk_below (g := gb306) (o := .cells #[.string t301, .slice Ao10 t302.length co10] 29 (0, 0)) (by (with_reducible repeat (first | refine blk_drewN ?_ _ | refine blk_drew ?_ | refine blk_alloc ?_ _)); refine blk_far ?_ NB306_322.out _; (with_reducible repeat (first | refine blk_drewN ?_ _ | refine blk_drew ?_ | refine blk_alloc ?_ _)); refine blk_far ?_ NB306_322.out _; (with_reducible repeat (first | refine blk_drewN ?_ _ | refine blk_drew ?_ | refine blk_alloc ?_ _)); exact BK306.out) hb); have n4_ := mkA (blk_below (g := gb312) (o := .cells #[.string t307, .slice Ao15 t308.length co15] 29 (0, 0)) (by (with_reducible repeat (first | refine blk_drewN ?_ _ | refine blk_drew ?_ | refine blk_alloc ?_ _)); refine blk_far ?_ NB312_322.out _; (with_reducible repeat (first | refine blk_drewN ?_ _ | refine blk_drew ?_ | refine blk_alloc ?_ _)); refine blk_far ?_ NB312_322.out _; (with_reducible repeat (first | refine blk_drewN ?_ _ | refine blk_drew ?_ | refine blk_alloc ?_ _)); exact BK312.out) hb); have n5_ := mkA (blk_below (g := gb322) (o := .cells #[.string t317, .slice Ao48 t318.length co48] 29 (0, 0)) (by (with_reducible repeat (first | refine blk_drewN ?_ _ | refine blk_drew ?_ | refine blk_alloc ?_ _)); refine blk_put (cs := #[.string t317, .slice none 0 0]) ?_ 1 _ rfl; (with_reducible repeat (first | refine blk_drewN ?_ _ | refine blk_drew ?_ | refine blk_alloc ?_ _)); refine blk_put (cs := #[.string (⟨#[]⟩ : ByteArray), .slice none 0 0]) ?_ 0 _ rfl; (with_reducible repeat (first | refine blk_drewN ?_ _ | refine blk_drew ?_ | refine blk_alloc ?_ _)); exact BK322.out) hb); have n6_ := mkA (below_step (bs3_ HB.out GE306.out GE312.out GE322.out) hb); clear HO_307001; clear HO_313001; clear HO320; clear BK306; clear BK312; clear BK322; clear HB; have HO_307001 := n0_; have HO_313001 := n1_; have HO320 := n2_; have BK306 := n3_; have BK312 := n4_; have BK322 := n5_; have HB := n6_; clear n0_ n1_ n2_ n3_ n4_ n5_ n6_; (try clear hb); (try clear hb2); (try clear hk); (try clear hi)))
            go_meet
            case rel => exact ⟨_, (true), (by first | rfl | (simp; done) | (simp [*]; done) | (simp [i64_w, i32_w]; done)), H', ⟨by have := HJ5.out; first | omega | exact Nat.le_refl _⟩, ⟨by (with_reducible repeat (first | apply Kd.R_alloc | apply Kd.R_drewN | apply Kd.R_drew)); exact HO_307001.out⟩, ⟨by (with_reducible repeat (first | apply Kd.R_alloc | apply Kd.R_drewN | apply Kd.R_drew)); exact HO_313001.out⟩, ⟨by (with_reducible repeat (first | apply Kd.R_alloc | apply Kd.R_drewN | apply Kd.R_drew)); exact Kd.R_mono HO320.out (fun _ hk => ⟨hk.1.2, hk.2⟩)⟩, ⟨by (with_reducible repeat (first | refine blk_drewN ?_ _ | refine blk_drew ?_ | refine blk_alloc ?_ _)); exact BK306.out⟩, ⟨by (with_reducible repeat (first | refine blk_drewN ?_ _ | refine blk_drew ?_ | refine blk_alloc ?_ _)); exact BK312.out⟩, ⟨by (with_reducible repeat (first | refine blk_drewN ?_ _ | refine blk_drew ?_ | refine blk_alloc ?_ _)); exact BK322.out⟩, ⟨by repeat (first | (with_reducible first | exact HB.out | apply below_alloc | apply pw_below_drewN | apply below_drew1 | refine below_set ?_ GE306.out | refine below_set ?_ GE312.out | refine below_set ?_ GE322.out) | exact HB.out)⟩⟩
         case rest =>
          clear HC37
          try clear c1
          try clear c2
          try clear p2
          try clear c3
          try clear c3b0
          try clear c3b1
          try clear c4
          try clear c5
          try clear c6
          try clear c9
          try clear c10
          try clear c11
          try clear c12
          try clear c13
          try clear c17
          try clear c18
          try clear c22
          try clear c26
          try clear c29
          try clear c29b0
          try clear c30
          try clear c35
          try clear c35b0
          try clear c35b1
          try clear c38
          try clear c45
          try clear c46
          try clear c50
          try clear c51
          try clear c52
          try clear c54
          try clear c57
          try clear c58
          try clear c60
          try clear hcz14_0
          try clear hcz14_1
          try clear hcz19_0
          try clear hcz19_1
          try clear hcz20_0
          try clear hcz20_1
          try clear hcz23_0
          try clear hcz23_1
          try clear hcz24_0
          try clear hcz24_1
          try clear hcz31_0
          try clear hcz31_1
          try clear hcz33_0
          try clear hcz33_1
          try clear hcz39_0
          try clear hcz39_1
          try clear hcz41_0
          try clear hcz41_1
          try clear hcz47_0
          try clear hcz47_1
          try clear hcz53_0
          try clear hcz53_1
          try clear hcz55_0
          try clear hcz55_1
          try clear hcz59_0
          try clear hcz59_1
          try clear hcz61_0
          try clear hcz61_1
          try clear hcz9_0
          try clear hcz9_1
          try clear hfz14_0
          try clear hfz14_1
          try clear hfz19_0
          try clear hfz19_1
          try clear hfz20_0
          try clear hfz20_1
          try clear hfz23_0
          try clear hfz23_1
          try clear hfz24_0
          try clear hfz24_1
          try clear hfz31_0
          try clear hfz31_1
          try clear hfz33_0
          try clear hfz33_1
          try clear hfz39_0
          try clear hfz39_1
          try clear hfz41_0
          try clear hfz41_1
          try clear hfz47_0
          try clear hfz47_1
          try clear hfz53_0
          try clear hfz53_1
          try clear hfz55_0
          try clear hfz55_1
          try clear hfz59_0
          try clear hfz59_1
          try clear hfz61_0
          try clear hfz61_1
          try clear hfz9_0
          try clear hfz9_1
          try clear p2
          obtain ⟨kq, x57_36, rfl, HA, HJ36, HO_307001, HO_313001, HO_323001, BK306, BK312, BK322, HB⟩ := hcut
          have hl313001_36 := (Kd.R_reads' HO_313001.out).1
          rw [hl313001_36] at HO_313001
          (try simp only [hl313001_36])
          (try simp only [hl313001_36] at BK306)
          (try simp only [hl313001_36] at BK312)
          (try simp only [hl313001_36] at BK322)
          (try simp only [hl313001_36] at HO_307001)
          (try simp only [hl313001_36] at HO_323001)
          cases kq with
          | zero => exact absurd HA.out (by simp [laws_FnExactReadRecipe.j1])
          | succ kj36 =>
           have H := HA.out
           clear HA
           simp only [laws_FnExactReadRecipe.j1] at H
           by_cases c63 : x57_36 = true
           · subst c63
             have H1 : (some false) = some r := by rw [if_pos rfl] at H; exact H
             clear H
             have H := H1
             clear H1
             obtain rfl := Option.some.inj H
             go_wp2
             go_ret
             exact ⟨by first | rfl | (simp [errW_none, errW_some] <;> rfl) | (simp [*, errW_none, errW_some] <;> rfl), by repeat (first | (with_reducible first | exact HB.out | apply below_alloc | apply pw_below_drewN | apply below_drew1 | refine below_set ?_ GE306.out | refine below_set ?_ GE312.out | refine below_set ?_ GE322.out) | exact HB.out)⟩
           · replace c63 := Bool.eq_false_iff.mpr c63
             subst c63
             have H1 : ((laws_heldRecipe.f kj36 t307 t315 1).bind fun t324 => (if t324 < 0 then (some false) else (if t324 = t314 then (some true) else (some false)))) = some r := by rw [if_neg (show ¬ (false = true) by decide)] at H; exact H
             clear H
             have H := H1
             clear H1
             replace H := Option.bind_eq_some_iff.mp H
             obtain ⟨t324, A640, H⟩ := H
             replace H : (if t324 < 0 then (some false) else (if t324 = t314 then (some true) else (some false))) = some r := H
             have A64 := mkA A640
             clear A640
             by_cases c65 : t324 < 0
             · rw [if_pos c65] at H
               have c65b0 : decide (t324 < 0) = true := decide_eq_true c65
               clear c65
               obtain rfl := Option.some.inj H
               have hnb66 := NB312_306.out
               have hnc66 := NB306_312.out
               have hnb67 := NB312_322.out
               have hnc67 := NB322_312.out
               have hcz68_0 : wc.cell? ⟨gb312, 0, none⟩ = some (.string t307) := (blk_cell BK312.out 0).trans rfl
               have hcz68_1 : wc.cell? ⟨gb312, 1, none⟩ = some (.slice Ao15 t315.length co15) := (blk_cell BK312.out 1).trans rfl
               have hfz68_0 := blk_frozen BK312.out 0
               have hfz68_1 := blk_frozen BK312.out 1
               go_wp2_with (first | ((with_reducible refine gate_callee (f := 13) rfl ?_); refine goesL_ (some 60) rfl rfl Tryd.func13 (by kernel_rfl) rfl #[.agg #[.string t307, .slice Ao15 t315.length co15], .int .i64 1] rfl (by (try simp only [List.map_toArray, List.map_cons, List.map_nil]); first | done | rfl | (simp only [List.length_drop, List.length_take]; rfl)) ?_; (with_reducible refine (laws_heldRecipe.calls kj36 t307 _ _ t315 1 t324 _ ?side1 ?side2 A64.out).mono ?_); (case side1 => repeat (first | exact (Kd.R_reads' HO_313001.out).2.2 | (with_reducible refine Kd.C_alloc ?_ _) | (with_reducible refine Kd.C_drewN ?_ _) | (with_reducible refine Kd.C_drew ?_))); (case side2 => exact (Kd.R_reads' HO_313001.out).2.1); rintro e w69 ⟨rfl, hb⟩; refine ⟨_, rfl, ?_⟩; have n0_ := mkA (Kd.R_below (by (with_reducible repeat (first | apply Kd.R_alloc | apply Kd.R_drewN | apply Kd.R_drew)); exact HO_307001.out) hb); have n1_ := mkA (Kd.R_below (by (with_reducible repeat (first | apply Kd.R_alloc | apply Kd.R_drewN | apply Kd.R_drew)); exact HO_313001.out) hb); have n2_ := mkA (Kd.R_below (by (with_reducible repeat (first | apply Kd.R_alloc | apply Kd.R_drewN | apply Kd.R_drew)); exact HO_323001.out) hb); have n3_ := mkA (blk_below (g := gb306) (o := .cells #[.string t301, .slice Ao10 t302.length co10] 29 (0, 0)) (bl_ BK306.out) hb); have n4_ := mkA (blk_below (g := gb312) (o := .cells #[.string t307, .slice Ao15 t315.length co15] 29 (0, 0)) (bl_ BK312.out) hb); have n5_ := mkA (blk_below (g := gb322) (o := .cells #[.string t317, .slice Ao48 t318.length co48] 29 (0, 0)) (bl_ BK322.out) hb); have n6_ := mkA (below_step (bs3_ HB.out GE306.out GE312.out GE322.out) hb); clear HO_307001; clear HO_313001; clear HO_323001; clear BK306; clear BK312; clear BK322; clear HB; have HO_307001 := n0_; have HO_313001 := n1_; have HO_323001 := n2_; have BK306 := n3_; have BK312 := n4_; have BK322 := n5_; have HB := n6_; clear n0_ n1_ n2_ n3_ n4_ n5_ n6_; (try clear hb); (try clear hb2); (try clear hk); (try clear hi)))
               go_ret
               exact ⟨by first | rfl | (simp [errW_none, errW_some] <;> rfl) | (simp [*, errW_none, errW_some] <;> rfl), by repeat (first | (with_reducible first | exact HB.out | apply below_alloc | apply pw_below_drewN | apply below_drew1 | refine below_set ?_ GE306.out | refine below_set ?_ GE312.out | refine below_set ?_ GE322.out) | exact HB.out)⟩
             · rw [if_neg c65] at H
               have c65b0 : decide (t324 < 0) = false := decide_eq_false c65
               clear c65
               by_cases c70 : t324 = t314
               rotate_left
               · rw [if_neg c70] at H
                 have c70b0 : (t324 == t314) = false := beq_eq_false_iff_ne.mpr c70
                 have c70b1 : (t324 != t314) = true := bne_iff_ne.mpr c70
                 obtain rfl := Option.some.inj H
                 have hnb75 := NB312_306.out
                 have hnc75 := NB306_312.out
                 have hnb76 := NB312_322.out
                 have hnc76 := NB322_312.out
                 have hcz77_0 : wc.cell? ⟨gb312, 0, none⟩ = some (.string t307) := (blk_cell BK312.out 0).trans rfl
                 have hcz77_1 : wc.cell? ⟨gb312, 1, none⟩ = some (.slice Ao15 t315.length co15) := (blk_cell BK312.out 1).trans rfl
                 have hfz77_0 := blk_frozen BK312.out 0
                 have hfz77_1 := blk_frozen BK312.out 1
                 go_wp2_with (first | ((with_reducible refine gate_callee (f := 13) rfl ?_); refine goesL_ (some 60) rfl rfl Tryd.func13 (by kernel_rfl) rfl #[.agg #[.string t307, .slice Ao15 t315.length co15], .int .i64 1] rfl (by (try simp only [List.map_toArray, List.map_cons, List.map_nil]); first | done | rfl | (simp only [List.length_drop, List.length_take]; rfl)) ?_; (with_reducible refine (laws_heldRecipe.calls kj36 t307 _ _ t315 1 t324 _ ?side1 ?side2 A64.out).mono ?_); (case side1 => repeat (first | exact (Kd.R_reads' HO_313001.out).2.2 | (with_reducible refine Kd.C_alloc ?_ _) | (with_reducible refine Kd.C_drewN ?_ _) | (with_reducible refine Kd.C_drew ?_))); (case side2 => exact (Kd.R_reads' HO_313001.out).2.1); rintro e w78 ⟨rfl, hb⟩; refine ⟨_, rfl, ?_⟩; have n0_ := mkA (Kd.R_below (by (with_reducible repeat (first | apply Kd.R_alloc | apply Kd.R_drewN | apply Kd.R_drew)); exact HO_307001.out) hb); have n1_ := mkA (Kd.R_below (by (with_reducible repeat (first | apply Kd.R_alloc | apply Kd.R_drewN | apply Kd.R_drew)); exact HO_313001.out) hb); have n2_ := mkA (Kd.R_below (by (with_reducible repeat (first | apply Kd.R_alloc | apply Kd.R_drewN | apply Kd.R_drew)); exact HO_323001.out) hb); have n3_ := mkA (blk_below (g := gb306) (o := .cells #[.string t301, .slice Ao10 t302.length co10] 29 (0, 0)) (bl_ BK306.out) hb); have n4_ := mkA (blk_below (g := gb312) (o := .cells #[.string t307, .slice Ao15 t315.length co15] 29 (0, 0)) (bl_ BK312.out) hb); have n5_ := mkA (blk_below (g := gb322) (o := .cells #[.string t317, .slice Ao48 t318.length co48] 29 (0, 0)) (bl_ BK322.out) hb); have n6_ := mkA (below_step (bs3_ HB.out GE306.out GE312.out GE322.out) hb); clear HO_307001; clear HO_313001; clear HO_323001; clear BK306; clear BK312; clear BK322; clear HB; have HO_307001 := n0_; have HO_313001 := n1_; have HO_323001 := n2_; have BK306 := n3_; have BK312 := n4_; have BK322 := n5_; have HB := n6_; clear n0_ n1_ n2_ n3_ n4_ n5_ n6_; (try clear hb); (try clear hb2); (try clear hk); (try clear hi)))
                 go_ret
                 exact ⟨by first | rfl | (simp [errW_none, errW_some] <;> rfl) | (simp [*, errW_none, errW_some] <;> rfl), by repeat (first | (with_reducible first | exact HB.out | apply below_alloc | apply pw_below_drewN | apply below_drew1 | refine below_set ?_ GE306.out | refine below_set ?_ GE312.out | refine below_set ?_ GE322.out) | exact HB.out)⟩
               rw [if_pos c70] at H
               have c70b0 : (t324 == t314) = true := beq_iff_eq.mpr c70
               have c70b1 : (t324 != t314) = false := bne_eq_false_iff_eq.mpr c70
               clear c70
               obtain rfl := Option.some.inj H
               have hnb71 := NB312_306.out
               have hnc71 := NB306_312.out
               have hnb72 := NB312_322.out
               have hnc72 := NB322_312.out
               have hcz73_0 : wc.cell? ⟨gb312, 0, none⟩ = some (.string t307) := (blk_cell BK312.out 0).trans rfl
               have hcz73_1 : wc.cell? ⟨gb312, 1, none⟩ = some (.slice Ao15 t315.length co15) := (blk_cell BK312.out 1).trans rfl
               have hfz73_0 := blk_frozen BK312.out 0
               have hfz73_1 := blk_frozen BK312.out 1
               go_wp2_with (first | ((with_reducible refine gate_callee (f := 13) rfl ?_); refine goesL_ (some 60) rfl rfl Tryd.func13 (by kernel_rfl) rfl #[.agg #[.string t307, .slice Ao15 t315.length co15], .int .i64 1] rfl (by (try simp only [List.map_toArray, List.map_cons, List.map_nil]); first | done | rfl | (simp only [List.length_drop, List.length_take]; rfl)) ?_; (with_reducible refine (laws_heldRecipe.calls kj36 t307 _ _ t315 1 t324 _ ?side1 ?side2 A64.out).mono ?_); (case side1 => repeat (first | exact (Kd.R_reads' HO_313001.out).2.2 | (with_reducible refine Kd.C_alloc ?_ _) | (with_reducible refine Kd.C_drewN ?_ _) | (with_reducible refine Kd.C_drew ?_))); (case side2 => exact (Kd.R_reads' HO_313001.out).2.1); rintro e w74 ⟨rfl, hb⟩; refine ⟨_, rfl, ?_⟩; have n0_ := mkA (Kd.R_below (by (with_reducible repeat (first | apply Kd.R_alloc | apply Kd.R_drewN | apply Kd.R_drew)); exact HO_307001.out) hb); have n1_ := mkA (Kd.R_below (by (with_reducible repeat (first | apply Kd.R_alloc | apply Kd.R_drewN | apply Kd.R_drew)); exact HO_313001.out) hb); have n2_ := mkA (Kd.R_below (by (with_reducible repeat (first | apply Kd.R_alloc | apply Kd.R_drewN | apply Kd.R_drew)); exact HO_323001.out) hb); have n3_ := mkA (blk_below (g := gb306) (o := .cells #[.string t301, .slice Ao10 t302.length co10] 29 (0, 0)) (bl_ BK306.out) hb); have n4_ := mkA (blk_below (g := gb312) (o := .cells #[.string t307, .slice Ao15 t315.length co15] 29 (0, 0)) (bl_ BK312.out) hb); have n5_ := mkA (blk_below (g := gb322) (o := .cells #[.string t317, .slice Ao48 t318.length co48] 29 (0, 0)) (bl_ BK322.out) hb); have n6_ := mkA (below_step (bs3_ HB.out GE306.out GE312.out GE322.out) hb); clear HO_307001; clear HO_313001; clear HO_323001; clear BK306; clear BK312; clear BK322; clear HB; have HO_307001 := n0_; have HO_313001 := n1_; have HO_323001 := n2_; have BK306 := n3_; have BK312 := n4_; have BK322 := n5_; have HB := n6_; clear n0_ n1_ n2_ n3_ n4_ n5_ n6_; (try clear hb); (try clear hb2); (try clear hk); (try clear hi)))
               go_ret
               exact ⟨by first | rfl | (simp [errW_none, errW_some] <;> rfl) | (simp [*, errW_none, errW_some] <;> rfl), by repeat (first | (with_reducible first | exact HB.out | apply below_alloc | apply pw_below_drewN | apply below_drew1 | refine below_set ?_ GE306.out | refine below_set ?_ GE312.out | refine below_set ?_ GE322.out) | exact HB.out)⟩
/-- THE ONE PURE STATEMENT of laws_FnExactReadRecipe. -/
def laws_FnExactReadRecipe.Pure : Prop := ∀ (a0 : ByteArray), a0.size ≤ maxLen → ∃ k, laws_FnExactReadRecipe.f k a0 ([()] : List Unit) = some true

end Go.Proofs.YteijbdngbmciaaaDoor.GFnExactReadRecipe

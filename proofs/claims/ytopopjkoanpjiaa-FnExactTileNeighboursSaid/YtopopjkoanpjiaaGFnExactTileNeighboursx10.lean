-- Written by the session's own program (gen.py) out of the translation's print. Lean checks it.
import Derived.Test.YtopopjkoanpjiaaGFnExactTileNeighboursx0
import Derived.Test.YtopopjkoanpjiaaGFnExactTileNeighboursx1
import Derived.Test.YtopopjkoanpjiaaGFnExactTileNeighboursx5
import Derived.Test.YtopopjkoanpjiaaGFnExactTileNeighboursx6
import Derived.Test.YtopopjkoanpjiaaGFnExactTileNeighboursx8
import Derived.Test.YtopopjkoanpjiaaGFnExactTileNeighboursx9
namespace Go.Proofs.Ytopopjkoanpjiaa.GFnExactTileNeighbours
open Go.RowKit Go.Proofs.YtopopjkoanpjiaaW.PrintWords Go.Proofs.YtopopjkoanpjiaaW.PrintLast Go.Proofs.YtopopjkoanpjiaaW.PrintMore
attribute [local go_sem] max2_int min2_int max_two min_two max_three min_three max_four min_four   -- for this text's walks alone
set_option linter.unusedVariables false
set_option linter.unusedSimpArgs false

/-! ### laws_FnExactTileNeighbours: function 3 -/
mutual
def laws_FnExactTileNeighbours.j0 : Nat → Int → List Int → Int → List Int → Int → Bool → Int → Int → List Int → Int → Int → List Int → Option (Bool)
  | 0, _, _, _, _, _, _, _, _, _, _, _, _ => none
  | k + 1, x1, x6, x7, x9, x10, x44, x296000, x296001, x296002, x312000, x312001, x312002 => if x44 = true then (some false) else ((laws_toTiling.f k x296000 x296001 x296002).bind fun bt317 => ((laws_eqTiling.f k x312000 x312001 x312002 bt317.1 bt317.2.1 bt317.2.2).bind fun t322 => (if t322 = true then ((laws_markTiling.f k x312000 x312001 x312002 1).bind fun bt323 => (if bt323.1 < 0 then (laws_FnExactTileNeighbours.j1 k x1 x6 x7 x9 true x296000 x296001 x296002) else ((laws_eqInt64S.f k x9 x6).bind fun t325 => (if t325 = true then (laws_FnExactTileNeighbours.j1 k x1 x6 x7 x9 (x10 != x7) x296000 x296001 x296002) else (laws_FnExactTileNeighbours.j1 k x1 x6 x7 x9 true x296000 x296001 x296002))))) else (some false))))
def laws_FnExactTileNeighbours.j1 : Nat → Int → List Int → Int → List Int → Bool → Int → Int → List Int → Option (Bool)
  | 0, _, _, _, _, _, _, _, _ => none
  | k + 1, x1, x6, x7, x9, x65, x296000, x296001, x296002 => if x65 = true then (some false) else ((laws_markInt64S.f k x9 1).bind fun bt326 => ((laws_heldInt64S.f k bt326.2 1).bind fun t328 => (if t328 < 0 then (some false) else (if t328 = bt326.1 then ((laws_toTiling.f k x296000 x296001 x296002).bind fun bt329 => ((impl_TileNeighbours.f k bt329.1 bt329.2.1 bt329.2.2 x1).bind fun bt334 => ((laws_eqInt64S.f k bt334.1 x6).bind fun t338 => (if t338 = true then (laws_FnExactTileNeighbours.j2 k bt326.2 bt326.1 (bt334.2 != x7)) else (laws_FnExactTileNeighbours.j2 k bt326.2 bt326.1 true))))) else (some false)))))
def laws_FnExactTileNeighbours.j2 : Nat → List Int → Int → Bool → Option (Bool)
  | 0, _, _, _ => none
  | k + 1, x9, x12, x92 => if x92 = true then (some false) else ((laws_heldInt64S.f k x9 1).bind fun t339 => (if t339 < 0 then (some false) else (if t339 = x12 then (some true) else (some false))))
end
def laws_FnExactTileNeighbours.f (k : Nat) (a0_0 : Int) (a0_1 : Int) (l0_2 : List Int) (a1 : Int) : Option (Bool) := (laws_szTiling.f a0_0 a0_1 l0_2 1048576).bind fun t296 => (if t296 < 0 then (some true) else ((laws_toTiling.f k a0_0 a0_1 l0_2).bind fun bt297 => ((spec_TileNeighbours.f k bt297.1 bt297.2.1 bt297.2.2 a1).bind fun bt302 => ((laws_toTiling.f k a0_0 a0_1 l0_2).bind fun bt306 => ((impl_TileNeighbours.f k bt306.1 bt306.2.1 bt306.2.2 a1).bind fun bt312 => ((laws_eqInt64S.f k bt312.1 bt302.1).bind fun t316 => (if t316 = true then (laws_FnExactTileNeighbours.j0 k a1 bt302.1 bt302.2 bt312.1 bt312.2 (bt312.2 != bt302.2) a0_0 a0_1 l0_2 bt306.1 bt306.2.1 bt306.2.2) else (laws_FnExactTileNeighbours.j0 k a1 bt302.1 bt302.2 bt312.1 bt312.2 true a0_0 a0_1 l0_2 bt306.1 bt306.2.1 bt306.2.2))))))))
theorem laws_FnExactTileNeighbours.mono_l : ∀ k, (∀ y0 y1 y2 y3 y4 y5 y6 y7 y8 y9 y10 y11, LeO (laws_FnExactTileNeighbours.j0 k y0 y1 y2 y3 y4 y5 y6 y7 y8 y9 y10 y11) (laws_FnExactTileNeighbours.j0 (k + 1) y0 y1 y2 y3 y4 y5 y6 y7 y8 y9 y10 y11)) ∧ (∀ y0 y1 y2 y3 y4 y5 y6 y7, LeO (laws_FnExactTileNeighbours.j1 k y0 y1 y2 y3 y4 y5 y6 y7) (laws_FnExactTileNeighbours.j1 (k + 1) y0 y1 y2 y3 y4 y5 y6 y7)) ∧ (∀ y0 y1 y2, LeO (laws_FnExactTileNeighbours.j2 k y0 y1 y2) (laws_FnExactTileNeighbours.j2 (k + 1) y0 y1 y2))
  | 0 => ⟨fun _ _ _ _ _ _ _ _ _ _ _ _ r h => by simp [laws_FnExactTileNeighbours.j0] at h, fun _ _ _ _ _ _ _ _ r h => by simp [laws_FnExactTileNeighbours.j1] at h, fun _ _ _ r h => by simp [laws_FnExactTileNeighbours.j2] at h⟩
  | k + 1 => by
    obtain ⟨ih0, ih1, ih2⟩ := laws_FnExactTileNeighbours.mono_l k
    refine ⟨?_, ?_, ?_⟩
    · intro y0 y1 y2 y3 y4 y5 y6 y7 y8 y9 y10 y11
      unfold laws_FnExactTileNeighbours.j0
      repeat' first
      | (with_reducible exact ih0 _ _ _ _ _ _ _ _ _ _ _ _)
      | (with_reducible exact ih1 _ _ _ _ _ _ _ _)
      | (with_reducible exact ih2 _ _ _)
      | (with_reducible exact impl_TileNeighbours.mono _ _ _ _ _)
      | (with_reducible exact laws_eqInt64S.mono _ _ _)
      | (with_reducible exact laws_eqTiling.mono _ _ _ _ _ _ _)
      | (with_reducible exact laws_heldInt64S.mono _ _ _)
      | (with_reducible exact laws_markInt64S.mono _ _ _)
      | (with_reducible exact laws_markTiling.mono _ _ _ _ _)
      | (with_reducible exact laws_toTiling.mono _ _ _ _)
      | (with_reducible exact spec_TileNeighbours.mono _ _ _ _ _)
      | (with_reducible exact LeO.refl _)
      | (with_reducible exact LeO.none _)
      | (with_reducible refine LeO.ite ?_ ?_)
      | (with_reducible refine LeO.bind ?_ (fun _ => ?_))
      | exact ih0 _ _ _ _ _ _ _ _ _ _ _ _
      | exact ih1 _ _ _ _ _ _ _ _
      | exact ih2 _ _ _
      | exact impl_TileNeighbours.mono _ _ _ _ _
      | exact laws_eqInt64S.mono _ _ _
      | exact laws_eqTiling.mono _ _ _ _ _ _ _
      | exact laws_heldInt64S.mono _ _ _
      | exact laws_markInt64S.mono _ _ _
      | exact laws_markTiling.mono _ _ _ _ _
      | exact laws_toTiling.mono _ _ _ _
      | exact spec_TileNeighbours.mono _ _ _ _ _
      | exact LeO.none _
      | refine LeO.ite ?_ ?_
      | refine LeO.bind ?_ (fun _ => ?_)
    · intro y0 y1 y2 y3 y4 y5 y6 y7
      unfold laws_FnExactTileNeighbours.j1
      repeat' first
      | (with_reducible exact ih0 _ _ _ _ _ _ _ _ _ _ _ _)
      | (with_reducible exact ih1 _ _ _ _ _ _ _ _)
      | (with_reducible exact ih2 _ _ _)
      | (with_reducible exact impl_TileNeighbours.mono _ _ _ _ _)
      | (with_reducible exact laws_eqInt64S.mono _ _ _)
      | (with_reducible exact laws_eqTiling.mono _ _ _ _ _ _ _)
      | (with_reducible exact laws_heldInt64S.mono _ _ _)
      | (with_reducible exact laws_markInt64S.mono _ _ _)
      | (with_reducible exact laws_markTiling.mono _ _ _ _ _)
      | (with_reducible exact laws_toTiling.mono _ _ _ _)
      | (with_reducible exact spec_TileNeighbours.mono _ _ _ _ _)
      | (with_reducible exact LeO.refl _)
      | (with_reducible exact LeO.none _)
      | (with_reducible refine LeO.ite ?_ ?_)
      | (with_reducible refine LeO.bind ?_ (fun _ => ?_))
      | exact ih0 _ _ _ _ _ _ _ _ _ _ _ _
      | exact ih1 _ _ _ _ _ _ _ _
      | exact ih2 _ _ _
      | exact impl_TileNeighbours.mono _ _ _ _ _
      | exact laws_eqInt64S.mono _ _ _
      | exact laws_eqTiling.mono _ _ _ _ _ _ _
      | exact laws_heldInt64S.mono _ _ _
      | exact laws_markInt64S.mono _ _ _
      | exact laws_markTiling.mono _ _ _ _ _
      | exact laws_toTiling.mono _ _ _ _
      | exact spec_TileNeighbours.mono _ _ _ _ _
      | exact LeO.none _
      | refine LeO.ite ?_ ?_
      | refine LeO.bind ?_ (fun _ => ?_)
    · intro y0 y1 y2
      unfold laws_FnExactTileNeighbours.j2
      repeat' first
      | (with_reducible exact ih0 _ _ _ _ _ _ _ _ _ _ _ _)
      | (with_reducible exact ih1 _ _ _ _ _ _ _ _)
      | (with_reducible exact ih2 _ _ _)
      | (with_reducible exact impl_TileNeighbours.mono _ _ _ _ _)
      | (with_reducible exact laws_eqInt64S.mono _ _ _)
      | (with_reducible exact laws_eqTiling.mono _ _ _ _ _ _ _)
      | (with_reducible exact laws_heldInt64S.mono _ _ _)
      | (with_reducible exact laws_markInt64S.mono _ _ _)
      | (with_reducible exact laws_markTiling.mono _ _ _ _ _)
      | (with_reducible exact laws_toTiling.mono _ _ _ _)
      | (with_reducible exact spec_TileNeighbours.mono _ _ _ _ _)
      | (with_reducible exact LeO.refl _)
      | (with_reducible exact LeO.none _)
      | (with_reducible refine LeO.ite ?_ ?_)
      | (with_reducible refine LeO.bind ?_ (fun _ => ?_))
      | exact ih0 _ _ _ _ _ _ _ _ _ _ _ _
      | exact ih1 _ _ _ _ _ _ _ _
      | exact ih2 _ _ _
      | exact impl_TileNeighbours.mono _ _ _ _ _
      | exact laws_eqInt64S.mono _ _ _
      | exact laws_eqTiling.mono _ _ _ _ _ _ _
      | exact laws_heldInt64S.mono _ _ _
      | exact laws_markInt64S.mono _ _ _
      | exact laws_markTiling.mono _ _ _ _ _
      | exact laws_toTiling.mono _ _ _ _
      | exact spec_TileNeighbours.mono _ _ _ _ _
      | exact LeO.none _
      | refine LeO.ite ?_ ?_
      | refine LeO.bind ?_ (fun _ => ?_)
theorem laws_FnExactTileNeighbours.mono : ∀ a0 a1 a2 a3 k, LeO (laws_FnExactTileNeighbours.f k a0 a1 a2 a3) (laws_FnExactTileNeighbours.f (k + 1) a0 a1 a2 a3) := by
  intro a0 a1 a2 a3 k
  obtain ⟨ih0, ih1, ih2⟩ := laws_FnExactTileNeighbours.mono_l k
  unfold laws_FnExactTileNeighbours.f
  repeat' first
      | (with_reducible exact ih0 _ _ _ _ _ _ _ _ _ _ _ _)
      | (with_reducible exact ih1 _ _ _ _ _ _ _ _)
      | (with_reducible exact ih2 _ _ _)
      | (with_reducible exact impl_TileNeighbours.mono _ _ _ _ _)
      | (with_reducible exact laws_eqInt64S.mono _ _ _)
      | (with_reducible exact laws_eqTiling.mono _ _ _ _ _ _ _)
      | (with_reducible exact laws_heldInt64S.mono _ _ _)
      | (with_reducible exact laws_markInt64S.mono _ _ _)
      | (with_reducible exact laws_markTiling.mono _ _ _ _ _)
      | (with_reducible exact laws_toTiling.mono _ _ _ _)
      | (with_reducible exact spec_TileNeighbours.mono _ _ _ _ _)
      | (with_reducible exact LeO.refl _)
      | (with_reducible exact LeO.none _)
      | (with_reducible refine LeO.ite ?_ ?_)
      | (with_reducible refine LeO.bind ?_ (fun _ => ?_))
      | exact ih0 _ _ _ _ _ _ _ _ _ _ _ _
      | exact ih1 _ _ _ _ _ _ _ _
      | exact ih2 _ _ _
      | exact impl_TileNeighbours.mono _ _ _ _ _
      | exact laws_eqInt64S.mono _ _ _
      | exact laws_eqTiling.mono _ _ _ _ _ _ _
      | exact laws_heldInt64S.mono _ _ _
      | exact laws_markInt64S.mono _ _ _
      | exact laws_markTiling.mono _ _ _ _ _
      | exact laws_toTiling.mono _ _ _ _
      | exact spec_TileNeighbours.mono _ _ _ _ _
      | exact LeO.none _
      | refine LeO.ite ?_ ?_
      | refine LeO.bind ?_ (fun _ => ?_)
open List renaming setIfInBounds_toArray → sA, set_cons_zero → sB, set_cons_succ → sC
open Go.Proofs.YtopopjkoanpjiaaW.PrintWords.Aside0 renaming mk → mkA
open Go.Proofs.YtopopjkoanpjiaaX (dt_ bc_ p0_ p1_ bl_ cb_ bs0_ bs1_ bs2_ bs3_ bs4_ bs5_ bs6_ bs7_ bs8_ bs9_ bs10_ bs11_ bs12_)
set_option maxHeartbeats 8000000 in
set_option maxRecDepth 100000 in
theorem laws_FnExactTileNeighbours.calls (k : Nat) (a0_0 : Int) (a0_1 : Int) (A0_2 : Option Addr) (c0_2 : Nat) (l0_2 : List Int) (a1 : Int) (r : Bool) (w : World) (hr0_2 : Kd.C (Kd.int .i64) w A0_2 l0_2.length l0_2) (hc0_2 : l0_2.length ≤ c0_2) (h : laws_FnExactTileNeighbours.f k a0_0 a0_1 l0_2 a1 = some r) :
 Calls Try.prog 3 #[.agg #[.int .i64 a0_0, .int .i64 a0_1, .slice A0_2 l0_2.length c0_2], .int .i64 a1] w fun e w' => e = .returned (.bool r) ∧ Below w.heap.size w w' := by
 have hu24 := Try.underlying24
 have hu28 := Try.underlying28
 have HR0_2 := mkA hr0_2
 have HC0_2 := mkA hc0_2
 clear hr0_2 hc0_2
 have HB := mkA (Below.refl w.heap.size w)
 have H : ((laws_szTiling.f a0_0 a0_1 l0_2 1048576).bind fun t296 => (if t296 < 0 then (some true) else ((laws_toTiling.f k a0_0 a0_1 l0_2).bind fun bt297 => ((spec_TileNeighbours.f k bt297.1 bt297.2.1 bt297.2.2 a1).bind fun bt302 => ((laws_toTiling.f k a0_0 a0_1 l0_2).bind fun bt306 => ((impl_TileNeighbours.f k bt306.1 bt306.2.1 bt306.2.2 a1).bind fun bt312 => ((laws_eqInt64S.f k bt312.1 bt302.1).bind fun t316 => (if t316 = true then (laws_FnExactTileNeighbours.j0 k a1 bt302.1 bt302.2 bt312.1 bt312.2 (bt312.2 != bt302.2) a0_0 a0_1 l0_2 bt306.1 bt306.2.1 bt306.2.2) else (laws_FnExactTileNeighbours.j0 k a1 bt302.1 bt302.2 bt312.1 bt312.2 true a0_0 a0_1 l0_2 bt306.1 bt306.2.1 bt306.2.2))))))))) = some r := h
 clear h
 replace H := Option.bind_eq_some_iff.mp H
 obtain ⟨t296, A30, H⟩ := H
 replace H : (if t296 < 0 then (some true) else ((laws_toTiling.f k a0_0 a0_1 l0_2).bind fun bt297 => ((spec_TileNeighbours.f k bt297.1 bt297.2.1 bt297.2.2 a1).bind fun bt302 => ((laws_toTiling.f k a0_0 a0_1 l0_2).bind fun bt306 => ((impl_TileNeighbours.f k bt306.1 bt306.2.1 bt306.2.2 a1).bind fun bt312 => ((laws_eqInt64S.f k bt312.1 bt302.1).bind fun t316 => (if t316 = true then (laws_FnExactTileNeighbours.j0 k a1 bt302.1 bt302.2 bt312.1 bt312.2 (bt312.2 != bt302.2) a0_0 a0_1 l0_2 bt306.1 bt306.2.1 bt306.2.2) else (laws_FnExactTileNeighbours.j0 k a1 bt302.1 bt302.2 bt312.1 bt312.2 true a0_0 a0_1 l0_2 bt306.1 bt306.2.1 bt306.2.2)))))))) = some r := H
 have A3 := mkA A30
 clear A30
 by_cases c4 : t296 < 0
 · rw [if_pos c4] at H
   have c4b0 : decide (t296 < 0) = true := decide_eq_true c4
   clear c4
   obtain rfl := Option.some.inj H
   go_enter Try.func3, Try.ntmps3
   go_wp2_with (first | ((with_reducible refine gate_dst (N := 2) rfl ?_); refine box_event ?hg (N := 2) ?hd (cs := #[.int .i64 a0_0, .int .i64 a0_1, .slice A0_2 l0_2.length c0_2]) (t := 24) ?hr ?_; (case hd => rfl); (case hg => rfl); (case hr => first | (go_simp; done) | (go_simp; rfl)); intro gb295 hg w5 hbox hb; have n0_ := mkA (below_step (bs0_ HB.out) hb); have n1_ := mkA (hbox); have n2_ := mkA ((by rw [hg]; exact (below_size (bs0_ HB.out)) : w.heap.size ≤ gb295)); have n3_ := mkA ((by rw [hg]; exact (below_size (bs0_ HB.out)) : w.heap.size ≤ gb295)); clear HB; have HB := n0_; have BK295 := n1_; have GW295 := n2_; have GE295 := n3_; clear n0_ n1_ n2_ n3_; clear hb hbox hg; have hcz6_0 : w5.cell? ⟨gb295, 0, none⟩ = some (.int .i64 a0_0) := (blk_cell BK295.out 0).trans rfl; have hcz6_1 : w5.cell? ⟨gb295, 1, none⟩ = some (.int .i64 a0_1) := (blk_cell BK295.out 1).trans rfl; have hcz6_2 : w5.cell? ⟨gb295, 2, none⟩ = some (.slice A0_2 l0_2.length c0_2) := (blk_cell BK295.out 2).trans rfl; have hfz6_0 := blk_frozen BK295.out 0; have hfz6_1 := blk_frozen BK295.out 1; have hfz6_2 := blk_frozen BK295.out 2) | ((with_reducible refine gate_callee (f := 4) rfl ?_); refine goesL_ (some 18) rfl rfl Try.func4 (by kernel_rfl) rfl #[.agg #[.int .i64 a0_0, .int .i64 a0_1, .slice A0_2 l0_2.length c0_2], .int .i64 1048576] rfl (by (try simp only [List.map_toArray, List.map_cons, List.map_nil]); first | done | rfl | (simp only [List.length_drop, List.length_take]; rfl)) ?_; (with_reducible refine (laws_szTiling.calls a0_0 a0_1 _ _ l0_2 1048576 t296 _ ?side1 ?side2 A3.out).mono ?_); (case side1 => exact cb_ HR0_2.out HB.out); (case side2 => exact HC0_2.out); rintro e w7 ⟨rfl, hb⟩; refine ⟨_, rfl, ?_⟩; have n0_ := mkA (blk_below (g := gb295) (o := .cells #[.int .i64 a0_0, .int .i64 a0_1, .slice A0_2 l0_2.length c0_2] 24 (0, 0)) (bl_ BK295.out) hb); have n1_ := mkA (below_step (bs1_ HB.out GE295.out) hb); clear BK295; clear HB; have BK295 := n0_; have HB := n1_; clear n0_ n1_; (try clear hb); (try clear hb2); (try clear hk); (try clear hi)))
   go_ret
   exact ⟨by first | rfl | (simp [errW_none, errW_some] <;> rfl) | (simp [*, errW_none, errW_some] <;> rfl), by repeat (first | (with_reducible first | exact HB.out | apply below_alloc | apply pw_below_drewN | apply below_drew1 | refine below_set ?_ GE295.out) | exact HB.out)⟩
 · rw [if_neg c4] at H
   have c4b0 : decide (t296 < 0) = false := decide_eq_false c4
   clear c4
   replace H := Option.bind_eq_some_iff.mp H
   obtain ⟨⟨t297, t298, t299⟩, A80, H⟩ := H
   replace H : ((spec_TileNeighbours.f k t297 t298 t299 a1).bind fun bt302 => ((laws_toTiling.f k a0_0 a0_1 l0_2).bind fun bt306 => ((impl_TileNeighbours.f k bt306.1 bt306.2.1 bt306.2.2 a1).bind fun bt312 => ((laws_eqInt64S.f k bt312.1 bt302.1).bind fun t316 => (if t316 = true then (laws_FnExactTileNeighbours.j0 k a1 bt302.1 bt302.2 bt312.1 bt312.2 (bt312.2 != bt302.2) a0_0 a0_1 l0_2 bt306.1 bt306.2.1 bt306.2.2) else (laws_FnExactTileNeighbours.j0 k a1 bt302.1 bt302.2 bt312.1 bt312.2 true a0_0 a0_1 l0_2 bt306.1 bt306.2.1 bt306.2.2)))))) = some r := H
   have A8 := mkA A80
   clear A80
   replace H := Option.bind_eq_some_iff.mp H
   obtain ⟨⟨t302, t305⟩, A90, H⟩ := H
   replace H : ((laws_toTiling.f k a0_0 a0_1 l0_2).bind fun bt306 => ((impl_TileNeighbours.f k bt306.1 bt306.2.1 bt306.2.2 a1).bind fun bt312 => ((laws_eqInt64S.f k bt312.1 t302).bind fun t316 => (if t316 = true then (laws_FnExactTileNeighbours.j0 k a1 t302 t305 bt312.1 bt312.2 (bt312.2 != t305) a0_0 a0_1 l0_2 bt306.1 bt306.2.1 bt306.2.2) else (laws_FnExactTileNeighbours.j0 k a1 t302 t305 bt312.1 bt312.2 true a0_0 a0_1 l0_2 bt306.1 bt306.2.1 bt306.2.2))))) = some r := H
   have A9 := mkA A90
   clear A90
   replace H := Option.bind_eq_some_iff.mp H
   obtain ⟨⟨t306, t307, t308⟩, A100, H⟩ := H
   replace H : ((impl_TileNeighbours.f k t306 t307 t308 a1).bind fun bt312 => ((laws_eqInt64S.f k bt312.1 t302).bind fun t316 => (if t316 = true then (laws_FnExactTileNeighbours.j0 k a1 t302 t305 bt312.1 bt312.2 (bt312.2 != t305) a0_0 a0_1 l0_2 t306 t307 t308) else (laws_FnExactTileNeighbours.j0 k a1 t302 t305 bt312.1 bt312.2 true a0_0 a0_1 l0_2 t306 t307 t308)))) = some r := H
   have A10 := mkA A100
   clear A100
   replace H := Option.bind_eq_some_iff.mp H
   obtain ⟨⟨t312, t315⟩, A110, H⟩ := H
   replace H : ((laws_eqInt64S.f k t312 t302).bind fun t316 => (if t316 = true then (laws_FnExactTileNeighbours.j0 k a1 t302 t305 t312 t315 (t315 != t305) a0_0 a0_1 l0_2 t306 t307 t308) else (laws_FnExactTileNeighbours.j0 k a1 t302 t305 t312 t315 true a0_0 a0_1 l0_2 t306 t307 t308))) = some r := H
   have A11 := mkA A110
   clear A110
   have HC12 := mkA H
   clear H
   go_enter Try.func3, Try.ntmps3
   go_upto_region 8 with (first | ((with_reducible refine gate_dst (N := 2) rfl ?_); refine box_event ?hg (N := 2) ?hd (cs := #[.int .i64 a0_0, .int .i64 a0_1, .slice A0_2 l0_2.length c0_2]) (t := 24) ?hr ?_; (case hd => rfl); (case hg => rfl); (case hr => first | (go_simp; done) | (go_simp; rfl)); intro gb295 hg w13 hbox hb; have n0_ := mkA (below_step (bs0_ HB.out) hb); have n1_ := mkA (hbox); have n2_ := mkA ((by rw [hg]; exact (below_size (bs0_ HB.out)) : w.heap.size ≤ gb295)); have n3_ := mkA ((by rw [hg]; exact (below_size (bs0_ HB.out)) : w.heap.size ≤ gb295)); clear HB; have HB := n0_; have BK295 := n1_; have GW295 := n2_; have GE295 := n3_; clear n0_ n1_ n2_ n3_; clear hb hbox hg; have hcz14_0 : w13.cell? ⟨gb295, 0, none⟩ = some (.int .i64 a0_0) := (blk_cell BK295.out 0).trans rfl; have hcz14_1 : w13.cell? ⟨gb295, 1, none⟩ = some (.int .i64 a0_1) := (blk_cell BK295.out 1).trans rfl; have hcz14_2 : w13.cell? ⟨gb295, 2, none⟩ = some (.slice A0_2 l0_2.length c0_2) := (blk_cell BK295.out 2).trans rfl; have hfz14_0 := blk_frozen BK295.out 0; have hfz14_1 := blk_frozen BK295.out 1; have hfz14_2 := blk_frozen BK295.out 2) | ((with_reducible refine gate_callee (f := 4) rfl ?_); refine goesL_ (some 18) rfl rfl Try.func4 (by kernel_rfl) rfl #[.agg #[.int .i64 a0_0, .int .i64 a0_1, .slice A0_2 l0_2.length c0_2], .int .i64 1048576] rfl (by (try simp only [List.map_toArray, List.map_cons, List.map_nil]); first | done | rfl | (simp only [List.length_drop, List.length_take]; rfl)) ?_; (with_reducible refine (laws_szTiling.calls a0_0 a0_1 _ _ l0_2 1048576 t296 _ ?side1 ?side2 A3.out).mono ?_); (case side1 => exact cb_ HR0_2.out HB.out); (case side2 => exact HC0_2.out); rintro e w15 ⟨rfl, hb⟩; refine ⟨_, rfl, ?_⟩; have n0_ := mkA (blk_below (g := gb295) (o := .cells #[.int .i64 a0_0, .int .i64 a0_1, .slice A0_2 l0_2.length c0_2] 24 (0, 0)) (bl_ BK295.out) hb); have n1_ := mkA (below_step (bs1_ HB.out GE295.out) hb); clear BK295; clear HB; have BK295 := n0_; have HB := n1_; clear n0_ n1_; (try clear hb); (try clear hb2); (try clear hk); (try clear hi); have hcz16_0 : w15.cell? ⟨gb295, 0, none⟩ = some (.int .i64 a0_0) := (blk_cell BK295.out 0).trans rfl; have hcz16_1 : w15.cell? ⟨gb295, 1, none⟩ = some (.int .i64 a0_1) := (blk_cell BK295.out 1).trans rfl; have hcz16_2 : w15.cell? ⟨gb295, 2, none⟩ = some (.slice A0_2 l0_2.length c0_2) := (blk_cell BK295.out 2).trans rfl; have hfz16_0 := blk_frozen BK295.out 0; have hfz16_1 := blk_frozen BK295.out 1; have hfz16_2 := blk_frozen BK295.out 2) | ((with_reducible refine gate_callee (f := 6) rfl ?_); refine goesL_ (some 23) rfl rfl Try.func6 (by kernel_rfl) rfl #[.agg #[.int .i64 a0_0, .int .i64 a0_1, .slice A0_2 l0_2.length c0_2]] rfl (by (try simp only [List.map_toArray, List.map_cons, List.map_nil]); first | done | rfl | (simp only [List.length_drop, List.length_take]; rfl)) ?_; (with_reducible refine (laws_toTiling.calls k a0_0 a0_1 _ _ l0_2 t297 t298 t299 _ ?side1 ?side2 A8.out).mono ?_); (case side1 => exact cb_ HR0_2.out HB.out); (case side2 => exact HC0_2.out); rintro e w17 ⟨v300, rfl, ho0, hb⟩; refine ⟨_, rfl, ?_⟩; have n0_ := mkA (Kd.R_lower ho0 (below_size (bs1_ HB.out GE295.out))); have n1_ := mkA (blk_below (g := gb295) (o := .cells #[.int .i64 a0_0, .int .i64 a0_1, .slice A0_2 l0_2.length c0_2] 24 (0, 0)) (bl_ BK295.out) hb); have n2_ := mkA (below_step (bs1_ HB.out GE295.out) hb); clear BK295; clear HB; have HO301 := n0_; have BK295 := n1_; have HB := n2_; clear n0_ n1_ n2_; (try clear hb); (try clear hb2); (try clear hk); (try clear hi); (try clear ho0); obtain ⟨Ao18, co18, eo18⟩ := Kd.R_slice HO301.out; subst eo18) | ((with_reducible refine gate_callee (f := 5) rfl ?_); refine goesL_ (some 25) rfl rfl Try.func5 (by kernel_rfl) rfl #[.agg #[.int .i64 t297, .int .i64 t298, .slice Ao18 t299.length co18], .int .i64 a1] rfl (by (try simp only [List.map_toArray, List.map_cons, List.map_nil]); first | done | rfl | (simp only [List.length_drop, List.length_take]; rfl)) ?_; (with_reducible refine (spec_TileNeighbours.calls k t297 t298 _ _ t299 a1 t302 t305 _ ?side1 ?side2 A9.out).mono ?_); (case side1 => repeat (first | exact (Kd.R_reads' HO301.out).2.2 | (with_reducible refine Kd.C_alloc ?_ _) | (with_reducible refine Kd.C_drewN ?_ _) | (with_reducible refine Kd.C_drew ?_))); (case side2 => exact (Kd.R_reads' HO301.out).2.1); rintro e w19 ⟨v303, rfl, ho0, hb⟩; refine ⟨_, rfl, ?_⟩; have n0_ := mkA (Kd.R_elder' (by (with_reducible repeat (first | apply Kd.R_alloc | apply Kd.R_drewN | apply Kd.R_drew)); exact HO301.out) (Kd.R_base ho0) hb); have n1_ := mkA (Kd.R_lower (Kd.R_new' ho0 (Kd.R_lt (by (with_reducible repeat (first | apply Kd.R_alloc | apply Kd.R_drewN | apply Kd.R_drew)); exact HO301.out))) (below_size (bs1_ HB.out GE295.out))); have n2_ := mkA (blk_below (g := gb295) (o := .cells #[.int .i64 a0_0, .int .i64 a0_1, .slice A0_2 l0_2.length c0_2] 24 (0, 0)) (bl_ BK295.out) hb); have n3_ := mkA (below_step (bs1_ HB.out GE295.out) hb); clear HO301; clear BK295; clear HB; have HO301 := n0_; have HO304 := n1_; have BK295 := n2_; have HB := n3_; clear n0_ n1_ n2_ n3_; (try clear hb); (try clear hb2); (try clear hk); (try clear hi); (try clear ho0); have hcz20_0 : w19.cell? ⟨gb295, 0, none⟩ = some (.int .i64 a0_0) := (blk_cell BK295.out 0).trans rfl; have hcz20_1 : w19.cell? ⟨gb295, 1, none⟩ = some (.int .i64 a0_1) := (blk_cell BK295.out 1).trans rfl; have hcz20_2 : w19.cell? ⟨gb295, 2, none⟩ = some (.slice A0_2 l0_2.length c0_2) := (blk_cell BK295.out 2).trans rfl; have hfz20_0 := blk_frozen BK295.out 0; have hfz20_1 := blk_frozen BK295.out 1; have hfz20_2 := blk_frozen BK295.out 2) | ((with_reducible refine gate_callee (f := 6) rfl ?_); refine goesL_ (some 29) rfl rfl Try.func6 (by kernel_rfl) rfl #[.agg #[.int .i64 a0_0, .int .i64 a0_1, .slice A0_2 l0_2.length c0_2]] rfl (by (try simp only [List.map_toArray, List.map_cons, List.map_nil]); first | done | rfl | (simp only [List.length_drop, List.length_take]; rfl)) ?_; (with_reducible refine (laws_toTiling.calls k a0_0 a0_1 _ _ l0_2 t306 t307 t308 _ ?side1 ?side2 A10.out).mono ?_); (case side1 => exact cb_ HR0_2.out HB.out); (case side2 => exact HC0_2.out); rintro e w21 ⟨v309, rfl, ho0, hb⟩; refine ⟨_, rfl, ?_⟩; have n0_ := mkA (Kd.R_elder' (by (with_reducible repeat (first | apply Kd.R_alloc | apply Kd.R_drewN | apply Kd.R_drew)); exact HO301.out) (Kd.R_base ho0) hb); have n1_ := mkA (Kd.R_elder' (by (with_reducible repeat (first | apply Kd.R_alloc | apply Kd.R_drewN | apply Kd.R_drew)); exact HO304.out) (Kd.R_base ho0) hb); have n2_ := mkA (Kd.R_lower (Kd.R_new' (Kd.R_new' ho0 (Kd.R_lt (by (with_reducible repeat (first | apply Kd.R_alloc | apply Kd.R_drewN | apply Kd.R_drew)); exact HO301.out))) (Kd.R_lt (by (with_reducible repeat (first | apply Kd.R_alloc | apply Kd.R_drewN | apply Kd.R_drew)); exact HO304.out))) (below_size (bs1_ HB.out GE295.out))); have n3_ := mkA (blk_below (g := gb295) (o := .cells #[.int .i64 a0_0, .int .i64 a0_1, .slice A0_2 l0_2.length c0_2] 24 (0, 0)) (bl_ BK295.out) hb); have n4_ := mkA (below_step (bs1_ HB.out GE295.out) hb); clear HO301; clear HO304; clear BK295; clear HB; have HO301 := n0_; have HO304 := n1_; have HO310 := n2_; have BK295 := n3_; have HB := n4_; clear n0_ n1_ n2_ n3_ n4_; (try clear hb); (try clear hb2); (try clear hk); (try clear hi); (try clear ho0)) | ((with_reducible refine gate_dst (N := 8) rfl ?_); refine box_event ?hg (N := 8) ?hd (cs := #[.int .i64 0, .int .i64 0, .slice none 0 0]) (t := 28) ?hr ?_; (case hd => rfl); (case hg => rfl); (case hr => first | (go_simp; done) | (go_simp; rfl)); intro gb311 hg w22 hbox hb; have n0_ := mkA (Kd.R_below (by (with_reducible repeat (first | apply Kd.R_alloc | apply Kd.R_drewN | apply Kd.R_drew)); exact HO301.out) hb); have n1_ := mkA (Kd.R_below (by (with_reducible repeat (first | apply Kd.R_alloc | apply Kd.R_drewN | apply Kd.R_drew)); exact HO304.out) hb); have n2_ := mkA (Kd.R_below (by (with_reducible repeat (first | apply Kd.R_alloc | apply Kd.R_drewN | apply Kd.R_drew)); exact HO310.out) hb); have n3_ := mkA (blk_below (g := gb295) (o := .cells #[.int .i64 a0_0, .int .i64 a0_1, .slice A0_2 l0_2.length c0_2] 24 (0, 0)) (bl_ BK295.out) hb); have n4_ := mkA (below_step (bs1_ HB.out GE295.out) hb); have n5_ := mkA (hbox); have n6_ := mkA ((by rw [hg]; exact (below_size (bs1_ HB.out GE295.out)) : w.heap.size ≤ gb311)); have n7_ := mkA ((by rw [hg]; exact (below_size (bs1_ HB.out GE295.out)) : w.heap.size ≤ gb311)); have n8_ := mkA ((by rw [hg]; exact Nat.ne_of_lt (blk_lt (g := gb295) (o := .cells #[.int .i64 a0_0, .int .i64 a0_1, .slice A0_2 l0_2.length c0_2] 24 (0, 0)) (bl_ BK295.out)) : gb295 ≠ gb311)); have n9_ := mkA ((by rw [hg]; exact Nat.ne_of_gt (blk_lt (g := gb295) (o := .cells #[.int .i64 a0_0, .int .i64 a0_1, .slice A0_2 l0_2.length c0_2] 24 (0, 0)) (bl_ BK295.out)) : gb311 ≠ gb295)); clear HO301; clear HO304; clear HO310; clear BK295; clear HB; have HO301 := n0_; have HO304 := n1_; have HO310 := n2_; have BK295 := n3_; have HB := n4_; have BK311 := n5_; have GW311 := n6_; have GE311 := n7_; have NB295_311 := n8_; have NB311_295 := n9_; clear n0_ n1_ n2_ n3_ n4_ n5_ n6_ n7_ n8_ n9_; clear hb hbox hg; have hnb23 := NB311_295.out; have hnc23 := NB295_311.out; have hcz24_0 : w22.cell? ⟨gb311, 0, none⟩ = some (.int .i64 0) := (blk_cell BK311.out 0).trans rfl; have hcz24_1 : w22.cell? ⟨gb311, 1, none⟩ = some (.int .i64 0) := (blk_cell BK311.out 1).trans rfl; have hcz24_2 : w22.cell? ⟨gb311, 2, none⟩ = some (.slice none 0 0) := (blk_cell BK311.out 2).trans rfl; have hfz24_0 := blk_frozen BK311.out 0; have hfz24_1 := blk_frozen BK311.out 1; have hfz24_2 := blk_frozen BK311.out 2; obtain ⟨Ao25, co25, eo25⟩ := Kd.R_slice HO310.out; subst eo25) | ((with_reducible refine gate_callee (f := 7) rfl ?_); refine goesL_ (some 33) rfl rfl Try.func7 (by kernel_rfl) rfl #[.agg #[.int .i64 t306, .int .i64 t307, .slice Ao25 t308.length co25], .int .i64 a1] rfl (by (try simp only [List.map_toArray, List.map_cons, List.map_nil]); first | done | rfl | (simp only [List.length_drop, List.length_take]; rfl)) ?_; (with_reducible refine (impl_TileNeighbours.calls k t306 t307 _ _ t308 a1 t312 t315 _ ?side1 ?side2 A11.out).mono ?_); (case side1 => refine (Kd.R_reads' (e := 2) (base := w.heap.size) (ok := fun k_ => ((True ∧ some k_ ≠ (.slice Ao18 t299.length co18 : Value).ownBlock) ∧ some k_ ≠ (v303 : Value).ownBlock)) (n := t308.length) (c := co25) ?_).2.2; exact (by (with_reducible repeat (first | apply Kd.R_alloc | apply Kd.R_drewN | apply Kd.R_drew)); exact (Kd.R_mono (Kd.R_far (p := ⟨gb311, 2, none⟩) (Kd.R_far (p := ⟨gb311, 1, none⟩) (Kd.R_far (p := ⟨gb311, 0, none⟩) (Kd.R_types HO310.out BK311.out (by decide)) (fun _ hk => hk.2) (.int .i64 t306)) (fun _ hk => hk.2) (.int .i64 t307)) (fun _ hk => hk.2) (.slice Ao25 t308.length co25)) (fun _ h_ => h_.1)))); (case side2 => exact (Kd.R_reads' HO310.out).2.1); rintro e w26 ⟨v313, rfl, ho0, hb⟩; refine ⟨_, rfl, ?_⟩; have n0_ := mkA (Kd.R_elder' (by (with_reducible repeat (first | apply Kd.R_alloc | apply Kd.R_drewN | apply Kd.R_drew)); exact (Kd.R_mono (Kd.R_far (p := ⟨gb311, 2, none⟩) (Kd.R_far (p := ⟨gb311, 1, none⟩) (Kd.R_far (p := ⟨gb311, 0, none⟩) (Kd.R_types HO301.out BK311.out (by decide)) (fun _ hk => hk.2) (.int .i64 t306)) (fun _ hk => hk.2) (.int .i64 t307)) (fun _ hk => hk.2) (.slice Ao25 t308.length co25)) (fun _ h_ => h_.1))) (Kd.R_base ho0) hb); have n1_ := mkA (Kd.R_elder' (by (with_reducible repeat (first | apply Kd.R_alloc | apply Kd.R_drewN | apply Kd.R_drew)); exact (Kd.R_mono (Kd.R_far (p := ⟨gb311, 2, none⟩) (Kd.R_far (p := ⟨gb311, 1, none⟩) (Kd.R_far (p := ⟨gb311, 0, none⟩) (Kd.R_types HO304.out BK311.out (by decide)) (fun _ hk => hk.2) (.int .i64 t306)) (fun _ hk => hk.2) (.int .i64 t307)) (fun _ hk => hk.2) (.slice Ao25 t308.length co25)) (fun _ h_ => h_.1))) (Kd.R_base ho0) hb); have n2_ := mkA (Kd.R_elder' (by (with_reducible repeat (first | apply Kd.R_alloc | apply Kd.R_drewN | apply Kd.R_drew)); exact (Kd.R_mono (Kd.R_far (p := ⟨gb311, 2, none⟩) (Kd.R_far (p := ⟨gb311, 1, none⟩) (Kd.R_far (p := ⟨gb311, 0, none⟩) (Kd.R_types HO310.out BK311.out (by decide)) (fun _ hk => hk.2) (.int .i64 t306)) (fun _ hk => hk.2) (.int .i64 t307)) (fun _ hk => hk.2) (.slice Ao25 t308.length co25)) (fun _ h_ => h_.1))) (Kd.R_base ho0) hb); have n3_ := mkA (Kd.R_lower (Kd.R_new' (Kd.R_new' (Kd.R_new' ho0 (Kd.R_lt (by (with_reducible repeat (first | apply Kd.R_alloc | apply Kd.R_drewN | apply Kd.R_drew)); exact (Kd.R_mono (Kd.R_far (p := ⟨gb311, 2, none⟩) (Kd.R_far (p := ⟨gb311, 1, none⟩) (Kd.R_far (p := ⟨gb311, 0, none⟩) (Kd.R_types HO301.out BK311.out (by decide)) (fun _ hk => hk.2) (.int .i64 t306)) (fun _ hk => hk.2) (.int .i64 t307)) (fun _ hk => hk.2) (.slice Ao25 t308.length co25)) (fun _ h_ => h_.1))))) (Kd.R_lt (by (with_reducible repeat (first | apply Kd.R_alloc | apply Kd.R_drewN | apply Kd.R_drew)); exact (Kd.R_mono (Kd.R_far (p := ⟨gb311, 2, none⟩) (Kd.R_far (p := ⟨gb311, 1, none⟩) (Kd.R_far (p := ⟨gb311, 0, none⟩) (Kd.R_types HO304.out BK311.out (by decide)) (fun _ hk => hk.2) (.int .i64 t306)) (fun _ hk => hk.2) (.int .i64 t307)) (fun _ hk => hk.2) (.slice Ao25 t308.length co25)) (fun _ h_ => h_.1))))) (Kd.R_lt (by (with_reducible repeat (first | apply Kd.R_alloc | apply Kd.R_drewN | apply Kd.R_drew)); exact (Kd.R_mono (Kd.R_far (p := ⟨gb311, 2, none⟩) (Kd.R_far (p := ⟨gb311, 1, none⟩) (Kd.R_far (p := ⟨gb311, 0, none⟩) (Kd.R_types HO310.out BK311.out (by decide)) (fun _ hk => hk.2) (.int .i64 t306)) (fun _ hk => hk.2) (.int .i64 t307)) (fun _ hk => hk.2) (.slice Ao25 t308.length co25)) (fun _ h_ => h_.1))))) (below_size (bs2_ HB.out GE295.out GE311.out))); have n4_ := mkA (blk_below (g := gb295) (o := .cells #[.int .i64 a0_0, .int .i64 a0_1, .slice A0_2 l0_2.length c0_2] 24 (0, 0)) (by (with_reducible repeat (first | refine blk_drewN ?_ _ | refine blk_drew ?_ | refine blk_alloc ?_ _)); refine blk_far ?_ NB295_311.out _; (with_reducible repeat (first | refine blk_drewN ?_ _ | refine blk_drew ?_ | refine blk_alloc ?_ _)); refine blk_far ?_ NB295_311.out _; (with_reducible repeat (first | refine blk_drewN ?_ _ | refine blk_drew ?_ | refine blk_alloc ?_ _)); refine blk_far ?_ NB295_311.out _; (with_reducible repeat (first | refine blk_drewN ?_ _ | refine blk_drew ?_ | refine blk_alloc ?_ _)); exact BK295.out) hb); have n5_ := mkA (blk_below (g := gb311) (o := .cells #[.int .i64 t306, .int .i64 t307, .slice Ao25 t308.length co25] 28 (0, 0)) (by (with_reducible repeat (first | refine blk_drewN ?_ _ | refine blk_drew ?_ | refine blk_alloc ?_ _)); refine blk_put (cs := #[.int .i64 t306, .int .i64 t307, .slice none 0 0]) ?_ 2 _ rfl; (with_reducible repeat (first | refine blk_drewN ?_ _ | refine blk_drew ?_ | refine blk_alloc ?_ _)); refine blk_put (cs := #[.int .i64 t306, .int .i64 0, .slice none 0 0]) ?_ 1 _ rfl; (with_reducible repeat (first | refine blk_drewN ?_ _ | refine blk_drew ?_ | refine blk_alloc ?_ _)); refine blk_put (cs := #[.int .i64 0, .int .i64 0, .slice none 0 0]) ?_ 0 _ rfl; (with_reducible repeat (first | refine blk_drewN ?_ _ | refine blk_drew ?_ | refine blk_alloc ?_ _)); exact BK311.out) hb); have n6_ := mkA (below_step (bs2_ HB.out GE295.out GE311.out) hb); clear HO301; clear HO304; clear HO310; clear BK295; clear BK311; clear HB; have HO301 := n0_; have HO304 := n1_; have HO310 := n2_; have HO314 := n3_; have BK295 := n4_; have BK311 := n5_; have HB := n6_; clear n0_ n1_ n2_ n3_ n4_ n5_ n6_; (try clear hb); (try clear hb2); (try clear hk); (try clear hi); (try clear ho0)))
   (try simp only [Act.put, sA, sB, sC])
   go_cut [44] (fun v44 wc => ∃ (kq : Nat) (x44_11 : Bool), v44 = .bool x44_11 ∧ Aside0 (laws_FnExactTileNeighbours.j0 kq a1 t302 t305 t312 t315 x44_11 a0_0 a0_1 l0_2 t306 t307 t308 = some r) ∧ Aside0 (kq ≤ k) ∧ Aside0 (Kd.R (Kd.int .i64) 2 wc w.heap.size (fun k_ => some k_ ≠ (v313 : Value).ownBlock ∧ some k_ ≠ ((.slice Ao25 t308.length co25) : Value).ownBlock) v303 t302) ∧ Aside0 (Kd.R (Kd.int .i64) 2 wc w.heap.size (fun k_ => some k_ ≠ (v303 : Value).ownBlock ∧ some k_ ≠ ((.slice Ao25 t308.length co25) : Value).ownBlock) v313 t312) ∧ Aside0 (Kd.R (Kd.int .i64) 2 wc w.heap.size (fun k_ => some k_ ≠ (v303 : Value).ownBlock ∧ some k_ ≠ (v313 : Value).ownBlock) (.slice Ao25 t308.length co25) t308) ∧ Aside0 (wc.heap[gb295]? = some (.cells #[.int .i64 a0_0, .int .i64 a0_1, (.slice A0_2 l0_2.length c0_2)] 24 (0, 0))) ∧ Aside0 (wc.heap[gb311]? = some (.cells #[.int .i64 t306, .int .i64 t307, (.slice Ao25 t308.length co25)] 28 (0, 0))) ∧ Aside0 (Below w.heap.size w wc))
   case first =>
    have H := HC12.out
    clear HC12
    replace H := Option.bind_eq_some_iff.mp H
    obtain ⟨t316, A270, H⟩ := H
    replace H : (if t316 = true then (laws_FnExactTileNeighbours.j0 k a1 t302 t305 t312 t315 (t315 != t305) a0_0 a0_1 l0_2 t306 t307 t308) else (laws_FnExactTileNeighbours.j0 k a1 t302 t305 t312 t315 true a0_0 a0_1 l0_2 t306 t307 t308)) = some r := H
    have A27 := mkA A270
    clear A270
    by_cases c28 : t316 = true
    · subst c28
      have H1 : (laws_FnExactTileNeighbours.j0 k a1 t302 t305 t312 t315 (t315 != t305) a0_0 a0_1 l0_2 t306 t307 t308) = some r := by rw [if_pos rfl] at H; exact H
      clear H
      have H := H1
      clear H1
      have H' := mkA H
      clear H
      obtain ⟨Ao29, co29, eo29⟩ := Kd.R_slice HO314.out
      subst eo29
      obtain ⟨Ao30, co30, eo30⟩ := Kd.R_slice HO304.out
      subst eo30
      go_wp2_with (first | ((with_reducible refine gate_callee (f := 8) rfl ?_); refine goesL_ (some 38) rfl rfl Try.func8 (by kernel_rfl) rfl #[.slice Ao29 t312.length co29, .slice Ao30 t302.length co30] rfl (by (try simp only [List.map_toArray, List.map_cons, List.map_nil]); first | done | rfl | (simp only [List.length_drop, List.length_take]; rfl)) ?_; (with_reducible refine (laws_eqInt64S.calls k _ _ t312 _ _ t302 true _ ?side1 ?side2 ?side3 ?side4 A27.out).mono ?_); (case side1 => repeat (first | exact (Kd.R_reads' HO314.out).2.2 | (with_reducible refine Kd.C_alloc ?_ _) | (with_reducible refine Kd.C_drewN ?_ _) | (with_reducible refine Kd.C_drew ?_))); (case side2 => exact (Kd.R_reads' HO314.out).2.1); (case side3 => repeat (first | exact (Kd.R_reads' HO304.out).2.2 | (with_reducible refine Kd.C_alloc ?_ _) | (with_reducible refine Kd.C_drewN ?_ _) | (with_reducible refine Kd.C_drew ?_))); (case side4 => exact (Kd.R_reads' HO304.out).2.1); rintro e w' ⟨rfl, ⟨nd, rfl⟩⟩; refine ⟨_, rfl, ?_⟩))
      go_meet
      case rel => exact ⟨_, ((t315 != t305)), (by first | rfl | (simp; done) | (simp [*]; done) | (simp [i64_w, i32_w]; done)), H', ⟨by first | omega | exact Nat.le_refl _⟩, ⟨by (with_reducible repeat (first | apply Kd.R_alloc | apply Kd.R_drewN | apply Kd.R_drew)); exact Kd.R_mono HO304.out (fun _ hk => ⟨hk.2, hk.1.2⟩)⟩, ⟨by (with_reducible repeat (first | apply Kd.R_alloc | apply Kd.R_drewN | apply Kd.R_drew)); exact Kd.R_mono HO314.out (fun _ hk => ⟨hk.1.2, hk.2⟩)⟩, ⟨by (with_reducible repeat (first | apply Kd.R_alloc | apply Kd.R_drewN | apply Kd.R_drew)); exact Kd.R_mono HO310.out (fun _ hk => ⟨hk.1.2, hk.2⟩)⟩, ⟨by (with_reducible repeat (first | refine blk_drewN ?_ _ | refine blk_drew ?_ | refine blk_alloc ?_ _)); exact BK295.out⟩, ⟨by (with_reducible repeat (first | refine blk_drewN ?_ _ | refine blk_drew ?_ | refine blk_alloc ?_ _)); exact BK311.out⟩, ⟨by repeat (first | (with_reducible first | exact HB.out | apply below_alloc | apply pw_below_drewN | apply below_drew1 | refine below_set ?_ GE295.out | refine below_set ?_ GE311.out) | exact HB.out)⟩⟩
    · replace c28 := Bool.eq_false_iff.mpr c28
      subst c28
      have H1 : (laws_FnExactTileNeighbours.j0 k a1 t302 t305 t312 t315 true a0_0 a0_1 l0_2 t306 t307 t308) = some r := by rw [if_neg (show ¬ (false = true) by decide)] at H; exact H
      clear H
      have H := H1
      clear H1
      have H' := mkA H
      clear H
      obtain ⟨Ao31, co31, eo31⟩ := Kd.R_slice HO314.out
      subst eo31
      obtain ⟨Ao32, co32, eo32⟩ := Kd.R_slice HO304.out
      subst eo32
      go_wp2_with (first | ((with_reducible refine gate_callee (f := 8) rfl ?_); refine goesL_ (some 38) rfl rfl Try.func8 (by kernel_rfl) rfl #[.slice Ao31 t312.length co31, .slice Ao32 t302.length co32] rfl (by (try simp only [List.map_toArray, List.map_cons, List.map_nil]); first | done | rfl | (simp only [List.length_drop, List.length_take]; rfl)) ?_; (with_reducible refine (laws_eqInt64S.calls k _ _ t312 _ _ t302 false _ ?side1 ?side2 ?side3 ?side4 A27.out).mono ?_); (case side1 => repeat (first | exact (Kd.R_reads' HO314.out).2.2 | (with_reducible refine Kd.C_alloc ?_ _) | (with_reducible refine Kd.C_drewN ?_ _) | (with_reducible refine Kd.C_drew ?_))); (case side2 => exact (Kd.R_reads' HO314.out).2.1); (case side3 => repeat (first | exact (Kd.R_reads' HO304.out).2.2 | (with_reducible refine Kd.C_alloc ?_ _) | (with_reducible refine Kd.C_drewN ?_ _) | (with_reducible refine Kd.C_drew ?_))); (case side4 => exact (Kd.R_reads' HO304.out).2.1); rintro e w' ⟨rfl, ⟨nd, rfl⟩⟩; refine ⟨_, rfl, ?_⟩))
      go_meet
      case rel => exact ⟨_, (true), (by first | rfl | (simp; done) | (simp [*]; done) | (simp [i64_w, i32_w]; done)), H', ⟨by first | omega | exact Nat.le_refl _⟩, ⟨by (with_reducible repeat (first | apply Kd.R_alloc | apply Kd.R_drewN | apply Kd.R_drew)); exact Kd.R_mono HO304.out (fun _ hk => ⟨hk.2, hk.1.2⟩)⟩, ⟨by (with_reducible repeat (first | apply Kd.R_alloc | apply Kd.R_drewN | apply Kd.R_drew)); exact Kd.R_mono HO314.out (fun _ hk => ⟨hk.1.2, hk.2⟩)⟩, ⟨by (with_reducible repeat (first | apply Kd.R_alloc | apply Kd.R_drewN | apply Kd.R_drew)); exact Kd.R_mono HO310.out (fun _ hk => ⟨hk.1.2, hk.2⟩)⟩, ⟨by (with_reducible repeat (first | refine blk_drewN ?_ _ | refine blk_drew ?_ | refine blk_alloc ?_ _)); exact BK295.out⟩, ⟨by (with_reducible repeat (first | refine blk_drewN ?_ _ | refine blk_drew ?_ | refine blk_alloc ?_ _)); exact BK311.out⟩, ⟨by repeat (first | (with_reducible first | exact HB.out | apply below_alloc | apply pw_below_drewN | apply below_drew1 | refine below_set ?_ GE295.out | refine below_set ?_ GE311.out) | exact HB.out)⟩⟩
   case rest =>
    clear HC12
    try clear c2
    try clear p2
    try clear c3
    try clear c4
    try clear c4b0
    try clear c5
    try clear c6
    try clear c7
    try clear c8
    try clear c23
    try clear c28
    try clear hcz14_0
    try clear hcz14_1
    try clear hcz14_2
    try clear hcz16_0
    try clear hcz16_1
    try clear hcz16_2
    try clear hcz20_0
    try clear hcz20_1
    try clear hcz20_2
    try clear hcz24_0
    try clear hcz24_1
    try clear hcz24_2
    try clear hcz6_0
    try clear hcz6_1
    try clear hcz6_2
    try clear hfz14_0
    try clear hfz14_1
    try clear hfz14_2
    try clear hfz16_0
    try clear hfz16_1
    try clear hfz16_2
    try clear hfz20_0
    try clear hfz20_1
    try clear hfz20_2
    try clear hfz24_0
    try clear hfz24_1
    try clear hfz24_2
    try clear hfz6_0
    try clear hfz6_1
    try clear hfz6_2
    obtain ⟨kq, x44_11, rfl, HA, HJ11, HO_6, HO_9, HO_312002, BK295, BK311, HB⟩ := hcut
    cases kq with
    | zero => exact absurd HA.out (by simp [laws_FnExactTileNeighbours.j0])
    | succ kj11 =>
     have H := HA.out
     clear HA
     simp only [laws_FnExactTileNeighbours.j0] at H
     by_cases c33 : x44_11 = true
     · subst c33
       have H1 : (some false) = some r := by rw [if_pos rfl] at H; exact H
       clear H
       have H := H1
       clear H1
       obtain rfl := Option.some.inj H
       go_wp2
       go_ret
       exact ⟨by first | rfl | (simp [errW_none, errW_some] <;> rfl) | (simp [*, errW_none, errW_some] <;> rfl), by repeat (first | (with_reducible first | exact HB.out | apply below_alloc | apply pw_below_drewN | apply below_drew1 | refine below_set ?_ GE295.out | refine below_set ?_ GE311.out) | exact HB.out)⟩
     · replace c33 := Bool.eq_false_iff.mpr c33
       subst c33
       have H1 : ((laws_toTiling.f kj11 a0_0 a0_1 l0_2).bind fun bt317 => ((laws_eqTiling.f kj11 t306 t307 t308 bt317.1 bt317.2.1 bt317.2.2).bind fun t322 => (if t322 = true then ((laws_markTiling.f kj11 t306 t307 t308 1).bind fun bt323 => (if bt323.1 < 0 then (laws_FnExactTileNeighbours.j1 kj11 a1 t302 t305 t312 true a0_0 a0_1 l0_2) else ((laws_eqInt64S.f kj11 t312 t302).bind fun t325 => (if t325 = true then (laws_FnExactTileNeighbours.j1 kj11 a1 t302 t305 t312 (t315 != t305) a0_0 a0_1 l0_2) else (laws_FnExactTileNeighbours.j1 kj11 a1 t302 t305 t312 true a0_0 a0_1 l0_2))))) else (some false)))) = some r := by rw [if_neg (show ¬ (false = true) by decide)] at H; exact H
       clear H
       have H := H1
       clear H1
       replace H := Option.bind_eq_some_iff.mp H
       obtain ⟨⟨t317, t318, t319⟩, A340, H⟩ := H
       replace H : ((laws_eqTiling.f kj11 t306 t307 t308 t317 t318 t319).bind fun t322 => (if t322 = true then ((laws_markTiling.f kj11 t306 t307 t308 1).bind fun bt323 => (if bt323.1 < 0 then (laws_FnExactTileNeighbours.j1 kj11 a1 t302 t305 t312 true a0_0 a0_1 l0_2) else ((laws_eqInt64S.f kj11 t312 t302).bind fun t325 => (if t325 = true then (laws_FnExactTileNeighbours.j1 kj11 a1 t302 t305 t312 (t315 != t305) a0_0 a0_1 l0_2) else (laws_FnExactTileNeighbours.j1 kj11 a1 t302 t305 t312 true a0_0 a0_1 l0_2))))) else (some false))) = some r := H
       have A34 := mkA A340
       clear A340
       replace H := Option.bind_eq_some_iff.mp H
       obtain ⟨t322, A350, H⟩ := H
       replace H : (if t322 = true then ((laws_markTiling.f kj11 t306 t307 t308 1).bind fun bt323 => (if bt323.1 < 0 then (laws_FnExactTileNeighbours.j1 kj11 a1 t302 t305 t312 true a0_0 a0_1 l0_2) else ((laws_eqInt64S.f kj11 t312 t302).bind fun t325 => (if t325 = true then (laws_FnExactTileNeighbours.j1 kj11 a1 t302 t305 t312 (t315 != t305) a0_0 a0_1 l0_2) else (laws_FnExactTileNeighbours.j1 kj11 a1 t302 t305 t312 true a0_0 a0_1 l0_2))))) else (some false)) = some r := H
       have A35 := mkA A350
       clear A350
       by_cases c36 : t322 = true
       rotate_left
       · replace c36 := Bool.eq_false_iff.mpr c36
         subst c36
         have H1 : (some false) = some r := by rw [if_neg (show ¬ (false = true) by decide)] at H; exact H
         clear H
         have H := H1
         clear H1
         obtain rfl := Option.some.inj H
         try go_wp2
         have n0_ := mkA (Kd.R_drew HO_6.out)
         have n1_ := mkA (Kd.R_drew HO_9.out)
         have n2_ := mkA (Kd.R_drew HO_312002.out)
         have n3_ := mkA (blk_drew BK295.out)
         have n4_ := mkA (blk_drew BK311.out)
         have n5_ := mkA (below_drew1 HB.out)
         clear HO_6
         clear HO_9
         clear HO_312002
         clear BK295
         clear BK311
         clear HB
         have HO_6 := n0_
         have HO_9 := n1_
         have HO_312002 := n2_
         have BK295 := n3_
         have BK311 := n4_
         have HB := n5_
         clear n0_ n1_ n2_ n3_ n4_ n5_
         refine start_ (n := 5) (S := fun w' => w'.cell? ⟨gb311, 0, none⟩ = some (.int .i64 t306) ∧ w'.cell? ⟨gb311, 1, none⟩ = some (.int .i64 t307) ∧ w'.cell? ⟨gb311, 2, none⟩ = some (.slice Ao25 t308.length co25) ∧ w'.cell? ⟨gb295, 0, none⟩ = some (.int .i64 a0_0) ∧ w'.cell? ⟨gb295, 1, none⟩ = some (.int .i64 a0_1) ∧ w'.cell? ⟨gb295, 2, none⟩ = some (.slice A0_2 l0_2.length c0_2)) (ds := []) #[false, false, false, false, false] (by kernel_rfl) rfl rfl ⟨(blk_cell BK311.out 0).trans rfl, (blk_cell BK311.out 1).trans rfl, (blk_cell BK311.out 2).trans rfl, (blk_cell BK295.out 0).trans rfl, (blk_cell BK295.out 1).trans rfl, (blk_cell BK295.out 2).trans rfl⟩ (fun hHeld => ?_)
         generalize wc.drew = w82 at HO_6 HO_9 HO_312002 BK295 BK311 HB hHeld ⊢
         refine take_ (i := 0) (N := some 45) (v := ?_) (a' := ?_) #[true, false, false, false, false] rfl rfl (by kernel_rfl) (fun _ _ _ h => h) (Or.inl ⟨by rfl, ?_⟩) hHeld ?_ ?_
         rotate_left
         · rintro w' ⟨s0, s1, s2, s3, s4, s5⟩
           go_simp
           with_reducible rfl
         rotate_left
         · simp only [Act.put, sA, sB, sC, i64_w, i32_w]
           rfl
         refine take_ (i := 1) (N := some 46) (v := ?_) (a' := ?_) #[true, true, false, false, false] rfl rfl (by kernel_rfl) (fun _ _ _ h => h) (Or.inl ⟨by rfl, ?_⟩) hHeld ?_ ?_
         rotate_left
         · rintro w' ⟨s0, s1, s2, s3, s4, s5⟩
           go_simp
           with_reducible rfl
         rotate_left
         · simp only [Act.put, sA, sB, sC, i64_w, i32_w]
           rfl
         refine one_ (i := 2) (N := some 47) #[true, true, true, false, false] rfl rfl (by kernel_rfl) (by decide) (fun K hK => ?_)
         refine goes_ Try.func6 (by kernel_rfl) rfl #[.agg #[.int .i64 a0_0, .int .i64 a0_1, .slice A0_2 l0_2.length c0_2]] (by rfl) rfl rfl (by (try simp only [List.map_toArray, List.map_cons, List.map_nil]); first | done | rfl | (simp only [List.length_drop, List.length_take]; rfl)) ?_
         with_reducible refine (laws_toTiling.calls kj11 a0_0 a0_1 _ _ l0_2 t317 t318 t319 _ ?side1 ?side2 A34.out).mono ?_
         (case side1 => exact cb_ HR0_2.out HB.out)
         (case side2 => exact HC0_2.out)
         rintro e w83 ⟨v320, rfl, ho0, hb⟩
         refine ⟨_, rfl, ?_⟩
         have n0_ := mkA (Kd.R_elder' (by (with_reducible repeat (first | apply Kd.R_alloc | apply Kd.R_drewN | apply Kd.R_drew)); exact HO_6.out) (Kd.R_base ho0) hb)
         have n1_ := mkA (Kd.R_elder' (by (with_reducible repeat (first | apply Kd.R_alloc | apply Kd.R_drewN | apply Kd.R_drew)); exact HO_9.out) (Kd.R_base ho0) hb)
         have n2_ := mkA (Kd.R_elder' (by (with_reducible repeat (first | apply Kd.R_alloc | apply Kd.R_drewN | apply Kd.R_drew)); exact HO_312002.out) (Kd.R_base ho0) hb)
         have n3_ := mkA (Kd.R_lower (Kd.R_new' (Kd.R_new' (Kd.R_new' ho0 (Kd.R_lt (by (with_reducible repeat (first | apply Kd.R_alloc | apply Kd.R_drewN | apply Kd.R_drew)); exact HO_6.out))) (Kd.R_lt (by (with_reducible repeat (first | apply Kd.R_alloc | apply Kd.R_drewN | apply Kd.R_drew)); exact HO_9.out))) (Kd.R_lt (by (with_reducible repeat (first | apply Kd.R_alloc | apply Kd.R_drewN | apply Kd.R_drew)); exact HO_312002.out))) (below_size (bs2_ HB.out GE295.out GE311.out)))
         have n4_ := mkA (blk_below (g := gb295) (o := .cells #[.int .i64 a0_0, .int .i64 a0_1, .slice A0_2 l0_2.length c0_2] 24 (0, 0)) (bl_ BK295.out) hb)
         have n5_ := mkA (blk_below (g := gb311) (o := .cells #[.int .i64 t306, .int .i64 t307, .slice Ao25 t308.length co25] 28 (0, 0)) (bl_ BK311.out) hb)
         have n6_ := mkA (below_step (bs2_ HB.out GE295.out GE311.out) hb)
         clear HO_6
         clear HO_9
         clear HO_312002
         clear BK295
         clear BK311
         clear HB
         have HO_6 := n0_
         have HO_9 := n1_
         have HO_312002 := n2_
         have HO321 := n3_
         have BK295 := n4_
         have BK311 := n5_
         have HB := n6_
         clear n0_ n1_ n2_ n3_ n4_ n5_ n6_
         (try clear hb)
         (try clear hb2)
         (try clear hk)
         (try clear hi)
         (try clear ho0)
         obtain ⟨Ao84, co84, eo84⟩ := Kd.R_slice HO321.out
         (first | subst eo84 | (injection eo84 with f1_ f2_ f3_; have f4_ := f1_.symm; have f5_ := f3_.symm; clear f1_ f2_ f3_; subst f4_; subst f5_))
         refine hK.out _ _ ⟨(blk_cell BK311.out 0).trans rfl, (blk_cell BK311.out 1).trans rfl, (blk_cell BK311.out 2).trans rfl, (blk_cell BK295.out 0).trans rfl, (blk_cell BK295.out 1).trans rfl, (blk_cell BK295.out 2).trans rfl⟩ (fun hHeld => ?_)
         clear hK K
         refine norm_ (a' := ?_) ?_ ?_
         rotate_left
         · show Act.put _ (some 47) _ = _
           simp only [Act.put, sA, sB, sC, i64_w, i32_w]
           rfl
         refine one_ (i := 3) (N := some 48) #[true, true, true, true, false] rfl rfl (by kernel_rfl) (by decide) (fun K hK => ?_)
         refine goes_ Try.func9 (by kernel_rfl) rfl #[.agg #[.int .i64 t306, .int .i64 t307, .slice Ao25 t308.length co25], .agg #[.int .i64 t317, .int .i64 t318, .slice Ao84 t319.length co84]] (by rfl) rfl rfl (by (try simp only [List.map_toArray, List.map_cons, List.map_nil]); first | done | rfl | (simp only [List.length_drop, List.length_take]; rfl)) ?_
         with_reducible refine (laws_eqTiling.calls kj11 t306 t307 _ _ t308 t317 t318 _ _ t319 false _ ?side1 ?side2 ?side3 ?side4 A35.out).mono ?_
         (case side1 => repeat (first | exact (Kd.R_reads' HO_312002.out).2.2 | (with_reducible refine Kd.C_alloc ?_ _) | (with_reducible refine Kd.C_drewN ?_ _) | (with_reducible refine Kd.C_drew ?_)))
         (case side2 => exact (Kd.R_reads' HO_312002.out).2.1)
         (case side3 => repeat (first | exact (Kd.R_reads' HO321.out).2.2 | (with_reducible refine Kd.C_alloc ?_ _) | (with_reducible refine Kd.C_drewN ?_ _) | (with_reducible refine Kd.C_drew ?_)))
         (case side4 => exact (Kd.R_reads' HO321.out).2.1)
         rintro e w85 ⟨rfl, hb⟩
         refine ⟨_, rfl, ?_⟩
         have n0_ := mkA (Kd.R_below (by (with_reducible repeat (first | apply Kd.R_alloc | apply Kd.R_drewN | apply Kd.R_drew)); exact HO_6.out) hb)
         have n1_ := mkA (Kd.R_below (by (with_reducible repeat (first | apply Kd.R_alloc | apply Kd.R_drewN | apply Kd.R_drew)); exact HO_9.out) hb)
         have n2_ := mkA (Kd.R_below (by (with_reducible repeat (first | apply Kd.R_alloc | apply Kd.R_drewN | apply Kd.R_drew)); exact HO_312002.out) hb)
         have n3_ := mkA (Kd.R_below (by (with_reducible repeat (first | apply Kd.R_alloc | apply Kd.R_drewN | apply Kd.R_drew)); exact HO321.out) hb)
         have n4_ := mkA (blk_below (g := gb295) (o := .cells #[.int .i64 a0_0, .int .i64 a0_1, .slice A0_2 l0_2.length c0_2] 24 (0, 0)) (bl_ BK295.out) hb)
         have n5_ := mkA (blk_below (g := gb311) (o := .cells #[.int .i64 t306, .int .i64 t307, .slice Ao25 t308.length co25] 28 (0, 0)) (bl_ BK311.out) hb)
         have n6_ := mkA (below_step (bs2_ HB.out GE295.out GE311.out) hb)
         clear HO_6
         clear HO_9
         clear HO_312002
         clear HO321
         clear BK295
         clear BK311
         clear HB
         have HO_6 := n0_
         have HO_9 := n1_
         have HO_312002 := n2_
         have HO321 := n3_
         have BK295 := n4_
         have BK311 := n5_
         have HB := n6_
         clear n0_ n1_ n2_ n3_ n4_ n5_ n6_
         (try clear hb)
         (try clear hb2)
         (try clear hk)
         (try clear hi)
         refine hK.out _ _ ⟨(blk_cell BK311.out 0).trans rfl, (blk_cell BK311.out 1).trans rfl, (blk_cell BK311.out 2).trans rfl, (blk_cell BK295.out 0).trans rfl, (blk_cell BK295.out 1).trans rfl, (blk_cell BK295.out 2).trans rfl⟩ (fun hHeld => ?_)
         clear hK K
         refine norm_ (a' := ?_) ?_ ?_
         rotate_left
         · show Act.put _ (some 48) _ = _
           simp only [Act.put, sA, sB, sC, i64_w, i32_w]
           rfl
         refine pure_ (i := 4) (N := some 49) (v := ?_) (a' := ?_) #[true, true, true, true, true] rfl rfl (by kernel_rfl) (fun _ _ _ h => h) (Or.inl ⟨by rfl, ?_⟩) ?_ ?_
         rotate_left
         · intro w'
           go_simp
           with_reducible rfl
         rotate_left
         · simp only [Act.put, sA, sB, sC, i64_w, i32_w]
           rfl
         refine done_ (by kernel_rfl) ?_
         try go_wp2
         go_ret
         exact ⟨by first | rfl | (simp [errW_none, errW_some] <;> rfl) | (simp [*, errW_none, errW_some] <;> rfl), by repeat (first | (with_reducible first | exact HB.out | apply below_alloc | apply pw_below_drewN | apply below_drew1 | refine below_set ?_ GE295.out | refine below_set ?_ GE311.out) | exact HB.out)⟩
       subst c36
       have H1 : ((laws_markTiling.f kj11 t306 t307 t308 1).bind fun bt323 => (if bt323.1 < 0 then (laws_FnExactTileNeighbours.j1 kj11 a1 t302 t305 t312 true a0_0 a0_1 l0_2) else ((laws_eqInt64S.f kj11 t312 t302).bind fun t325 => (if t325 = true then (laws_FnExactTileNeighbours.j1 kj11 a1 t302 t305 t312 (t315 != t305) a0_0 a0_1 l0_2) else (laws_FnExactTileNeighbours.j1 kj11 a1 t302 t305 t312 true a0_0 a0_1 l0_2))))) = some r := by rw [if_pos rfl] at H; exact H
       clear H
       have H := H1
       clear H1
       replace H := Option.bind_eq_some_iff.mp H
       obtain ⟨⟨t323, t324⟩, A370, H⟩ := H
       replace H : (if t323 < 0 then (laws_FnExactTileNeighbours.j1 kj11 a1 t302 t305 t312 true a0_0 a0_1 l0_2) else ((laws_eqInt64S.f kj11 t312 t302).bind fun t325 => (if t325 = true then (laws_FnExactTileNeighbours.j1 kj11 a1 t302 t305 t312 (t315 != t305) a0_0 a0_1 l0_2) else (laws_FnExactTileNeighbours.j1 kj11 a1 t302 t305 t312 true a0_0 a0_1 l0_2)))) = some r := H
       have A37 := mkA A370
       clear A370
       have HC38 := mkA H
       clear H
       try go_wp2
       have n0_ := mkA (Kd.R_drew HO_6.out)
       have n1_ := mkA (Kd.R_drew HO_9.out)
       have n2_ := mkA (Kd.R_drew HO_312002.out)
       have n3_ := mkA (blk_drew BK295.out)
       have n4_ := mkA (blk_drew BK311.out)
       have n5_ := mkA (below_drew1 HB.out)
       clear HO_6
       clear HO_9
       clear HO_312002
       clear BK295
       clear BK311
       clear HB
       have HO_6 := n0_
       have HO_9 := n1_
       have HO_312002 := n2_
       have BK295 := n3_
       have BK311 := n4_
       have HB := n5_
       clear n0_ n1_ n2_ n3_ n4_ n5_
       refine start_ (n := 5) (S := fun w' => w'.cell? ⟨gb311, 0, none⟩ = some (.int .i64 t306) ∧ w'.cell? ⟨gb311, 1, none⟩ = some (.int .i64 t307) ∧ w'.cell? ⟨gb311, 2, none⟩ = some (.slice Ao25 t308.length co25) ∧ w'.cell? ⟨gb295, 0, none⟩ = some (.int .i64 a0_0) ∧ w'.cell? ⟨gb295, 1, none⟩ = some (.int .i64 a0_1) ∧ w'.cell? ⟨gb295, 2, none⟩ = some (.slice A0_2 l0_2.length c0_2)) (ds := []) #[false, false, false, false, false] (by kernel_rfl) rfl rfl ⟨(blk_cell BK311.out 0).trans rfl, (blk_cell BK311.out 1).trans rfl, (blk_cell BK311.out 2).trans rfl, (blk_cell BK295.out 0).trans rfl, (blk_cell BK295.out 1).trans rfl, (blk_cell BK295.out 2).trans rfl⟩ (fun hHeld => ?_)
       generalize wc.drew = w39 at HO_6 HO_9 HO_312002 BK295 BK311 HB hHeld ⊢
       refine take_ (i := 0) (N := some 45) (v := ?_) (a' := ?_) #[true, false, false, false, false] rfl rfl (by kernel_rfl) (fun _ _ _ h => h) (Or.inl ⟨by rfl, ?_⟩) hHeld ?_ ?_
       rotate_left
       · rintro w' ⟨s0, s1, s2, s3, s4, s5⟩
         go_simp
         with_reducible rfl
       rotate_left
       · simp only [Act.put, sA, sB, sC, i64_w, i32_w]
         rfl
       refine take_ (i := 1) (N := some 46) (v := ?_) (a' := ?_) #[true, true, false, false, false] rfl rfl (by kernel_rfl) (fun _ _ _ h => h) (Or.inl ⟨by rfl, ?_⟩) hHeld ?_ ?_
       rotate_left
       · rintro w' ⟨s0, s1, s2, s3, s4, s5⟩
         go_simp
         with_reducible rfl
       rotate_left
       · simp only [Act.put, sA, sB, sC, i64_w, i32_w]
         rfl
       refine one_ (i := 2) (N := some 47) #[true, true, true, false, false] rfl rfl (by kernel_rfl) (by decide) (fun K hK => ?_)
       refine goes_ Try.func6 (by kernel_rfl) rfl #[.agg #[.int .i64 a0_0, .int .i64 a0_1, .slice A0_2 l0_2.length c0_2]] (by rfl) rfl rfl (by (try simp only [List.map_toArray, List.map_cons, List.map_nil]); first | done | rfl | (simp only [List.length_drop, List.length_take]; rfl)) ?_
       with_reducible refine (laws_toTiling.calls kj11 a0_0 a0_1 _ _ l0_2 t317 t318 t319 _ ?side1 ?side2 A34.out).mono ?_
       (case side1 => exact cb_ HR0_2.out HB.out)
       (case side2 => exact HC0_2.out)
       rintro e w40 ⟨v320, rfl, ho0, hb⟩
       refine ⟨_, rfl, ?_⟩
       have n0_ := mkA (Kd.R_elder' (by (with_reducible repeat (first | apply Kd.R_alloc | apply Kd.R_drewN | apply Kd.R_drew)); exact HO_6.out) (Kd.R_base ho0) hb)
       have n1_ := mkA (Kd.R_elder' (by (with_reducible repeat (first | apply Kd.R_alloc | apply Kd.R_drewN | apply Kd.R_drew)); exact HO_9.out) (Kd.R_base ho0) hb)
       have n2_ := mkA (Kd.R_elder' (by (with_reducible repeat (first | apply Kd.R_alloc | apply Kd.R_drewN | apply Kd.R_drew)); exact HO_312002.out) (Kd.R_base ho0) hb)
       have n3_ := mkA (Kd.R_lower (Kd.R_new' (Kd.R_new' (Kd.R_new' ho0 (Kd.R_lt (by (with_reducible repeat (first | apply Kd.R_alloc | apply Kd.R_drewN | apply Kd.R_drew)); exact HO_6.out))) (Kd.R_lt (by (with_reducible repeat (first | apply Kd.R_alloc | apply Kd.R_drewN | apply Kd.R_drew)); exact HO_9.out))) (Kd.R_lt (by (with_reducible repeat (first | apply Kd.R_alloc | apply Kd.R_drewN | apply Kd.R_drew)); exact HO_312002.out))) (below_size (bs2_ HB.out GE295.out GE311.out)))
       have n4_ := mkA (blk_below (g := gb295) (o := .cells #[.int .i64 a0_0, .int .i64 a0_1, .slice A0_2 l0_2.length c0_2] 24 (0, 0)) (bl_ BK295.out) hb)
       have n5_ := mkA (blk_below (g := gb311) (o := .cells #[.int .i64 t306, .int .i64 t307, .slice Ao25 t308.length co25] 28 (0, 0)) (bl_ BK311.out) hb)
       have n6_ := mkA (below_step (bs2_ HB.out GE295.out GE311.out) hb)
       clear HO_6
       clear HO_9
       clear HO_312002
       clear BK295
       clear BK311
       clear HB
       have HO_6 := n0_
       have HO_9 := n1_
       have HO_312002 := n2_
       have HO321 := n3_
       have BK295 := n4_
       have BK311 := n5_
       have HB := n6_
       clear n0_ n1_ n2_ n3_ n4_ n5_ n6_
       (try clear hb)
       (try clear hb2)
       (try clear hk)
       (try clear hi)
       (try clear ho0)
       obtain ⟨Ao41, co41, eo41⟩ := Kd.R_slice HO321.out
       (first | subst eo41 | (injection eo41 with f1_ f2_ f3_; have f4_ := f1_.symm; have f5_ := f3_.symm; clear f1_ f2_ f3_; subst f4_; subst f5_))
       refine hK.out _ _ ⟨(blk_cell BK311.out 0).trans rfl, (blk_cell BK311.out 1).trans rfl, (blk_cell BK311.out 2).trans rfl, (blk_cell BK295.out 0).trans rfl, (blk_cell BK295.out 1).trans rfl, (blk_cell BK295.out 2).trans rfl⟩ (fun hHeld => ?_)
       clear hK K
       refine norm_ (a' := ?_) ?_ ?_
       rotate_left
       · show Act.put _ (some 47) _ = _
         simp only [Act.put, sA, sB, sC, i64_w, i32_w]
         rfl
       refine one_ (i := 3) (N := some 48) #[true, true, true, true, false] rfl rfl (by kernel_rfl) (by decide) (fun K hK => ?_)
       refine goes_ Try.func9 (by kernel_rfl) rfl #[.agg #[.int .i64 t306, .int .i64 t307, .slice Ao25 t308.length co25], .agg #[.int .i64 t317, .int .i64 t318, .slice Ao41 t319.length co41]] (by rfl) rfl rfl (by (try simp only [List.map_toArray, List.map_cons, List.map_nil]); first | done | rfl | (simp only [List.length_drop, List.length_take]; rfl)) ?_
       with_reducible refine (laws_eqTiling.calls kj11 t306 t307 _ _ t308 t317 t318 _ _ t319 true _ ?side1 ?side2 ?side3 ?side4 A35.out).mono ?_
       (case side1 => repeat (first | exact (Kd.R_reads' HO_312002.out).2.2 | (with_reducible refine Kd.C_alloc ?_ _) | (with_reducible refine Kd.C_drewN ?_ _) | (with_reducible refine Kd.C_drew ?_)))
       (case side2 => exact (Kd.R_reads' HO_312002.out).2.1)
       (case side3 => repeat (first | exact (Kd.R_reads' HO321.out).2.2 | (with_reducible refine Kd.C_alloc ?_ _) | (with_reducible refine Kd.C_drewN ?_ _) | (with_reducible refine Kd.C_drew ?_)))
       (case side4 => exact (Kd.R_reads' HO321.out).2.1)
       rintro e w42 ⟨rfl, hb⟩
       refine ⟨_, rfl, ?_⟩
       have n0_ := mkA (Kd.R_below (by (with_reducible repeat (first | apply Kd.R_alloc | apply Kd.R_drewN | apply Kd.R_drew)); exact HO_6.out) hb)
       have n1_ := mkA (Kd.R_below (by (with_reducible repeat (first | apply Kd.R_alloc | apply Kd.R_drewN | apply Kd.R_drew)); exact HO_9.out) hb)
       have n2_ := mkA (Kd.R_below (by (with_reducible repeat (first | apply Kd.R_alloc | apply Kd.R_drewN | apply Kd.R_drew)); exact HO_312002.out) hb)
       have n3_ := mkA (Kd.R_below (by (with_reducible repeat (first | apply Kd.R_alloc | apply Kd.R_drewN | apply Kd.R_drew)); exact HO321.out) hb)
       have n4_ := mkA (blk_below (g := gb295) (o := .cells #[.int .i64 a0_0, .int .i64 a0_1, .slice A0_2 l0_2.length c0_2] 24 (0, 0)) (bl_ BK295.out) hb)
       have n5_ := mkA (blk_below (g := gb311) (o := .cells #[.int .i64 t306, .int .i64 t307, .slice Ao25 t308.length co25] 28 (0, 0)) (bl_ BK311.out) hb)
       have n6_ := mkA (below_step (bs2_ HB.out GE295.out GE311.out) hb)
       clear HO_6
       clear HO_9
       clear HO_312002
       clear HO321
       clear BK295
       clear BK311
       clear HB
       have HO_6 := n0_
       have HO_9 := n1_
       have HO_312002 := n2_
       have HO321 := n3_
       have BK295 := n4_
       have BK311 := n5_
       have HB := n6_
       clear n0_ n1_ n2_ n3_ n4_ n5_ n6_
       (try clear hb)
       (try clear hb2)
       (try clear hk)
       (try clear hi)
       refine hK.out _ _ ⟨(blk_cell BK311.out 0).trans rfl, (blk_cell BK311.out 1).trans rfl, (blk_cell BK311.out 2).trans rfl, (blk_cell BK295.out 0).trans rfl, (blk_cell BK295.out 1).trans rfl, (blk_cell BK295.out 2).trans rfl⟩ (fun hHeld => ?_)
       clear hK K
       refine norm_ (a' := ?_) ?_ ?_
       rotate_left
       · show Act.put _ (some 48) _ = _
         simp only [Act.put, sA, sB, sC, i64_w, i32_w]
         rfl
       refine pure_ (i := 4) (N := some 49) (v := ?_) (a' := ?_) #[true, true, true, true, true] rfl rfl (by kernel_rfl) (fun _ _ _ h => h) (Or.inl ⟨by rfl, ?_⟩) ?_ ?_
       rotate_left
       · intro w'
         go_simp
         with_reducible rfl
       rotate_left
       · simp only [Act.put, sA, sB, sC, i64_w, i32_w]
         rfl
       refine done_ (by kernel_rfl) ?_
       have hnb43 := NB311_295.out
       have hnc43 := NB295_311.out
       have hcz44_0 : w42.cell? ⟨gb311, 0, none⟩ = some (.int .i64 t306) := (blk_cell BK311.out 0).trans rfl
       have hcz44_1 : w42.cell? ⟨gb311, 1, none⟩ = some (.int .i64 t307) := (blk_cell BK311.out 1).trans rfl
       have hcz44_2 : w42.cell? ⟨gb311, 2, none⟩ = some (.slice Ao25 t308.length co25) := (blk_cell BK311.out 2).trans rfl
       have hfz44_0 := blk_frozen BK311.out 0
       have hfz44_1 := blk_frozen BK311.out 1
       have hfz44_2 := blk_frozen BK311.out 2
       go_upto_region 14 with (first | ((with_reducible refine gate_callee (f := 10) rfl ?_); refine goesL_ (some 52) rfl rfl Try.func10 (by kernel_rfl) rfl #[.agg #[.int .i64 t306, .int .i64 t307, .slice Ao25 t308.length co25], .int .i64 1] rfl (by (try simp only [List.map_toArray, List.map_cons, List.map_nil]); first | done | rfl | (simp only [List.length_drop, List.length_take]; rfl)) ?_; (with_reducible refine (laws_markTiling.calls kj11 t306 t307 (fun k_ => some k_ = (.slice Ao25 t308.length co25 : Value).ownBlock) (.slice Ao25 t308.length co25) t308 1 t323 t324 w _ ?side1 ?side2 A37.out).mono ?_); (case side1 => repeat (first | (with_reducible first | exact HB.out | apply below_alloc | apply pw_below_drewN | apply below_drew1 | refine below_set ?_ GE295.out | refine below_set ?_ GE311.out) | exact HB.out)); (case side2 => exact Kd.R_tight rfl HO_312002.out); rintro e w45 ⟨rfl, hy0, hb, hkp⟩; refine ⟨_, rfl, ?_⟩; have n0_ := mkA (Kd.R_mono (ok' := fun k_ => some k_ ≠ (v313 : Value).ownBlock ∧ some k_ ≠ (.slice Ao25 t308.length co25 : Value).ownBlock ∧ some k_ ≠ (.slice Ao41 t319.length co41 : Value).ownBlock) (Kd.R_keptB (HO_6.out) hkp (fun k_ hk_ hs_ => (hk_.1.2) hs_)) (fun k_ hk_ => ⟨hk_.1.1.1, hk_.1.1.2, hk_.1.2⟩)); have n1_ := mkA (Kd.R_mono (ok' := fun k_ => some k_ ≠ (v303 : Value).ownBlock ∧ some k_ ≠ (.slice Ao25 t308.length co25 : Value).ownBlock ∧ some k_ ≠ (.slice Ao41 t319.length co41 : Value).ownBlock) (Kd.R_keptB (HO_9.out) hkp (fun k_ hk_ hs_ => (hk_.1.2) hs_)) (fun k_ hk_ => ⟨hk_.1.1.1, hk_.1.1.2, hk_.1.2⟩)); have n2_ := mkA (Kd.R_reok rfl hy0 (fun k_ e_ => HO_312002.out.1 k_ e_)); have n3_ := mkA (blk_kept (bl_ BK295.out) hkp (fun hs_ => (fun e_ => (Kd.R_ne HO_312002.out BK295.out (by decide)) e_) hs_)); have n4_ := mkA (blk_kept (bl_ BK311.out) hkp (fun hs_ => (fun e_ => (Kd.R_ne HO_312002.out BK311.out (by decide)) e_) hs_)); have n5_ := mkA (Kd.R_mono (ok' := fun k_ => some k_ ≠ (v303 : Value).ownBlock ∧ some k_ ≠ (v313 : Value).ownBlock ∧ some k_ ≠ (.slice Ao25 t308.length co25 : Value).ownBlock) (Kd.R_keptB (HO321.out) hkp (fun k_ hk_ hs_ => (hk_.2) hs_)) (fun k_ hk_ => ⟨hk_.1.1.1.2, hk_.1.1.2, hk_.1.2⟩)); have n6_ := mkA (hb); clear HO_6; clear HO_9; clear HO_312002; clear BK295; clear BK311; clear HO321; clear HB; have HO_6 := n0_; have HO_9 := n1_; have HO_312002 := n2_; have BK295 := n3_; have BK311 := n4_; have HO321 := n5_; have HB := n6_; clear n0_ n1_ n2_ n3_ n4_ n5_ n6_; (try clear hb); (try clear hkp); (try clear hy0)))
       (try simp only [Act.put, sA, sB, sC])
       go_cut [65] (fun v65 wc => ∃ (kq : Nat) (x65_37 : Bool), v65 = .bool x65_37 ∧ Aside0 (laws_FnExactTileNeighbours.j1 kq a1 t302 t305 t312 x65_37 a0_0 a0_1 l0_2 = some r) ∧ Aside0 (kq ≤ kj11) ∧ Aside0 (Kd.R (Kd.int .i64) 2 wc w.heap.size (fun k_ => some k_ ≠ (v313 : Value).ownBlock ∧ some k_ ≠ ((.slice Ao25 t308.length co25) : Value).ownBlock) v303 t302) ∧ Aside0 (Kd.R (Kd.int .i64) 2 wc w.heap.size (fun k_ => some k_ ≠ (v303 : Value).ownBlock ∧ some k_ ≠ ((.slice Ao25 t308.length co25) : Value).ownBlock) v313 t312) ∧ Aside0 (Kd.R (Kd.int .i64) 2 wc w.heap.size (fun k_ => some k_ ≠ (v303 : Value).ownBlock ∧ some k_ ≠ (v313 : Value).ownBlock) (.slice Ao25 t308.length co25) t324) ∧ Aside0 (wc.heap[gb295]? = some (.cells #[.int .i64 a0_0, .int .i64 a0_1, (.slice A0_2 l0_2.length c0_2)] 24 (0, 0))) ∧ Aside0 (wc.heap[gb311]? = some (.cells #[.int .i64 t306, .int .i64 t307, (.slice Ao25 t308.length co25)] 28 (0, 0))) ∧ Aside0 (Below w.heap.size w wc))
       case first =>
        have H := HC38.out
        clear HC38
        by_cases c46 : t323 < 0
        · rw [if_pos c46] at H
          have c46b0 : decide (t323 < 0) = true := decide_eq_true c46
          clear c46
          (first | rw [c46b0] | (simp only [i64_w, i32_w]; rw [c46b0]) | skip)
          have H' := mkA H
          clear H
          go_wp2
          go_meet
          case rel => exact ⟨_, (true), (by first | rfl | (simp; done) | (simp [*]; done) | (simp [i64_w, i32_w]; done)), H', ⟨by have := HJ11.out; first | omega | exact Nat.le_refl _⟩, ⟨by (with_reducible repeat (first | apply Kd.R_alloc | apply Kd.R_drewN | apply Kd.R_drew)); exact Kd.R_mono HO_6.out (fun _ hk => ⟨hk.1, hk.2.1⟩)⟩, ⟨by (with_reducible repeat (first | apply Kd.R_alloc | apply Kd.R_drewN | apply Kd.R_drew)); exact Kd.R_mono HO_9.out (fun _ hk => ⟨hk.1, hk.2.1⟩)⟩, ⟨by (with_reducible repeat (first | apply Kd.R_alloc | apply Kd.R_drewN | apply Kd.R_drew)); exact Kd.R_mono HO_312002.out (fun _ hk => ⟨hk.1.1, hk.1.2⟩)⟩, ⟨by (with_reducible repeat (first | refine blk_drewN ?_ _ | refine blk_drew ?_ | refine blk_alloc ?_ _)); exact BK295.out⟩, ⟨by (with_reducible repeat (first | refine blk_drewN ?_ _ | refine blk_drew ?_ | refine blk_alloc ?_ _)); exact BK311.out⟩, ⟨by repeat (first | (with_reducible first | exact HB.out | apply below_alloc | apply pw_below_drewN | apply below_drew1 | refine below_set ?_ GE295.out | refine below_set ?_ GE311.out) | exact HB.out)⟩⟩
        · rw [if_neg c46] at H
          have c46b0 : decide (t323 < 0) = false := decide_eq_false c46
          clear c46
          (first | rw [c46b0] | (simp only [i64_w, i32_w]; rw [c46b0]) | skip)
          replace H := Option.bind_eq_some_iff.mp H
          obtain ⟨t325, A470, H⟩ := H
          replace H : (if t325 = true then (laws_FnExactTileNeighbours.j1 kj11 a1 t302 t305 t312 (t315 != t305) a0_0 a0_1 l0_2) else (laws_FnExactTileNeighbours.j1 kj11 a1 t302 t305 t312 true a0_0 a0_1 l0_2)) = some r := H
          have A47 := mkA A470
          clear A470
          by_cases c48 : t325 = true
          · subst c48
            have H1 : (laws_FnExactTileNeighbours.j1 kj11 a1 t302 t305 t312 (t315 != t305) a0_0 a0_1 l0_2) = some r := by rw [if_pos rfl] at H; exact H
            clear H
            have H := H1
            clear H1
            have H' := mkA H
            clear H
            obtain ⟨Ao49, co49, eo49⟩ := Kd.R_slice HO_9.out
            subst eo49
            obtain ⟨Ao50, co50, eo50⟩ := Kd.R_slice HO_6.out
            subst eo50
            go_wp2_with (first | (go_at_call 8; (with_reducible refine (laws_eqInt64S.calls kj11 _ _ t312 _ _ t302 true _ ?side1 ?side2 ?side3 ?side4 A47.out).mono ?_); (case side1 => repeat (first | exact (Kd.R_reads' HO_9.out).2.2 | (with_reducible refine Kd.C_alloc ?_ _) | (with_reducible refine Kd.C_drewN ?_ _) | (with_reducible refine Kd.C_drew ?_))); (case side2 => exact (Kd.R_reads' HO_9.out).2.1); (case side3 => repeat (first | exact (Kd.R_reads' HO_6.out).2.2 | (with_reducible refine Kd.C_alloc ?_ _) | (with_reducible refine Kd.C_drewN ?_ _) | (with_reducible refine Kd.C_drew ?_))); (case side4 => exact (Kd.R_reads' HO_6.out).2.1); rintro e w' ⟨rfl, ⟨nd, rfl⟩⟩))
            go_meet
            case rel => exact ⟨_, ((t315 != t305)), (by first | rfl | (simp; done) | (simp [*]; done) | (simp [i64_w, i32_w]; done)), H', ⟨by have := HJ11.out; first | omega | exact Nat.le_refl _⟩, ⟨by (with_reducible repeat (first | apply Kd.R_alloc | apply Kd.R_drewN | apply Kd.R_drew)); exact Kd.R_mono HO_6.out (fun _ hk => ⟨hk.1, hk.2.1⟩)⟩, ⟨by (with_reducible repeat (first | apply Kd.R_alloc | apply Kd.R_drewN | apply Kd.R_drew)); exact Kd.R_mono HO_9.out (fun _ hk => ⟨hk.1, hk.2.1⟩)⟩, ⟨by (with_reducible repeat (first | apply Kd.R_alloc | apply Kd.R_drewN | apply Kd.R_drew)); exact Kd.R_mono HO_312002.out (fun _ hk => ⟨hk.1.1, hk.1.2⟩)⟩, ⟨by (with_reducible repeat (first | refine blk_drewN ?_ _ | refine blk_drew ?_ | refine blk_alloc ?_ _)); exact BK295.out⟩, ⟨by (with_reducible repeat (first | refine blk_drewN ?_ _ | refine blk_drew ?_ | refine blk_alloc ?_ _)); exact BK311.out⟩, ⟨by repeat (first | (with_reducible first | exact HB.out | apply below_alloc | apply pw_below_drewN | apply below_drew1 | refine below_set ?_ GE295.out | refine below_set ?_ GE311.out) | exact HB.out)⟩⟩
          · replace c48 := Bool.eq_false_iff.mpr c48
            subst c48
            have H1 : (laws_FnExactTileNeighbours.j1 kj11 a1 t302 t305 t312 true a0_0 a0_1 l0_2) = some r := by rw [if_neg (show ¬ (false = true) by decide)] at H; exact H
            clear H
            have H := H1
            clear H1
            have H' := mkA H
            clear H
            obtain ⟨Ao51, co51, eo51⟩ := Kd.R_slice HO_9.out
            subst eo51
            obtain ⟨Ao52, co52, eo52⟩ := Kd.R_slice HO_6.out
            subst eo52
            go_wp2_with (first | (go_at_call 8; (with_reducible refine (laws_eqInt64S.calls kj11 _ _ t312 _ _ t302 false _ ?side1 ?side2 ?side3 ?side4 A47.out).mono ?_); (case side1 => repeat (first | exact (Kd.R_reads' HO_9.out).2.2 | (with_reducible refine Kd.C_alloc ?_ _) | (with_reducible refine Kd.C_drewN ?_ _) | (with_reducible refine Kd.C_drew ?_))); (case side2 => exact (Kd.R_reads' HO_9.out).2.1); (case side3 => repeat (first | exact (Kd.R_reads' HO_6.out).2.2 | (with_reducible refine Kd.C_alloc ?_ _) | (with_reducible refine Kd.C_drewN ?_ _) | (with_reducible refine Kd.C_drew ?_))); (case side4 => exact (Kd.R_reads' HO_6.out).2.1); rintro e w' ⟨rfl, ⟨nd, rfl⟩⟩))
            go_meet
            case rel => exact ⟨_, (true), (by first | rfl | (simp; done) | (simp [*]; done) | (simp [i64_w, i32_w]; done)), H', ⟨by have := HJ11.out; first | omega | exact Nat.le_refl _⟩, ⟨by (with_reducible repeat (first | apply Kd.R_alloc | apply Kd.R_drewN | apply Kd.R_drew)); exact Kd.R_mono HO_6.out (fun _ hk => ⟨hk.1, hk.2.1⟩)⟩, ⟨by (with_reducible repeat (first | apply Kd.R_alloc | apply Kd.R_drewN | apply Kd.R_drew)); exact Kd.R_mono HO_9.out (fun _ hk => ⟨hk.1, hk.2.1⟩)⟩, ⟨by (with_reducible repeat (first | apply Kd.R_alloc | apply Kd.R_drewN | apply Kd.R_drew)); exact Kd.R_mono HO_312002.out (fun _ hk => ⟨hk.1.1, hk.1.2⟩)⟩, ⟨by (with_reducible repeat (first | refine blk_drewN ?_ _ | refine blk_drew ?_ | refine blk_alloc ?_ _)); exact BK295.out⟩, ⟨by (with_reducible repeat (first | refine blk_drewN ?_ _ | refine blk_drew ?_ | refine blk_alloc ?_ _)); exact BK311.out⟩, ⟨by repeat (first | (with_reducible first | exact HB.out | apply below_alloc | apply pw_below_drewN | apply below_drew1 | refine below_set ?_ GE295.out | refine below_set ?_ GE311.out) | exact HB.out)⟩⟩
       case rest =>
        clear HC38
        try clear c1
        try clear c2
        try clear p2
        try clear c3
        try clear c4
        try clear c4b0
        try clear c5
        try clear c6
        try clear c7
        try clear c8
        try clear c9
        try clear c10
        try clear c23
        try clear c28
        try clear c33
        try clear c36
        try clear c43
        try clear c46
        try clear c46b0
        try clear c48
        try clear hcz14_0
        try clear hcz14_1
        try clear hcz14_2
        try clear hcz16_0
        try clear hcz16_1
        try clear hcz16_2
        try clear hcz20_0
        try clear hcz20_1
        try clear hcz20_2
        try clear hcz24_0
        try clear hcz24_1
        try clear hcz24_2
        try clear hcz44_0
        try clear hcz44_1
        try clear hcz44_2
        try clear hcz6_0
        try clear hcz6_1
        try clear hcz6_2
        try clear hfz14_0
        try clear hfz14_1
        try clear hfz14_2
        try clear hfz16_0
        try clear hfz16_1
        try clear hfz16_2
        try clear hfz20_0
        try clear hfz20_1
        try clear hfz20_2
        try clear hfz24_0
        try clear hfz24_1
        try clear hfz24_2
        try clear hfz44_0
        try clear hfz44_1
        try clear hfz44_2
        try clear hfz6_0
        try clear hfz6_1
        try clear hfz6_2
        try clear p2
        obtain ⟨kq, x65_37, rfl, HA, HJ37, HO_6, HO_9, HO_312002, BK295, BK311, HB⟩ := hcut
        have hl312002_37 := (Kd.R_reads' HO_312002.out).1
        rw [hl312002_37] at HO_312002
        (try simp only [hl312002_37])
        (try simp only [hl312002_37] at BK295)
        (try simp only [hl312002_37] at BK311)
        (try simp only [hl312002_37] at HO_6)
        (try simp only [hl312002_37] at HO_9)
        cases kq with
        | zero => exact absurd HA.out (by simp [laws_FnExactTileNeighbours.j1])
        | succ kj37 =>
         have H := HA.out
         clear HA
         simp only [laws_FnExactTileNeighbours.j1] at H
         by_cases c53 : x65_37 = true
         · subst c53
           have H1 : (some false) = some r := by rw [if_pos rfl] at H; exact H
           clear H
           have H := H1
           clear H1
           obtain rfl := Option.some.inj H
           go_wp2
           go_ret
           exact ⟨by first | rfl | (simp [errW_none, errW_some] <;> rfl) | (simp [*, errW_none, errW_some] <;> rfl), by repeat (first | (with_reducible first | exact HB.out | apply below_alloc | apply pw_below_drewN | apply below_drew1 | refine below_set ?_ GE295.out | refine below_set ?_ GE311.out) | exact HB.out)⟩
         · replace c53 := Bool.eq_false_iff.mpr c53
           subst c53
           have H1 : ((laws_markInt64S.f kj37 t312 1).bind fun bt326 => ((laws_heldInt64S.f kj37 bt326.2 1).bind fun t328 => (if t328 < 0 then (some false) else (if t328 = bt326.1 then ((laws_toTiling.f kj37 a0_0 a0_1 l0_2).bind fun bt329 => ((impl_TileNeighbours.f kj37 bt329.1 bt329.2.1 bt329.2.2 a1).bind fun bt334 => ((laws_eqInt64S.f kj37 bt334.1 t302).bind fun t338 => (if t338 = true then (laws_FnExactTileNeighbours.j2 kj37 bt326.2 bt326.1 (bt334.2 != t305)) else (laws_FnExactTileNeighbours.j2 kj37 bt326.2 bt326.1 true))))) else (some false))))) = some r := by rw [if_neg (show ¬ (false = true) by decide)] at H; exact H
           clear H
           have H := H1
           clear H1
           replace H := Option.bind_eq_some_iff.mp H
           obtain ⟨⟨t326, t327⟩, A540, H⟩ := H
           replace H : ((laws_heldInt64S.f kj37 t327 1).bind fun t328 => (if t328 < 0 then (some false) else (if t328 = t326 then ((laws_toTiling.f kj37 a0_0 a0_1 l0_2).bind fun bt329 => ((impl_TileNeighbours.f kj37 bt329.1 bt329.2.1 bt329.2.2 a1).bind fun bt334 => ((laws_eqInt64S.f kj37 bt334.1 t302).bind fun t338 => (if t338 = true then (laws_FnExactTileNeighbours.j2 kj37 t327 t326 (bt334.2 != t305)) else (laws_FnExactTileNeighbours.j2 kj37 t327 t326 true))))) else (some false)))) = some r := H
           have A54 := mkA A540
           clear A540
           replace H := Option.bind_eq_some_iff.mp H
           obtain ⟨t328, A550, H⟩ := H
           replace H : (if t328 < 0 then (some false) else (if t328 = t326 then ((laws_toTiling.f kj37 a0_0 a0_1 l0_2).bind fun bt329 => ((impl_TileNeighbours.f kj37 bt329.1 bt329.2.1 bt329.2.2 a1).bind fun bt334 => ((laws_eqInt64S.f kj37 bt334.1 t302).bind fun t338 => (if t338 = true then (laws_FnExactTileNeighbours.j2 kj37 t327 t326 (bt334.2 != t305)) else (laws_FnExactTileNeighbours.j2 kj37 t327 t326 true))))) else (some false))) = some r := H
           have A55 := mkA A550
           clear A550
           by_cases c56 : t328 < 0
           · rw [if_pos c56] at H
             have c56b0 : decide (t328 < 0) = true := decide_eq_true c56
             clear c56
             obtain rfl := Option.some.inj H
             obtain ⟨Ao57, co57, eo57⟩ := Kd.R_slice HO_9.out
             subst eo57
             go_wp2_with (first | ((with_reducible refine gate_callee (f := 11) rfl ?_); refine goesL_ (some 68) rfl rfl Try.func11 (by kernel_rfl) rfl #[.slice Ao57 t312.length co57, .int .i64 1] rfl (by (try simp only [List.map_toArray, List.map_cons, List.map_nil]); first | done | rfl | (simp only [List.length_drop, List.length_take]; rfl)) ?_; (with_reducible refine (laws_markInt64S.calls kj37 (fun k_ => some k_ = (.slice Ao57 t312.length co57 : Value).ownBlock) (.slice Ao57 t312.length co57) t312 1 t326 t327 w _ ?side1 ?side2 A54.out).mono ?_); (case side1 => repeat (first | (with_reducible first | exact HB.out | apply below_alloc | apply pw_below_drewN | apply below_drew1 | refine below_set ?_ GE295.out | refine below_set ?_ GE311.out) | exact HB.out)); (case side2 => exact Kd.R_tight rfl HO_9.out); rintro e w58 ⟨rfl, hy0, hb, hkp⟩; refine ⟨_, rfl, ?_⟩; have n0_ := mkA (Kd.R_mono (ok' := fun k_ => some k_ ≠ (.slice Ao57 t312.length co57 : Value).ownBlock ∧ some k_ ≠ (.slice Ao25 t324.length co25 : Value).ownBlock) (Kd.R_keptB (HO_6.out) hkp (fun k_ hk_ hs_ => (hk_.1) hs_)) (fun k_ hk_ => ⟨hk_.1.1, hk_.1.2⟩)); have n1_ := mkA (Kd.R_reok rfl hy0 (fun k_ e_ => HO_9.out.1 k_ e_)); have n2_ := mkA (Kd.R_mono (ok' := fun k_ => some k_ ≠ (v303 : Value).ownBlock ∧ some k_ ≠ (.slice Ao57 t312.length co57 : Value).ownBlock) (Kd.R_keptB (HO_312002.out) hkp (fun k_ hk_ hs_ => (hk_.2) hs_)) (fun k_ hk_ => ⟨hk_.1.1, hk_.1.2⟩)); have n3_ := mkA (blk_kept (bl_ BK295.out) hkp (fun hs_ => (fun e_ => (Kd.R_ne HO_9.out BK295.out (by decide)) e_) hs_)); have n4_ := mkA (blk_kept (bl_ BK311.out) hkp (fun hs_ => (fun e_ => (Kd.R_ne HO_9.out BK311.out (by decide)) e_) hs_)); have n5_ := mkA (hb); clear HO_6; clear HO_9; clear HO_312002; clear BK295; clear BK311; clear HB; have HO_6 := n0_; have HO_9 := n1_; have HO_312002 := n2_; have BK295 := n3_; have BK311 := n4_; have HB := n5_; clear n0_ n1_ n2_ n3_ n4_ n5_; (try clear hb); (try clear hkp); (try clear hy0)) | ((with_reducible refine gate_callee (f := 12) rfl ?_); refine goesL_ (some 71) rfl rfl Try.func12 (by kernel_rfl) rfl #[.slice Ao57 t327.length co57, .int .i64 1] rfl (by (try simp only [List.map_toArray, List.map_cons, List.map_nil]); first | done | (rw [show t327.length = t312.length from (Kd.R_reads' HO_9.out).1.symm] <;> rfl) | rfl | (simp only [List.length_drop, List.length_take]; rfl)) ?_; (with_reducible refine (laws_heldInt64S.calls kj37 _ _ t327 1 t328 _ ?side1 ?side2 A55.out).mono ?_); (case side1 => repeat (first | exact (Kd.R_reads' HO_9.out).2.2 | (with_reducible refine Kd.C_alloc ?_ _) | (with_reducible refine Kd.C_drewN ?_ _) | (with_reducible refine Kd.C_drew ?_))); (case side2 => rw [show t327.length = t312.length from (Kd.R_reads' HO_9.out).1.symm]; exact (Kd.R_reads' HO_9.out).2.1); rintro e w' ⟨rfl, ⟨nd, rfl⟩⟩; refine ⟨_, rfl, ?_⟩))
             go_ret
             exact ⟨by first | rfl | (simp [errW_none, errW_some] <;> rfl) | (simp [*, errW_none, errW_some] <;> rfl), by repeat (first | (with_reducible first | exact HB.out | apply below_alloc | apply pw_below_drewN | apply below_drew1 | refine below_set ?_ GE295.out | refine below_set ?_ GE311.out) | exact HB.out)⟩
           · rw [if_neg c56] at H
             have c56b0 : decide (t328 < 0) = false := decide_eq_false c56
             clear c56
             by_cases c59 : t328 = t326
             rotate_left
             · rw [if_neg c59] at H
               have c59b0 : (t328 == t326) = false := beq_eq_false_iff_ne.mpr c59
               have c59b1 : (t328 != t326) = true := bne_iff_ne.mpr c59
               obtain rfl := Option.some.inj H
               obtain ⟨Ao80, co80, eo80⟩ := Kd.R_slice HO_9.out
               subst eo80
               go_wp2_with (first | ((with_reducible refine gate_callee (f := 11) rfl ?_); refine goesL_ (some 68) rfl rfl Try.func11 (by kernel_rfl) rfl #[.slice Ao80 t312.length co80, .int .i64 1] rfl (by (try simp only [List.map_toArray, List.map_cons, List.map_nil]); first | done | rfl | (simp only [List.length_drop, List.length_take]; rfl)) ?_; (with_reducible refine (laws_markInt64S.calls kj37 (fun k_ => some k_ = (.slice Ao80 t312.length co80 : Value).ownBlock) (.slice Ao80 t312.length co80) t312 1 t326 t327 w _ ?side1 ?side2 A54.out).mono ?_); (case side1 => repeat (first | (with_reducible first | exact HB.out | apply below_alloc | apply pw_below_drewN | apply below_drew1 | refine below_set ?_ GE295.out | refine below_set ?_ GE311.out) | exact HB.out)); (case side2 => exact Kd.R_tight rfl HO_9.out); rintro e w81 ⟨rfl, hy0, hb, hkp⟩; refine ⟨_, rfl, ?_⟩; have n0_ := mkA (Kd.R_mono (ok' := fun k_ => some k_ ≠ (.slice Ao80 t312.length co80 : Value).ownBlock ∧ some k_ ≠ (.slice Ao25 t324.length co25 : Value).ownBlock) (Kd.R_keptB (HO_6.out) hkp (fun k_ hk_ hs_ => (hk_.1) hs_)) (fun k_ hk_ => ⟨hk_.1.1, hk_.1.2⟩)); have n1_ := mkA (Kd.R_reok rfl hy0 (fun k_ e_ => HO_9.out.1 k_ e_)); have n2_ := mkA (Kd.R_mono (ok' := fun k_ => some k_ ≠ (v303 : Value).ownBlock ∧ some k_ ≠ (.slice Ao80 t312.length co80 : Value).ownBlock) (Kd.R_keptB (HO_312002.out) hkp (fun k_ hk_ hs_ => (hk_.2) hs_)) (fun k_ hk_ => ⟨hk_.1.1, hk_.1.2⟩)); have n3_ := mkA (blk_kept (bl_ BK295.out) hkp (fun hs_ => (fun e_ => (Kd.R_ne HO_9.out BK295.out (by decide)) e_) hs_)); have n4_ := mkA (blk_kept (bl_ BK311.out) hkp (fun hs_ => (fun e_ => (Kd.R_ne HO_9.out BK311.out (by decide)) e_) hs_)); have n5_ := mkA (hb); clear HO_6; clear HO_9; clear HO_312002; clear BK295; clear BK311; clear HB; have HO_6 := n0_; have HO_9 := n1_; have HO_312002 := n2_; have BK295 := n3_; have BK311 := n4_; have HB := n5_; clear n0_ n1_ n2_ n3_ n4_ n5_; (try clear hb); (try clear hkp); (try clear hy0)) | ((with_reducible refine gate_callee (f := 12) rfl ?_); refine goesL_ (some 71) rfl rfl Try.func12 (by kernel_rfl) rfl #[.slice Ao80 t327.length co80, .int .i64 1] rfl (by (try simp only [List.map_toArray, List.map_cons, List.map_nil]); first | done | (rw [show t327.length = t312.length from (Kd.R_reads' HO_9.out).1.symm] <;> rfl) | rfl | (simp only [List.length_drop, List.length_take]; rfl)) ?_; (with_reducible refine (laws_heldInt64S.calls kj37 _ _ t327 1 t328 _ ?side1 ?side2 A55.out).mono ?_); (case side1 => repeat (first | exact (Kd.R_reads' HO_9.out).2.2 | (with_reducible refine Kd.C_alloc ?_ _) | (with_reducible refine Kd.C_drewN ?_ _) | (with_reducible refine Kd.C_drew ?_))); (case side2 => rw [show t327.length = t312.length from (Kd.R_reads' HO_9.out).1.symm]; exact (Kd.R_reads' HO_9.out).2.1); rintro e w' ⟨rfl, ⟨nd, rfl⟩⟩; refine ⟨_, rfl, ?_⟩))
               go_ret
               exact ⟨by first | rfl | (simp [errW_none, errW_some] <;> rfl) | (simp [*, errW_none, errW_some] <;> rfl), by repeat (first | (with_reducible first | exact HB.out | apply below_alloc | apply pw_below_drewN | apply below_drew1 | refine below_set ?_ GE295.out | refine below_set ?_ GE311.out) | exact HB.out)⟩
             rw [if_pos c59] at H
             have c59b0 : (t328 == t326) = true := beq_iff_eq.mpr c59
             have c59b1 : (t328 != t326) = false := bne_eq_false_iff_eq.mpr c59
             clear c59
             replace H := Option.bind_eq_some_iff.mp H
             obtain ⟨⟨t329, t330, t331⟩, A600, H⟩ := H
             replace H : ((impl_TileNeighbours.f kj37 t329 t330 t331 a1).bind fun bt334 => ((laws_eqInt64S.f kj37 bt334.1 t302).bind fun t338 => (if t338 = true then (laws_FnExactTileNeighbours.j2 kj37 t327 t326 (bt334.2 != t305)) else (laws_FnExactTileNeighbours.j2 kj37 t327 t326 true)))) = some r := H
             have A60 := mkA A600
             clear A600
             replace H := Option.bind_eq_some_iff.mp H
             obtain ⟨⟨t334, t337⟩, A610, H⟩ := H
             replace H : ((laws_eqInt64S.f kj37 t334 t302).bind fun t338 => (if t338 = true then (laws_FnExactTileNeighbours.j2 kj37 t327 t326 (t337 != t305)) else (laws_FnExactTileNeighbours.j2 kj37 t327 t326 true))) = some r := H
             have A61 := mkA A610
             clear A610
             have HC62 := mkA H
             clear H
             obtain ⟨Ao63, co63, eo63⟩ := Kd.R_slice HO_9.out
             subst eo63
             go_upto_region 25 with (first | ((with_reducible refine gate_callee (f := 11) rfl ?_); refine goesL_ (some 68) rfl rfl Try.func11 (by kernel_rfl) rfl #[.slice Ao63 t312.length co63, .int .i64 1] rfl (by (try simp only [List.map_toArray, List.map_cons, List.map_nil]); first | done | rfl | (simp only [List.length_drop, List.length_take]; rfl)) ?_; (with_reducible refine (laws_markInt64S.calls kj37 (fun k_ => some k_ = (.slice Ao63 t312.length co63 : Value).ownBlock) (.slice Ao63 t312.length co63) t312 1 t326 t327 w _ ?side1 ?side2 A54.out).mono ?_); (case side1 => repeat (first | (with_reducible first | exact HB.out | apply below_alloc | apply pw_below_drewN | apply below_drew1 | refine below_set ?_ GE295.out | refine below_set ?_ GE311.out) | exact HB.out)); (case side2 => exact Kd.R_tight rfl HO_9.out); rintro e w64 ⟨rfl, hy0, hb, hkp⟩; refine ⟨_, rfl, ?_⟩; have n0_ := mkA (Kd.R_mono (ok' := fun k_ => some k_ ≠ (.slice Ao63 t312.length co63 : Value).ownBlock ∧ some k_ ≠ (.slice Ao25 t324.length co25 : Value).ownBlock) (Kd.R_keptB (HO_6.out) hkp (fun k_ hk_ hs_ => (hk_.1) hs_)) (fun k_ hk_ => ⟨hk_.1.1, hk_.1.2⟩)); have n1_ := mkA (Kd.R_reok rfl hy0 (fun k_ e_ => HO_9.out.1 k_ e_)); have n2_ := mkA (Kd.R_mono (ok' := fun k_ => some k_ ≠ (v303 : Value).ownBlock ∧ some k_ ≠ (.slice Ao63 t312.length co63 : Value).ownBlock) (Kd.R_keptB (HO_312002.out) hkp (fun k_ hk_ hs_ => (hk_.2) hs_)) (fun k_ hk_ => ⟨hk_.1.1, hk_.1.2⟩)); have n3_ := mkA (blk_kept (bl_ BK295.out) hkp (fun hs_ => (fun e_ => (Kd.R_ne HO_9.out BK295.out (by decide)) e_) hs_)); have n4_ := mkA (blk_kept (bl_ BK311.out) hkp (fun hs_ => (fun e_ => (Kd.R_ne HO_9.out BK311.out (by decide)) e_) hs_)); have n5_ := mkA (hb); clear HO_6; clear HO_9; clear HO_312002; clear BK295; clear BK311; clear HB; have HO_6 := n0_; have HO_9 := n1_; have HO_312002 := n2_; have BK295 := n3_; have BK311 := n4_; have HB := n5_; clear n0_ n1_ n2_ n3_ n4_ n5_; (try clear hb); (try clear hkp); (try clear hy0)) | ((with_reducible refine gate_callee (f := 12) rfl ?_); refine goesL_ (some 71) rfl rfl Try.func12 (by kernel_rfl) rfl #[.slice Ao63 t327.length co63, .int .i64 1] rfl (by (try simp only [List.map_toArray, List.map_cons, List.map_nil]); first | done | (rw [show t327.length = t312.length from (Kd.R_reads' HO_9.out).1.symm] <;> rfl) | rfl | (simp only [List.length_drop, List.length_take]; rfl)) ?_; (with_reducible refine (laws_heldInt64S.calls kj37 _ _ t327 1 t328 _ ?side1 ?side2 A55.out).mono ?_); (case side1 => repeat (first | exact (Kd.R_reads' HO_9.out).2.2 | (with_reducible refine Kd.C_alloc ?_ _) | (with_reducible refine Kd.C_drewN ?_ _) | (with_reducible refine Kd.C_drew ?_))); (case side2 => rw [show t327.length = t312.length from (Kd.R_reads' HO_9.out).1.symm]; exact (Kd.R_reads' HO_9.out).2.1); rintro e w' ⟨rfl, ⟨nd, rfl⟩⟩; refine ⟨_, rfl, ?_⟩; have hnb65 := NB295_311.out; have hnc65 := NB311_295.out; have hcz66_0 : w64.cell? ⟨gb295, 0, none⟩ = some (.int .i64 a0_0) := (blk_cell BK295.out 0).trans rfl; have hcz66_1 : w64.cell? ⟨gb295, 1, none⟩ = some (.int .i64 a0_1) := (blk_cell BK295.out 1).trans rfl; have hcz66_2 : w64.cell? ⟨gb295, 2, none⟩ = some (.slice A0_2 l0_2.length c0_2) := (blk_cell BK295.out 2).trans rfl; have hfz66_0 := blk_frozen BK295.out 0; have hfz66_1 := blk_frozen BK295.out 1; have hfz66_2 := blk_frozen BK295.out 2) | ((with_reducible refine gate_callee (f := 6) rfl ?_); refine goesL_ (some 79) rfl rfl Try.func6 (by kernel_rfl) rfl #[.agg #[.int .i64 a0_0, .int .i64 a0_1, .slice A0_2 l0_2.length c0_2]] rfl (by (try simp only [List.map_toArray, List.map_cons, List.map_nil]); first | done | rfl | (simp only [List.length_drop, List.length_take]; rfl)) ?_; (with_reducible refine (laws_toTiling.calls kj37 a0_0 a0_1 _ _ l0_2 t329 t330 t331 _ ?side1 ?side2 A60.out).mono ?_); (case side1 => repeat (first | exact (Kd.C_below HR0_2.out (bs2_ HB.out GE295.out GE311.out)) | (with_reducible refine Kd.C_alloc ?_ _) | (with_reducible refine Kd.C_drewN ?_ _) | (with_reducible refine Kd.C_drew ?_))); (case side2 => exact HC0_2.out); rintro e w67 ⟨v332, rfl, ho0, hb⟩; refine ⟨_, rfl, ?_⟩; have n0_ := mkA (Kd.R_elder' (by (with_reducible repeat (first | apply Kd.R_alloc | apply Kd.R_drewN | apply Kd.R_drew)); exact HO_6.out) (Kd.R_base ho0) hb); have n1_ := mkA (Kd.R_elder' (by (with_reducible repeat (first | apply Kd.R_alloc | apply Kd.R_drewN | apply Kd.R_drew)); exact HO_9.out) (Kd.R_base ho0) hb); have n2_ := mkA (Kd.R_elder' (by (with_reducible repeat (first | apply Kd.R_alloc | apply Kd.R_drewN | apply Kd.R_drew)); exact HO_312002.out) (Kd.R_base ho0) hb); have n3_ := mkA (Kd.R_lower (Kd.R_new' (Kd.R_new' (Kd.R_new' ho0 (Kd.R_lt (by (with_reducible repeat (first | apply Kd.R_alloc | apply Kd.R_drewN | apply Kd.R_drew)); exact HO_6.out))) (Kd.R_lt (by (with_reducible repeat (first | apply Kd.R_alloc | apply Kd.R_drewN | apply Kd.R_drew)); exact HO_9.out))) (Kd.R_lt (by (with_reducible repeat (first | apply Kd.R_alloc | apply Kd.R_drewN | apply Kd.R_drew)); exact HO_312002.out))) (below_size (bs2_ HB.out GE295.out GE311.out))); have n4_ := mkA (blk_below (g := gb295) (o := .cells #[.int .i64 a0_0, .int .i64 a0_1, .slice A0_2 l0_2.length c0_2] 24 (0, 0)) (bl_ BK295.out) hb); have n5_ := mkA (blk_below (g := gb311) (o := .cells #[.int .i64 t306, .int .i64 t307, .slice Ao25 t324.length co25] 28 (0, 0)) (bl_ BK311.out) hb); have n6_ := mkA (below_step (bs2_ HB.out GE295.out GE311.out) hb); clear HO_6; clear HO_9; clear HO_312002; clear BK295; clear BK311; clear HB; have HO_6 := n0_; have HO_9 := n1_; have HO_312002 := n2_; have HO333 := n3_; have BK295 := n4_; have BK311 := n5_; have HB := n6_; clear n0_ n1_ n2_ n3_ n4_ n5_ n6_; (try clear hb); (try clear hb2); (try clear hk); (try clear hi); (try clear ho0); obtain ⟨Ao68, co68, eo68⟩ := Kd.R_slice HO333.out; subst eo68) | ((with_reducible refine gate_callee (f := 7) rfl ?_); refine goesL_ (some 81) rfl rfl Try.func7 (by kernel_rfl) rfl #[.agg #[.int .i64 t329, .int .i64 t330, .slice Ao68 t331.length co68], .int .i64 a1] rfl (by (try simp only [List.map_toArray, List.map_cons, List.map_nil]); first | done | rfl | (simp only [List.length_drop, List.length_take]; rfl)) ?_; (with_reducible refine (impl_TileNeighbours.calls kj37 t329 t330 _ _ t331 a1 t334 t337 _ ?side1 ?side2 A61.out).mono ?_); (case side1 => repeat (first | exact (Kd.R_reads' HO333.out).2.2 | (with_reducible refine Kd.C_alloc ?_ _) | (with_reducible refine Kd.C_drewN ?_ _) | (with_reducible refine Kd.C_drew ?_))); (case side2 => exact (Kd.R_reads' HO333.out).2.1); rintro e w69 ⟨v335, rfl, ho0, hb⟩; refine ⟨_, rfl, ?_⟩; have n0_ := mkA (Kd.R_elder' (by (with_reducible repeat (first | apply Kd.R_alloc | apply Kd.R_drewN | apply Kd.R_drew)); exact HO_6.out) (Kd.R_base ho0) hb); have n1_ := mkA (Kd.R_elder' (by (with_reducible repeat (first | apply Kd.R_alloc | apply Kd.R_drewN | apply Kd.R_drew)); exact HO_9.out) (Kd.R_base ho0) hb); have n2_ := mkA (Kd.R_elder' (by (with_reducible repeat (first | apply Kd.R_alloc | apply Kd.R_drewN | apply Kd.R_drew)); exact HO_312002.out) (Kd.R_base ho0) hb); have n3_ := mkA (Kd.R_elder' (by (with_reducible repeat (first | apply Kd.R_alloc | apply Kd.R_drewN | apply Kd.R_drew)); exact HO333.out) (Kd.R_base ho0) hb); have n4_ := mkA (Kd.R_lower (Kd.R_new' (Kd.R_new' (Kd.R_new' (Kd.R_new' ho0 (Kd.R_lt (by (with_reducible repeat (first | apply Kd.R_alloc | apply Kd.R_drewN | apply Kd.R_drew)); exact HO_6.out))) (Kd.R_lt (by (with_reducible repeat (first | apply Kd.R_alloc | apply Kd.R_drewN | apply Kd.R_drew)); exact HO_9.out))) (Kd.R_lt (by (with_reducible repeat (first | apply Kd.R_alloc | apply Kd.R_drewN | apply Kd.R_drew)); exact HO_312002.out))) (Kd.R_lt (by (with_reducible repeat (first | apply Kd.R_alloc | apply Kd.R_drewN | apply Kd.R_drew)); exact HO333.out))) (below_size (bs2_ HB.out GE295.out GE311.out))); have n5_ := mkA (blk_below (g := gb295) (o := .cells #[.int .i64 a0_0, .int .i64 a0_1, .slice A0_2 l0_2.length c0_2] 24 (0, 0)) (bl_ BK295.out) hb); have n6_ := mkA (blk_below (g := gb311) (o := .cells #[.int .i64 t306, .int .i64 t307, .slice Ao25 t324.length co25] 28 (0, 0)) (bl_ BK311.out) hb); have n7_ := mkA (below_step (bs2_ HB.out GE295.out GE311.out) hb); clear HO_6; clear HO_9; clear HO_312002; clear HO333; clear BK295; clear BK311; clear HB; have HO_6 := n0_; have HO_9 := n1_; have HO_312002 := n2_; have HO333 := n3_; have HO336 := n4_; have BK295 := n5_; have BK311 := n6_; have HB := n7_; clear n0_ n1_ n2_ n3_ n4_ n5_ n6_ n7_; (try clear hb); (try clear hb2); (try clear hk); (try clear hi); (try clear ho0)))
             (try simp only [Act.put, sA, sB, sC])
             go_cut [92] (fun v92 wc => ∃ (kq : Nat) (x92_61 : Bool), v92 = .bool x92_61 ∧ Aside0 (laws_FnExactTileNeighbours.j2 kq t327 t326 x92_61 = some r) ∧ Aside0 (kq ≤ kj37) ∧ Aside0 (Kd.R (Kd.int .i64) 2 wc w.heap.size (fun k_ => some k_ ≠ ((.slice Ao25 t324.length co25) : Value).ownBlock) (.slice Ao63 t312.length co63) t327) ∧ Aside0 (Kd.R (Kd.int .i64) 2 wc w.heap.size (fun k_ => some k_ ≠ ((.slice Ao63 t312.length co63) : Value).ownBlock) (.slice Ao25 t324.length co25) t324) ∧ Aside0 (wc.heap[gb295]? = some (.cells #[.int .i64 a0_0, .int .i64 a0_1, (.slice A0_2 l0_2.length c0_2)] 24 (0, 0))) ∧ Aside0 (wc.heap[gb311]? = some (.cells #[.int .i64 t306, .int .i64 t307, (.slice Ao25 t324.length co25)] 28 (0, 0))) ∧ Aside0 (Below w.heap.size w wc))
             case first =>
              have H := HC62.out
              clear HC62
              replace H := Option.bind_eq_some_iff.mp H
              obtain ⟨t338, A700, H⟩ := H
              replace H : (if t338 = true then (laws_FnExactTileNeighbours.j2 kj37 t327 t326 (t337 != t305)) else (laws_FnExactTileNeighbours.j2 kj37 t327 t326 true)) = some r := H
              have A70 := mkA A700
              clear A700
              by_cases c71 : t338 = true
              · subst c71
                have H1 : (laws_FnExactTileNeighbours.j2 kj37 t327 t326 (t337 != t305)) = some r := by rw [if_pos rfl] at H; exact H
                clear H
                have H := H1
                clear H1
                have H' := mkA H
                clear H
                obtain ⟨Ao72, co72, eo72⟩ := Kd.R_slice HO336.out
                subst eo72
                obtain ⟨Ao73, co73, eo73⟩ := Kd.R_slice HO_6.out
                subst eo73
                go_wp2_with (first | ((with_reducible refine gate_callee (f := 8) rfl ?_); refine goesL_ (some 86) rfl rfl Try.func8 (by kernel_rfl) rfl #[.slice Ao72 t334.length co72, .slice Ao73 t302.length co73] rfl (by (try simp only [List.map_toArray, List.map_cons, List.map_nil]); first | done | rfl | (simp only [List.length_drop, List.length_take]; rfl)) ?_; (with_reducible refine (laws_eqInt64S.calls kj37 _ _ t334 _ _ t302 true _ ?side1 ?side2 ?side3 ?side4 A70.out).mono ?_); (case side1 => repeat (first | exact (Kd.R_reads' HO336.out).2.2 | (with_reducible refine Kd.C_alloc ?_ _) | (with_reducible refine Kd.C_drewN ?_ _) | (with_reducible refine Kd.C_drew ?_))); (case side2 => exact (Kd.R_reads' HO336.out).2.1); (case side3 => repeat (first | exact (Kd.R_reads' HO_6.out).2.2 | (with_reducible refine Kd.C_alloc ?_ _) | (with_reducible refine Kd.C_drewN ?_ _) | (with_reducible refine Kd.C_drew ?_))); (case side4 => exact (Kd.R_reads' HO_6.out).2.1); rintro e w' ⟨rfl, ⟨nd, rfl⟩⟩; refine ⟨_, rfl, ?_⟩))
                go_meet
                case rel => exact ⟨_, ((t337 != t305)), (by first | rfl | (simp; done) | (simp [*]; done) | (simp [i64_w, i32_w]; done)), H', ⟨by have := HJ11.out; have := HJ37.out; first | omega | exact Nat.le_refl _⟩, ⟨by (try simp only [hl312002_37]); (with_reducible repeat (first | apply Kd.R_alloc | apply Kd.R_drewN | apply Kd.R_drew)); exact Kd.R_mono HO_9.out (fun _ hk => hk.1.1.2)⟩, ⟨by (try simp only [hl312002_37]); (with_reducible repeat (first | apply Kd.R_alloc | apply Kd.R_drewN | apply Kd.R_drew)); exact Kd.R_mono HO_312002.out (fun _ hk => hk.1.1.2)⟩, ⟨by (try simp only [hl312002_37]); (with_reducible repeat (first | refine blk_drewN ?_ _ | refine blk_drew ?_ | refine blk_alloc ?_ _)); exact BK295.out⟩, ⟨by (try simp only [hl312002_37]); (with_reducible repeat (first | refine blk_drewN ?_ _ | refine blk_drew ?_ | refine blk_alloc ?_ _)); exact BK311.out⟩, ⟨by repeat (first | (with_reducible first | exact HB.out | apply below_alloc | apply pw_below_drewN | apply below_drew1 | refine below_set ?_ GE295.out | refine below_set ?_ GE311.out) | exact HB.out)⟩⟩
              · replace c71 := Bool.eq_false_iff.mpr c71
                subst c71
                have H1 : (laws_FnExactTileNeighbours.j2 kj37 t327 t326 true) = some r := by rw [if_neg (show ¬ (false = true) by decide)] at H; exact H
                clear H
                have H := H1
                clear H1
                have H' := mkA H
                clear H
                obtain ⟨Ao74, co74, eo74⟩ := Kd.R_slice HO336.out
                subst eo74
                obtain ⟨Ao75, co75, eo75⟩ := Kd.R_slice HO_6.out
                subst eo75
                go_wp2_with (first | ((with_reducible refine gate_callee (f := 8) rfl ?_); refine goesL_ (some 86) rfl rfl Try.func8 (by kernel_rfl) rfl #[.slice Ao74 t334.length co74, .slice Ao75 t302.length co75] rfl (by (try simp only [List.map_toArray, List.map_cons, List.map_nil]); first | done | rfl | (simp only [List.length_drop, List.length_take]; rfl)) ?_; (with_reducible refine (laws_eqInt64S.calls kj37 _ _ t334 _ _ t302 false _ ?side1 ?side2 ?side3 ?side4 A70.out).mono ?_); (case side1 => repeat (first | exact (Kd.R_reads' HO336.out).2.2 | (with_reducible refine Kd.C_alloc ?_ _) | (with_reducible refine Kd.C_drewN ?_ _) | (with_reducible refine Kd.C_drew ?_))); (case side2 => exact (Kd.R_reads' HO336.out).2.1); (case side3 => repeat (first | exact (Kd.R_reads' HO_6.out).2.2 | (with_reducible refine Kd.C_alloc ?_ _) | (with_reducible refine Kd.C_drewN ?_ _) | (with_reducible refine Kd.C_drew ?_))); (case side4 => exact (Kd.R_reads' HO_6.out).2.1); rintro e w' ⟨rfl, ⟨nd, rfl⟩⟩; refine ⟨_, rfl, ?_⟩))
                go_meet
                case rel => exact ⟨_, (true), (by first | rfl | (simp; done) | (simp [*]; done) | (simp [i64_w, i32_w]; done)), H', ⟨by have := HJ11.out; have := HJ37.out; first | omega | exact Nat.le_refl _⟩, ⟨by (try simp only [hl312002_37]); (with_reducible repeat (first | apply Kd.R_alloc | apply Kd.R_drewN | apply Kd.R_drew)); exact Kd.R_mono HO_9.out (fun _ hk => hk.1.1.2)⟩, ⟨by (try simp only [hl312002_37]); (with_reducible repeat (first | apply Kd.R_alloc | apply Kd.R_drewN | apply Kd.R_drew)); exact Kd.R_mono HO_312002.out (fun _ hk => hk.1.1.2)⟩, ⟨by (try simp only [hl312002_37]); (with_reducible repeat (first | refine blk_drewN ?_ _ | refine blk_drew ?_ | refine blk_alloc ?_ _)); exact BK295.out⟩, ⟨by (try simp only [hl312002_37]); (with_reducible repeat (first | refine blk_drewN ?_ _ | refine blk_drew ?_ | refine blk_alloc ?_ _)); exact BK311.out⟩, ⟨by repeat (first | (with_reducible first | exact HB.out | apply below_alloc | apply pw_below_drewN | apply below_drew1 | refine below_set ?_ GE295.out | refine below_set ?_ GE311.out) | exact HB.out)⟩⟩
             case rest =>
              clear HC62
              try clear c1
              try clear c2
              try clear p2
              try clear c3
              try clear c4
              try clear c4b0
              try clear c5
              try clear c6
              try clear c7
              try clear c8
              try clear c9
              try clear c10
              try clear c11
              try clear c12
              try clear c23
              try clear c28
              try clear c33
              try clear c36
              try clear c43
              try clear c46
              try clear c46b0
              try clear c48
              try clear c53
              try clear c56
              try clear c56b0
              try clear c59
              try clear c59b0
              try clear c59b1
              try clear c65
              try clear c71
              try clear hcz14_0
              try clear hcz14_1
              try clear hcz14_2
              try clear hcz16_0
              try clear hcz16_1
              try clear hcz16_2
              try clear hcz20_0
              try clear hcz20_1
              try clear hcz20_2
              try clear hcz24_0
              try clear hcz24_1
              try clear hcz24_2
              try clear hcz44_0
              try clear hcz44_1
              try clear hcz44_2
              try clear hcz66_0
              try clear hcz66_1
              try clear hcz66_2
              try clear hcz6_0
              try clear hcz6_1
              try clear hcz6_2
              try clear hfz14_0
              try clear hfz14_1
              try clear hfz14_2
              try clear hfz16_0
              try clear hfz16_1
              try clear hfz16_2
              try clear hfz20_0
              try clear hfz20_1
              try clear hfz20_2
              try clear hfz24_0
              try clear hfz24_1
              try clear hfz24_2
              try clear hfz44_0
              try clear hfz44_1
              try clear hfz44_2
              try clear hfz66_0
              try clear hfz66_1
              try clear hfz66_2
              try clear hfz6_0
              try clear hfz6_1
              try clear hfz6_2
              try clear p2
              obtain ⟨kq, x92_61, rfl, HA, HJ61, HO_9, HO_312002, BK295, BK311, HB⟩ := hcut
              have hl9_61 := (Kd.R_reads' HO_9.out).1
              rw [hl9_61] at HO_9
              (try simp only [hl9_61])
              (try simp only [hl9_61] at BK295)
              (try simp only [hl9_61] at BK311)
              (try simp only [hl9_61] at HO_312002)
              cases kq with
              | zero => exact absurd HA.out (by simp [laws_FnExactTileNeighbours.j2])
              | succ kj61 =>
               have H := HA.out
               clear HA
               simp only [laws_FnExactTileNeighbours.j2] at H
               by_cases c76 : x92_61 = true
               · subst c76
                 have H1 : (some false) = some r := by rw [if_pos rfl] at H; exact H
                 clear H
                 have H := H1
                 clear H1
                 obtain rfl := Option.some.inj H
                 go_wp2
                 go_ret
                 exact ⟨by first | rfl | (simp [errW_none, errW_some] <;> rfl) | (simp [*, errW_none, errW_some] <;> rfl), by repeat (first | (with_reducible first | exact HB.out | apply below_alloc | apply pw_below_drewN | apply below_drew1 | refine below_set ?_ GE295.out | refine below_set ?_ GE311.out) | exact HB.out)⟩
               · replace c76 := Bool.eq_false_iff.mpr c76
                 subst c76
                 have H1 : ((laws_heldInt64S.f kj61 t327 1).bind fun t339 => (if t339 < 0 then (some false) else (if t339 = t326 then (some true) else (some false)))) = some r := by rw [if_neg (show ¬ (false = true) by decide)] at H; exact H
                 clear H
                 have H := H1
                 clear H1
                 replace H := Option.bind_eq_some_iff.mp H
                 obtain ⟨t339, A770, H⟩ := H
                 replace H : (if t339 < 0 then (some false) else (if t339 = t326 then (some true) else (some false))) = some r := H
                 have A77 := mkA A770
                 clear A770
                 by_cases c78 : t339 < 0
                 · rw [if_pos c78] at H
                   have c78b0 : decide (t339 < 0) = true := decide_eq_true c78
                   clear c78
                   obtain rfl := Option.some.inj H
                   go_wp2_with (first | ((with_reducible refine gate_callee (f := 12) rfl ?_); refine goesL_ (some 95) rfl rfl Try.func12 (by kernel_rfl) rfl #[.slice Ao63 t327.length co63, .int .i64 1] rfl (by (try simp only [List.map_toArray, List.map_cons, List.map_nil]); first | done | rfl | (simp only [List.length_drop, List.length_take]; rfl)) ?_; (with_reducible refine (laws_heldInt64S.calls kj61 _ _ t327 1 t339 _ ?side1 ?side2 A77.out).mono ?_); (case side1 => repeat (first | exact (Kd.R_reads' HO_9.out).2.2 | (with_reducible refine Kd.C_alloc ?_ _) | (with_reducible refine Kd.C_drewN ?_ _) | (with_reducible refine Kd.C_drew ?_))); (case side2 => exact (Kd.R_reads' HO_9.out).2.1); rintro e w' ⟨rfl, ⟨nd, rfl⟩⟩; refine ⟨_, rfl, ?_⟩))
                   go_ret
                   exact ⟨by first | rfl | (simp [errW_none, errW_some] <;> rfl) | (simp [*, errW_none, errW_some] <;> rfl), by repeat (first | (with_reducible first | exact HB.out | apply below_alloc | apply pw_below_drewN | apply below_drew1 | refine below_set ?_ GE295.out | refine below_set ?_ GE311.out) | exact HB.out)⟩
                 · rw [if_neg c78] at H
                   have c78b0 : decide (t339 < 0) = false := decide_eq_false c78
                   clear c78
                   by_cases c79 : t339 = t326
                   rotate_left
                   · rw [if_neg c79] at H
                     have c79b0 : (t339 == t326) = false := beq_eq_false_iff_ne.mpr c79
                     have c79b1 : (t339 != t326) = true := bne_iff_ne.mpr c79
                     obtain rfl := Option.some.inj H
                     go_wp2_with (first | ((with_reducible refine gate_callee (f := 12) rfl ?_); refine goesL_ (some 95) rfl rfl Try.func12 (by kernel_rfl) rfl #[.slice Ao63 t327.length co63, .int .i64 1] rfl (by (try simp only [List.map_toArray, List.map_cons, List.map_nil]); first | done | rfl | (simp only [List.length_drop, List.length_take]; rfl)) ?_; (with_reducible refine (laws_heldInt64S.calls kj61 _ _ t327 1 t339 _ ?side1 ?side2 A77.out).mono ?_); (case side1 => repeat (first | exact (Kd.R_reads' HO_9.out).2.2 | (with_reducible refine Kd.C_alloc ?_ _) | (with_reducible refine Kd.C_drewN ?_ _) | (with_reducible refine Kd.C_drew ?_))); (case side2 => exact (Kd.R_reads' HO_9.out).2.1); rintro e w' ⟨rfl, ⟨nd, rfl⟩⟩; refine ⟨_, rfl, ?_⟩))
                     go_ret
                     exact ⟨by first | rfl | (simp [errW_none, errW_some] <;> rfl) | (simp [*, errW_none, errW_some] <;> rfl), by repeat (first | (with_reducible first | exact HB.out | apply below_alloc | apply pw_below_drewN | apply below_drew1 | refine below_set ?_ GE295.out | refine below_set ?_ GE311.out) | exact HB.out)⟩
                   rw [if_pos c79] at H
                   have c79b0 : (t339 == t326) = true := beq_iff_eq.mpr c79
                   have c79b1 : (t339 != t326) = false := bne_eq_false_iff_eq.mpr c79
                   clear c79
                   obtain rfl := Option.some.inj H
                   go_wp2_with (first | ((with_reducible refine gate_callee (f := 12) rfl ?_); refine goesL_ (some 95) rfl rfl Try.func12 (by kernel_rfl) rfl #[.slice Ao63 t327.length co63, .int .i64 1] rfl (by (try simp only [List.map_toArray, List.map_cons, List.map_nil]); first | done | rfl | (simp only [List.length_drop, List.length_take]; rfl)) ?_; (with_reducible refine (laws_heldInt64S.calls kj61 _ _ t327 1 t339 _ ?side1 ?side2 A77.out).mono ?_); (case side1 => repeat (first | exact (Kd.R_reads' HO_9.out).2.2 | (with_reducible refine Kd.C_alloc ?_ _) | (with_reducible refine Kd.C_drewN ?_ _) | (with_reducible refine Kd.C_drew ?_))); (case side2 => exact (Kd.R_reads' HO_9.out).2.1); rintro e w' ⟨rfl, ⟨nd, rfl⟩⟩; refine ⟨_, rfl, ?_⟩))
                   go_ret
                   exact ⟨by first | rfl | (simp [errW_none, errW_some] <;> rfl) | (simp [*, errW_none, errW_some] <;> rfl), by repeat (first | (with_reducible first | exact HB.out | apply below_alloc | apply pw_below_drewN | apply below_drew1 | refine below_set ?_ GE295.out | refine below_set ?_ GE311.out) | exact HB.out)⟩
def G24 (x : S24) : Prop := (Lit.int .i64 x.f0).wf = true ∧ (Lit.int .i64 x.f1).wf = true ∧ (x.f2.length ≤ maxLen ∧ ∀ y0 ∈ x.f2, (Lit.int .i64 y0).wf = true)

/-- THE ONE PURE STATEMENT of laws_FnExactTileNeighbours. -/
def laws_FnExactTileNeighbours.Pure : Prop := ∀ (a0_0 : Int) (a0_1 : Int) (l0_2 : List Int) (a1 : Int), G24 (⟨a0_0, a0_1, l0_2⟩ : S24) → (Lit.int .i64 a1).wf = true → ∃ k, laws_FnExactTileNeighbours.f k a0_0 a0_1 l0_2 a1 = some true

end Go.Proofs.Ytopopjkoanpjiaa.GFnExactTileNeighbours

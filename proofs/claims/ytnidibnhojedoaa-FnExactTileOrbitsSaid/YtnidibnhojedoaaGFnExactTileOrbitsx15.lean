-- Written by the session's own program (gen.py) out of the translation's print. Lean checks it.
import Derived.Test.YtnidibnhojedoaaGFnExactTileOrbitsx0
import Derived.Test.YtnidibnhojedoaaGFnExactTileOrbitsx1
import Derived.Test.YtnidibnhojedoaaGFnExactTileOrbitsx8
import Derived.Test.YtnidibnhojedoaaGFnExactTileOrbitsx14
namespace Go.Proofs.Ytnidibnhojedoaa.GFnExactTileOrbits
open Go.RowKit Go.Proofs.YtnidibnhojedoaaW.PrintWords Go.Proofs.YtnidibnhojedoaaW.PrintLast Go.Proofs.YtnidibnhojedoaaW.PrintMore
attribute [local go_sem] max2_int min2_int max_two min_two max_three min_three max_four min_four   -- for this text's walks alone
set_option linter.unusedVariables false
set_option linter.unusedSimpArgs false

/-! ### laws_FnExactTileOrbits: function 13 -/
mutual
def laws_FnExactTileOrbits.j0 : Nat → List Int → Int → List Int → Int → Bool → Int → Int → List Int → Int → Int → List Int → Option (Bool)
  | 0, _, _, _, _, _, _, _, _, _, _, _ => none
  | k + 1, x4, x5, x7, x8, x40, x412000, x412001, x412002, x428000, x428001, x428002 => if x40 = true then (some false) else ((laws_toTiling.f k x412000 x412001 x412002).bind fun bt433 => ((laws_eqTiling.f k x428000 x428001 x428002 bt433.1 bt433.2.1 bt433.2.2).bind fun t438 => (if t438 = true then ((laws_markTiling.f k x428000 x428001 x428002 1).bind fun bt439 => (if bt439.1 < 0 then (laws_FnExactTileOrbits.j1 k x4 x5 x7 true x412000 x412001 x412002) else ((laws_eqInt64S.f k x7 x4).bind fun t441 => (if t441 = true then (laws_FnExactTileOrbits.j1 k x4 x5 x7 (x8 != x5) x412000 x412001 x412002) else (laws_FnExactTileOrbits.j1 k x4 x5 x7 true x412000 x412001 x412002))))) else (some false))))
def laws_FnExactTileOrbits.j1 : Nat → List Int → Int → List Int → Bool → Int → Int → List Int → Option (Bool)
  | 0, _, _, _, _, _, _, _ => none
  | k + 1, x4, x5, x7, x61, x412000, x412001, x412002 => if x61 = true then (some false) else ((laws_markInt64S.f k x7 1).bind fun bt442 => ((laws_heldInt64S.f k bt442.2 1).bind fun t444 => (if t444 < 0 then (some false) else (if t444 = bt442.1 then ((laws_toTiling.f k x412000 x412001 x412002).bind fun bt445 => ((impl_TileOrbits.f k bt445.1 bt445.2.1 bt445.2.2).bind fun bt450 => ((laws_eqInt64S.f k bt450.1 x4).bind fun t454 => (if t454 = true then (laws_FnExactTileOrbits.j2 k bt442.2 bt442.1 (bt450.2 != x5)) else (laws_FnExactTileOrbits.j2 k bt442.2 bt442.1 true))))) else (some false)))))
def laws_FnExactTileOrbits.j2 : Nat → List Int → Int → Bool → Option (Bool)
  | 0, _, _, _ => none
  | k + 1, x7, x10, x87 => if x87 = true then (some false) else ((laws_heldInt64S.f k x7 1).bind fun t455 => (if t455 < 0 then (some false) else (if t455 = x10 then (some true) else (some false))))
end
def laws_FnExactTileOrbits.f (k : Nat) (a0_0 : Int) (a0_1 : Int) (l0_2 : List Int) : Option (Bool) := (laws_szTiling.f a0_0 a0_1 l0_2 1048576).bind fun t412 => (if t412 < 0 then (some true) else ((laws_toTiling.f k a0_0 a0_1 l0_2).bind fun bt413 => ((spec_TileOrbits.f k bt413.1 bt413.2.1 bt413.2.2).bind fun bt418 => ((laws_toTiling.f k a0_0 a0_1 l0_2).bind fun bt422 => ((impl_TileOrbits.f k bt422.1 bt422.2.1 bt422.2.2).bind fun bt428 => ((laws_eqInt64S.f k bt428.1 bt418.1).bind fun t432 => (if t432 = true then (laws_FnExactTileOrbits.j0 k bt418.1 bt418.2 bt428.1 bt428.2 (bt428.2 != bt418.2) a0_0 a0_1 l0_2 bt422.1 bt422.2.1 bt422.2.2) else (laws_FnExactTileOrbits.j0 k bt418.1 bt418.2 bt428.1 bt428.2 true a0_0 a0_1 l0_2 bt422.1 bt422.2.1 bt422.2.2))))))))
theorem laws_FnExactTileOrbits.mono_l : ∀ k, (∀ y0 y1 y2 y3 y4 y5 y6 y7 y8 y9 y10, LeO (laws_FnExactTileOrbits.j0 k y0 y1 y2 y3 y4 y5 y6 y7 y8 y9 y10) (laws_FnExactTileOrbits.j0 (k + 1) y0 y1 y2 y3 y4 y5 y6 y7 y8 y9 y10)) ∧ (∀ y0 y1 y2 y3 y4 y5 y6, LeO (laws_FnExactTileOrbits.j1 k y0 y1 y2 y3 y4 y5 y6) (laws_FnExactTileOrbits.j1 (k + 1) y0 y1 y2 y3 y4 y5 y6)) ∧ (∀ y0 y1 y2, LeO (laws_FnExactTileOrbits.j2 k y0 y1 y2) (laws_FnExactTileOrbits.j2 (k + 1) y0 y1 y2))
  | 0 => ⟨fun _ _ _ _ _ _ _ _ _ _ _ r h => by simp [laws_FnExactTileOrbits.j0] at h, fun _ _ _ _ _ _ _ r h => by simp [laws_FnExactTileOrbits.j1] at h, fun _ _ _ r h => by simp [laws_FnExactTileOrbits.j2] at h⟩
  | k + 1 => by
    obtain ⟨ih0, ih1, ih2⟩ := laws_FnExactTileOrbits.mono_l k
    refine ⟨?_, ?_, ?_⟩
    · intro y0 y1 y2 y3 y4 y5 y6 y7 y8 y9 y10
      unfold laws_FnExactTileOrbits.j0
      repeat' first
      | (with_reducible exact ih0 _ _ _ _ _ _ _ _ _ _ _)
      | (with_reducible exact ih1 _ _ _ _ _ _ _)
      | (with_reducible exact ih2 _ _ _)
      | (with_reducible exact impl_TileOrbits.mono _ _ _ _)
      | (with_reducible exact laws_eqInt64S.mono _ _ _)
      | (with_reducible exact laws_eqTiling.mono _ _ _ _ _ _ _)
      | (with_reducible exact laws_heldInt64S.mono _ _ _)
      | (with_reducible exact laws_markInt64S.mono _ _ _)
      | (with_reducible exact laws_markTiling.mono _ _ _ _ _)
      | (with_reducible exact laws_toTiling.mono _ _ _ _)
      | (with_reducible exact spec_TileOrbits.mono _ _ _ _)
      | (with_reducible exact LeO.refl _)
      | (with_reducible exact LeO.none _)
      | (with_reducible refine LeO.ite ?_ ?_)
      | (with_reducible refine LeO.bind ?_ (fun _ => ?_))
      | exact ih0 _ _ _ _ _ _ _ _ _ _ _
      | exact ih1 _ _ _ _ _ _ _
      | exact ih2 _ _ _
      | exact impl_TileOrbits.mono _ _ _ _
      | exact laws_eqInt64S.mono _ _ _
      | exact laws_eqTiling.mono _ _ _ _ _ _ _
      | exact laws_heldInt64S.mono _ _ _
      | exact laws_markInt64S.mono _ _ _
      | exact laws_markTiling.mono _ _ _ _ _
      | exact laws_toTiling.mono _ _ _ _
      | exact spec_TileOrbits.mono _ _ _ _
      | exact LeO.none _
      | refine LeO.ite ?_ ?_
      | refine LeO.bind ?_ (fun _ => ?_)
    · intro y0 y1 y2 y3 y4 y5 y6
      unfold laws_FnExactTileOrbits.j1
      repeat' first
      | (with_reducible exact ih0 _ _ _ _ _ _ _ _ _ _ _)
      | (with_reducible exact ih1 _ _ _ _ _ _ _)
      | (with_reducible exact ih2 _ _ _)
      | (with_reducible exact impl_TileOrbits.mono _ _ _ _)
      | (with_reducible exact laws_eqInt64S.mono _ _ _)
      | (with_reducible exact laws_eqTiling.mono _ _ _ _ _ _ _)
      | (with_reducible exact laws_heldInt64S.mono _ _ _)
      | (with_reducible exact laws_markInt64S.mono _ _ _)
      | (with_reducible exact laws_markTiling.mono _ _ _ _ _)
      | (with_reducible exact laws_toTiling.mono _ _ _ _)
      | (with_reducible exact spec_TileOrbits.mono _ _ _ _)
      | (with_reducible exact LeO.refl _)
      | (with_reducible exact LeO.none _)
      | (with_reducible refine LeO.ite ?_ ?_)
      | (with_reducible refine LeO.bind ?_ (fun _ => ?_))
      | exact ih0 _ _ _ _ _ _ _ _ _ _ _
      | exact ih1 _ _ _ _ _ _ _
      | exact ih2 _ _ _
      | exact impl_TileOrbits.mono _ _ _ _
      | exact laws_eqInt64S.mono _ _ _
      | exact laws_eqTiling.mono _ _ _ _ _ _ _
      | exact laws_heldInt64S.mono _ _ _
      | exact laws_markInt64S.mono _ _ _
      | exact laws_markTiling.mono _ _ _ _ _
      | exact laws_toTiling.mono _ _ _ _
      | exact spec_TileOrbits.mono _ _ _ _
      | exact LeO.none _
      | refine LeO.ite ?_ ?_
      | refine LeO.bind ?_ (fun _ => ?_)
    · intro y0 y1 y2
      unfold laws_FnExactTileOrbits.j2
      repeat' first
      | (with_reducible exact ih0 _ _ _ _ _ _ _ _ _ _ _)
      | (with_reducible exact ih1 _ _ _ _ _ _ _)
      | (with_reducible exact ih2 _ _ _)
      | (with_reducible exact impl_TileOrbits.mono _ _ _ _)
      | (with_reducible exact laws_eqInt64S.mono _ _ _)
      | (with_reducible exact laws_eqTiling.mono _ _ _ _ _ _ _)
      | (with_reducible exact laws_heldInt64S.mono _ _ _)
      | (with_reducible exact laws_markInt64S.mono _ _ _)
      | (with_reducible exact laws_markTiling.mono _ _ _ _ _)
      | (with_reducible exact laws_toTiling.mono _ _ _ _)
      | (with_reducible exact spec_TileOrbits.mono _ _ _ _)
      | (with_reducible exact LeO.refl _)
      | (with_reducible exact LeO.none _)
      | (with_reducible refine LeO.ite ?_ ?_)
      | (with_reducible refine LeO.bind ?_ (fun _ => ?_))
      | exact ih0 _ _ _ _ _ _ _ _ _ _ _
      | exact ih1 _ _ _ _ _ _ _
      | exact ih2 _ _ _
      | exact impl_TileOrbits.mono _ _ _ _
      | exact laws_eqInt64S.mono _ _ _
      | exact laws_eqTiling.mono _ _ _ _ _ _ _
      | exact laws_heldInt64S.mono _ _ _
      | exact laws_markInt64S.mono _ _ _
      | exact laws_markTiling.mono _ _ _ _ _
      | exact laws_toTiling.mono _ _ _ _
      | exact spec_TileOrbits.mono _ _ _ _
      | exact LeO.none _
      | refine LeO.ite ?_ ?_
      | refine LeO.bind ?_ (fun _ => ?_)
theorem laws_FnExactTileOrbits.mono : ∀ a0 a1 a2 k, LeO (laws_FnExactTileOrbits.f k a0 a1 a2) (laws_FnExactTileOrbits.f (k + 1) a0 a1 a2) := by
  intro a0 a1 a2 k
  obtain ⟨ih0, ih1, ih2⟩ := laws_FnExactTileOrbits.mono_l k
  unfold laws_FnExactTileOrbits.f
  repeat' first
      | (with_reducible exact ih0 _ _ _ _ _ _ _ _ _ _ _)
      | (with_reducible exact ih1 _ _ _ _ _ _ _)
      | (with_reducible exact ih2 _ _ _)
      | (with_reducible exact impl_TileOrbits.mono _ _ _ _)
      | (with_reducible exact laws_eqInt64S.mono _ _ _)
      | (with_reducible exact laws_eqTiling.mono _ _ _ _ _ _ _)
      | (with_reducible exact laws_heldInt64S.mono _ _ _)
      | (with_reducible exact laws_markInt64S.mono _ _ _)
      | (with_reducible exact laws_markTiling.mono _ _ _ _ _)
      | (with_reducible exact laws_toTiling.mono _ _ _ _)
      | (with_reducible exact spec_TileOrbits.mono _ _ _ _)
      | (with_reducible exact LeO.refl _)
      | (with_reducible exact LeO.none _)
      | (with_reducible refine LeO.ite ?_ ?_)
      | (with_reducible refine LeO.bind ?_ (fun _ => ?_))
      | exact ih0 _ _ _ _ _ _ _ _ _ _ _
      | exact ih1 _ _ _ _ _ _ _
      | exact ih2 _ _ _
      | exact impl_TileOrbits.mono _ _ _ _
      | exact laws_eqInt64S.mono _ _ _
      | exact laws_eqTiling.mono _ _ _ _ _ _ _
      | exact laws_heldInt64S.mono _ _ _
      | exact laws_markInt64S.mono _ _ _
      | exact laws_markTiling.mono _ _ _ _ _
      | exact laws_toTiling.mono _ _ _ _
      | exact spec_TileOrbits.mono _ _ _ _
      | exact LeO.none _
      | refine LeO.ite ?_ ?_
      | refine LeO.bind ?_ (fun _ => ?_)
open List renaming setIfInBounds_toArray → sA, set_cons_zero → sB, set_cons_succ → sC
open Go.Proofs.YtnidibnhojedoaaW.PrintWords.Aside0 renaming mk → mkA
open Go.Proofs.YtnidibnhojedoaaX (dt_ bc_ p0_ p1_ bl_ cb_ bs0_ bs1_ bs2_ bs3_ bs4_ bs5_ bs6_ bs7_ bs8_ bs9_ bs10_ bs11_ bs12_)
set_option maxHeartbeats 8000000 in
set_option maxRecDepth 100000 in
theorem laws_FnExactTileOrbits.calls (k : Nat) (a0_0 : Int) (a0_1 : Int) (A0_2 : Option Addr) (c0_2 : Nat) (l0_2 : List Int) (r : Bool) (w : World) (hr0_2 : Kd.C (Kd.int .i64) w A0_2 l0_2.length l0_2) (hc0_2 : l0_2.length ≤ c0_2) (h : laws_FnExactTileOrbits.f k a0_0 a0_1 l0_2 = some r) :
 Calls Try.prog 13 #[.agg #[.int .i64 a0_0, .int .i64 a0_1, .slice A0_2 l0_2.length c0_2]] w fun e w' => e = .returned (.bool r) ∧ Below w.heap.size w w' := by
 have hu24 := Try.underlying24
 have hu29 := Try.underlying29
 have HR0_2 := mkA hr0_2
 have HC0_2 := mkA hc0_2
 clear hr0_2 hc0_2
 have HB := mkA (Below.refl w.heap.size w)
 have H : ((laws_szTiling.f a0_0 a0_1 l0_2 1048576).bind fun t412 => (if t412 < 0 then (some true) else ((laws_toTiling.f k a0_0 a0_1 l0_2).bind fun bt413 => ((spec_TileOrbits.f k bt413.1 bt413.2.1 bt413.2.2).bind fun bt418 => ((laws_toTiling.f k a0_0 a0_1 l0_2).bind fun bt422 => ((impl_TileOrbits.f k bt422.1 bt422.2.1 bt422.2.2).bind fun bt428 => ((laws_eqInt64S.f k bt428.1 bt418.1).bind fun t432 => (if t432 = true then (laws_FnExactTileOrbits.j0 k bt418.1 bt418.2 bt428.1 bt428.2 (bt428.2 != bt418.2) a0_0 a0_1 l0_2 bt422.1 bt422.2.1 bt422.2.2) else (laws_FnExactTileOrbits.j0 k bt418.1 bt418.2 bt428.1 bt428.2 true a0_0 a0_1 l0_2 bt422.1 bt422.2.1 bt422.2.2))))))))) = some r := h
 clear h
 replace H := Option.bind_eq_some_iff.mp H
 obtain ⟨t412, A20, H⟩ := H
 replace H : (if t412 < 0 then (some true) else ((laws_toTiling.f k a0_0 a0_1 l0_2).bind fun bt413 => ((spec_TileOrbits.f k bt413.1 bt413.2.1 bt413.2.2).bind fun bt418 => ((laws_toTiling.f k a0_0 a0_1 l0_2).bind fun bt422 => ((impl_TileOrbits.f k bt422.1 bt422.2.1 bt422.2.2).bind fun bt428 => ((laws_eqInt64S.f k bt428.1 bt418.1).bind fun t432 => (if t432 = true then (laws_FnExactTileOrbits.j0 k bt418.1 bt418.2 bt428.1 bt428.2 (bt428.2 != bt418.2) a0_0 a0_1 l0_2 bt422.1 bt422.2.1 bt422.2.2) else (laws_FnExactTileOrbits.j0 k bt418.1 bt418.2 bt428.1 bt428.2 true a0_0 a0_1 l0_2 bt422.1 bt422.2.1 bt422.2.2)))))))) = some r := H
 have A2 := mkA A20
 clear A20
 by_cases c3 : t412 < 0
 · rw [if_pos c3] at H
   have c3b0 : decide (t412 < 0) = true := decide_eq_true c3
   clear c3
   obtain rfl := Option.some.inj H
   go_enter Try.func13, Try.ntmps13
   go_wp2_with (first | ((with_reducible refine gate_dst (N := 1) rfl ?_); refine box_event ?hg (N := 1) ?hd (cs := #[.int .i64 a0_0, .int .i64 a0_1, .slice A0_2 l0_2.length c0_2]) (t := 24) ?hr ?_; (case hd => rfl); (case hg => rfl); (case hr => first | (go_simp; done) | (go_simp; rfl)); intro gb411 hg w4 hbox hb; have n0_ := mkA (below_step (bs0_ HB.out) hb); have n1_ := mkA (hbox); have n2_ := mkA ((by rw [hg]; exact (below_size (bs0_ HB.out)) : w.heap.size ≤ gb411)); have n3_ := mkA ((by rw [hg]; exact (below_size (bs0_ HB.out)) : w.heap.size ≤ gb411)); clear HB; have HB := n0_; have BK411 := n1_; have GW411 := n2_; have GE411 := n3_; clear n0_ n1_ n2_ n3_; clear hb hbox hg; have hcz5_0 : w4.cell? ⟨gb411, 0, none⟩ = some (.int .i64 a0_0) := (blk_cell BK411.out 0).trans rfl; have hcz5_1 : w4.cell? ⟨gb411, 1, none⟩ = some (.int .i64 a0_1) := (blk_cell BK411.out 1).trans rfl; have hcz5_2 : w4.cell? ⟨gb411, 2, none⟩ = some (.slice A0_2 l0_2.length c0_2) := (blk_cell BK411.out 2).trans rfl; have hfz5_0 := blk_frozen BK411.out 0; have hfz5_1 := blk_frozen BK411.out 1; have hfz5_2 := blk_frozen BK411.out 2) | ((with_reducible refine gate_callee (f := 15) rfl ?_); refine goesL_ (some 16) rfl rfl Try.func15 (by kernel_rfl) rfl #[.agg #[.int .i64 a0_0, .int .i64 a0_1, .slice A0_2 l0_2.length c0_2], .int .i64 1048576] rfl (by (try simp only [List.map_toArray, List.map_cons, List.map_nil]); first | done | rfl | (simp only [List.length_drop, List.length_take]; rfl)) ?_; (with_reducible refine (laws_szTiling.calls a0_0 a0_1 _ _ l0_2 1048576 t412 _ ?side1 ?side2 A2.out).mono ?_); (case side1 => exact cb_ HR0_2.out HB.out); (case side2 => exact HC0_2.out); rintro e w6 ⟨rfl, hb⟩; refine ⟨_, rfl, ?_⟩; have n0_ := mkA (blk_below (g := gb411) (o := .cells #[.int .i64 a0_0, .int .i64 a0_1, .slice A0_2 l0_2.length c0_2] 24 (0, 0)) (bl_ BK411.out) hb); have n1_ := mkA (below_step (bs1_ HB.out GE411.out) hb); clear BK411; clear HB; have BK411 := n0_; have HB := n1_; clear n0_ n1_; (try clear hb); (try clear hb2); (try clear hk); (try clear hi)))
   go_ret
   exact ⟨by first | rfl | (simp [errW_none, errW_some] <;> rfl) | (simp [*, errW_none, errW_some] <;> rfl), by repeat (first | (with_reducible first | exact HB.out | apply below_alloc | apply pw_below_drewN | apply below_drew1 | refine below_set ?_ GE411.out) | exact HB.out)⟩
 · rw [if_neg c3] at H
   have c3b0 : decide (t412 < 0) = false := decide_eq_false c3
   clear c3
   replace H := Option.bind_eq_some_iff.mp H
   obtain ⟨⟨t413, t414, t415⟩, A70, H⟩ := H
   replace H : ((spec_TileOrbits.f k t413 t414 t415).bind fun bt418 => ((laws_toTiling.f k a0_0 a0_1 l0_2).bind fun bt422 => ((impl_TileOrbits.f k bt422.1 bt422.2.1 bt422.2.2).bind fun bt428 => ((laws_eqInt64S.f k bt428.1 bt418.1).bind fun t432 => (if t432 = true then (laws_FnExactTileOrbits.j0 k bt418.1 bt418.2 bt428.1 bt428.2 (bt428.2 != bt418.2) a0_0 a0_1 l0_2 bt422.1 bt422.2.1 bt422.2.2) else (laws_FnExactTileOrbits.j0 k bt418.1 bt418.2 bt428.1 bt428.2 true a0_0 a0_1 l0_2 bt422.1 bt422.2.1 bt422.2.2)))))) = some r := H
   have A7 := mkA A70
   clear A70
   replace H := Option.bind_eq_some_iff.mp H
   obtain ⟨⟨t418, t421⟩, A80, H⟩ := H
   replace H : ((laws_toTiling.f k a0_0 a0_1 l0_2).bind fun bt422 => ((impl_TileOrbits.f k bt422.1 bt422.2.1 bt422.2.2).bind fun bt428 => ((laws_eqInt64S.f k bt428.1 t418).bind fun t432 => (if t432 = true then (laws_FnExactTileOrbits.j0 k t418 t421 bt428.1 bt428.2 (bt428.2 != t421) a0_0 a0_1 l0_2 bt422.1 bt422.2.1 bt422.2.2) else (laws_FnExactTileOrbits.j0 k t418 t421 bt428.1 bt428.2 true a0_0 a0_1 l0_2 bt422.1 bt422.2.1 bt422.2.2))))) = some r := H
   have A8 := mkA A80
   clear A80
   replace H := Option.bind_eq_some_iff.mp H
   obtain ⟨⟨t422, t423, t424⟩, A90, H⟩ := H
   replace H : ((impl_TileOrbits.f k t422 t423 t424).bind fun bt428 => ((laws_eqInt64S.f k bt428.1 t418).bind fun t432 => (if t432 = true then (laws_FnExactTileOrbits.j0 k t418 t421 bt428.1 bt428.2 (bt428.2 != t421) a0_0 a0_1 l0_2 t422 t423 t424) else (laws_FnExactTileOrbits.j0 k t418 t421 bt428.1 bt428.2 true a0_0 a0_1 l0_2 t422 t423 t424)))) = some r := H
   have A9 := mkA A90
   clear A90
   replace H := Option.bind_eq_some_iff.mp H
   obtain ⟨⟨t428, t431⟩, A100, H⟩ := H
   replace H : ((laws_eqInt64S.f k t428 t418).bind fun t432 => (if t432 = true then (laws_FnExactTileOrbits.j0 k t418 t421 t428 t431 (t431 != t421) a0_0 a0_1 l0_2 t422 t423 t424) else (laws_FnExactTileOrbits.j0 k t418 t421 t428 t431 true a0_0 a0_1 l0_2 t422 t423 t424))) = some r := H
   have A10 := mkA A100
   clear A100
   have HC11 := mkA H
   clear H
   go_enter Try.func13, Try.ntmps13
   go_upto_region 8 with (first | ((with_reducible refine gate_dst (N := 1) rfl ?_); refine box_event ?hg (N := 1) ?hd (cs := #[.int .i64 a0_0, .int .i64 a0_1, .slice A0_2 l0_2.length c0_2]) (t := 24) ?hr ?_; (case hd => rfl); (case hg => rfl); (case hr => first | (go_simp; done) | (go_simp; rfl)); intro gb411 hg w12 hbox hb; have n0_ := mkA (below_step (bs0_ HB.out) hb); have n1_ := mkA (hbox); have n2_ := mkA ((by rw [hg]; exact (below_size (bs0_ HB.out)) : w.heap.size ≤ gb411)); have n3_ := mkA ((by rw [hg]; exact (below_size (bs0_ HB.out)) : w.heap.size ≤ gb411)); clear HB; have HB := n0_; have BK411 := n1_; have GW411 := n2_; have GE411 := n3_; clear n0_ n1_ n2_ n3_; clear hb hbox hg; have hcz13_0 : w12.cell? ⟨gb411, 0, none⟩ = some (.int .i64 a0_0) := (blk_cell BK411.out 0).trans rfl; have hcz13_1 : w12.cell? ⟨gb411, 1, none⟩ = some (.int .i64 a0_1) := (blk_cell BK411.out 1).trans rfl; have hcz13_2 : w12.cell? ⟨gb411, 2, none⟩ = some (.slice A0_2 l0_2.length c0_2) := (blk_cell BK411.out 2).trans rfl; have hfz13_0 := blk_frozen BK411.out 0; have hfz13_1 := blk_frozen BK411.out 1; have hfz13_2 := blk_frozen BK411.out 2) | ((with_reducible refine gate_callee (f := 15) rfl ?_); refine goesL_ (some 16) rfl rfl Try.func15 (by kernel_rfl) rfl #[.agg #[.int .i64 a0_0, .int .i64 a0_1, .slice A0_2 l0_2.length c0_2], .int .i64 1048576] rfl (by (try simp only [List.map_toArray, List.map_cons, List.map_nil]); first | done | rfl | (simp only [List.length_drop, List.length_take]; rfl)) ?_; (with_reducible refine (laws_szTiling.calls a0_0 a0_1 _ _ l0_2 1048576 t412 _ ?side1 ?side2 A2.out).mono ?_); (case side1 => exact cb_ HR0_2.out HB.out); (case side2 => exact HC0_2.out); rintro e w14 ⟨rfl, hb⟩; refine ⟨_, rfl, ?_⟩; have n0_ := mkA (blk_below (g := gb411) (o := .cells #[.int .i64 a0_0, .int .i64 a0_1, .slice A0_2 l0_2.length c0_2] 24 (0, 0)) (bl_ BK411.out) hb); have n1_ := mkA (below_step (bs1_ HB.out GE411.out) hb); clear BK411; clear HB; have BK411 := n0_; have HB := n1_; clear n0_ n1_; (try clear hb); (try clear hb2); (try clear hk); (try clear hi); have hcz15_0 : w14.cell? ⟨gb411, 0, none⟩ = some (.int .i64 a0_0) := (blk_cell BK411.out 0).trans rfl; have hcz15_1 : w14.cell? ⟨gb411, 1, none⟩ = some (.int .i64 a0_1) := (blk_cell BK411.out 1).trans rfl; have hcz15_2 : w14.cell? ⟨gb411, 2, none⟩ = some (.slice A0_2 l0_2.length c0_2) := (blk_cell BK411.out 2).trans rfl; have hfz15_0 := blk_frozen BK411.out 0; have hfz15_1 := blk_frozen BK411.out 1; have hfz15_2 := blk_frozen BK411.out 2) | ((with_reducible refine gate_callee (f := 17) rfl ?_); refine goesL_ (some 21) rfl rfl Try.func17 (by kernel_rfl) rfl #[.agg #[.int .i64 a0_0, .int .i64 a0_1, .slice A0_2 l0_2.length c0_2]] rfl (by (try simp only [List.map_toArray, List.map_cons, List.map_nil]); first | done | rfl | (simp only [List.length_drop, List.length_take]; rfl)) ?_; (with_reducible refine (laws_toTiling.calls k a0_0 a0_1 _ _ l0_2 t413 t414 t415 _ ?side1 ?side2 A7.out).mono ?_); (case side1 => exact cb_ HR0_2.out HB.out); (case side2 => exact HC0_2.out); rintro e w16 ⟨v416, rfl, ho0, hb⟩; refine ⟨_, rfl, ?_⟩; have n0_ := mkA (Kd.R_lower ho0 (below_size (bs1_ HB.out GE411.out))); have n1_ := mkA (blk_below (g := gb411) (o := .cells #[.int .i64 a0_0, .int .i64 a0_1, .slice A0_2 l0_2.length c0_2] 24 (0, 0)) (bl_ BK411.out) hb); have n2_ := mkA (below_step (bs1_ HB.out GE411.out) hb); clear BK411; clear HB; have HO417 := n0_; have BK411 := n1_; have HB := n2_; clear n0_ n1_ n2_; (try clear hb); (try clear hb2); (try clear hk); (try clear hi); (try clear ho0); obtain ⟨Ao17, co17, eo17⟩ := Kd.R_slice HO417.out; subst eo17) | ((with_reducible refine gate_callee (f := 45) rfl ?_); refine goesL_ (some 22) rfl rfl Try.func45 (by kernel_rfl) rfl #[.agg #[.int .i64 t413, .int .i64 t414, .slice Ao17 t415.length co17]] rfl (by (try simp only [List.map_toArray, List.map_cons, List.map_nil]); first | done | rfl | (simp only [List.length_drop, List.length_take]; rfl)) ?_; (with_reducible refine (spec_TileOrbits.calls k t413 t414 _ _ t415 t418 t421 _ ?side1 ?side2 A8.out).mono ?_); (case side1 => repeat (first | exact (Kd.R_reads' HO417.out).2.2 | (with_reducible refine Kd.C_alloc ?_ _) | (with_reducible refine Kd.C_drewN ?_ _) | (with_reducible refine Kd.C_drew ?_))); (case side2 => exact (Kd.R_reads' HO417.out).2.1); rintro e w18 ⟨v419, rfl, ho0, hb⟩; refine ⟨_, rfl, ?_⟩; have n0_ := mkA (Kd.R_elder' (by (with_reducible repeat (first | apply Kd.R_alloc | apply Kd.R_drewN | apply Kd.R_drew)); exact HO417.out) (Kd.R_base ho0) hb); have n1_ := mkA (Kd.R_lower (Kd.R_new' ho0 (Kd.R_lt (by (with_reducible repeat (first | apply Kd.R_alloc | apply Kd.R_drewN | apply Kd.R_drew)); exact HO417.out))) (below_size (bs1_ HB.out GE411.out))); have n2_ := mkA (blk_below (g := gb411) (o := .cells #[.int .i64 a0_0, .int .i64 a0_1, .slice A0_2 l0_2.length c0_2] 24 (0, 0)) (bl_ BK411.out) hb); have n3_ := mkA (below_step (bs1_ HB.out GE411.out) hb); clear HO417; clear BK411; clear HB; have HO417 := n0_; have HO420 := n1_; have BK411 := n2_; have HB := n3_; clear n0_ n1_ n2_ n3_; (try clear hb); (try clear hb2); (try clear hk); (try clear hi); (try clear ho0); have hcz19_0 : w18.cell? ⟨gb411, 0, none⟩ = some (.int .i64 a0_0) := (blk_cell BK411.out 0).trans rfl; have hcz19_1 : w18.cell? ⟨gb411, 1, none⟩ = some (.int .i64 a0_1) := (blk_cell BK411.out 1).trans rfl; have hcz19_2 : w18.cell? ⟨gb411, 2, none⟩ = some (.slice A0_2 l0_2.length c0_2) := (blk_cell BK411.out 2).trans rfl; have hfz19_0 := blk_frozen BK411.out 0; have hfz19_1 := blk_frozen BK411.out 1; have hfz19_2 := blk_frozen BK411.out 2) | ((with_reducible refine gate_callee (f := 17) rfl ?_); refine goesL_ (some 26) rfl rfl Try.func17 (by kernel_rfl) rfl #[.agg #[.int .i64 a0_0, .int .i64 a0_1, .slice A0_2 l0_2.length c0_2]] rfl (by (try simp only [List.map_toArray, List.map_cons, List.map_nil]); first | done | rfl | (simp only [List.length_drop, List.length_take]; rfl)) ?_; (with_reducible refine (laws_toTiling.calls k a0_0 a0_1 _ _ l0_2 t422 t423 t424 _ ?side1 ?side2 A9.out).mono ?_); (case side1 => exact cb_ HR0_2.out HB.out); (case side2 => exact HC0_2.out); rintro e w20 ⟨v425, rfl, ho0, hb⟩; refine ⟨_, rfl, ?_⟩; have n0_ := mkA (Kd.R_elder' (by (with_reducible repeat (first | apply Kd.R_alloc | apply Kd.R_drewN | apply Kd.R_drew)); exact HO417.out) (Kd.R_base ho0) hb); have n1_ := mkA (Kd.R_elder' (by (with_reducible repeat (first | apply Kd.R_alloc | apply Kd.R_drewN | apply Kd.R_drew)); exact HO420.out) (Kd.R_base ho0) hb); have n2_ := mkA (Kd.R_lower (Kd.R_new' (Kd.R_new' ho0 (Kd.R_lt (by (with_reducible repeat (first | apply Kd.R_alloc | apply Kd.R_drewN | apply Kd.R_drew)); exact HO417.out))) (Kd.R_lt (by (with_reducible repeat (first | apply Kd.R_alloc | apply Kd.R_drewN | apply Kd.R_drew)); exact HO420.out))) (below_size (bs1_ HB.out GE411.out))); have n3_ := mkA (blk_below (g := gb411) (o := .cells #[.int .i64 a0_0, .int .i64 a0_1, .slice A0_2 l0_2.length c0_2] 24 (0, 0)) (bl_ BK411.out) hb); have n4_ := mkA (below_step (bs1_ HB.out GE411.out) hb); clear HO417; clear HO420; clear BK411; clear HB; have HO417 := n0_; have HO420 := n1_; have HO426 := n2_; have BK411 := n3_; have HB := n4_; clear n0_ n1_ n2_ n3_ n4_; (try clear hb); (try clear hb2); (try clear hk); (try clear hi); (try clear ho0)) | ((with_reducible refine gate_dst (N := 6) rfl ?_); refine box_event ?hg (N := 6) ?hd (cs := #[.int .i64 0, .int .i64 0, .slice none 0 0]) (t := 29) ?hr ?_; (case hd => rfl); (case hg => rfl); (case hr => first | (go_simp; done) | (go_simp; rfl)); intro gb427 hg w21 hbox hb; have n0_ := mkA (Kd.R_below (by (with_reducible repeat (first | apply Kd.R_alloc | apply Kd.R_drewN | apply Kd.R_drew)); exact HO417.out) hb); have n1_ := mkA (Kd.R_below (by (with_reducible repeat (first | apply Kd.R_alloc | apply Kd.R_drewN | apply Kd.R_drew)); exact HO420.out) hb); have n2_ := mkA (Kd.R_below (by (with_reducible repeat (first | apply Kd.R_alloc | apply Kd.R_drewN | apply Kd.R_drew)); exact HO426.out) hb); have n3_ := mkA (blk_below (g := gb411) (o := .cells #[.int .i64 a0_0, .int .i64 a0_1, .slice A0_2 l0_2.length c0_2] 24 (0, 0)) (bl_ BK411.out) hb); have n4_ := mkA (below_step (bs1_ HB.out GE411.out) hb); have n5_ := mkA (hbox); have n6_ := mkA ((by rw [hg]; exact (below_size (bs1_ HB.out GE411.out)) : w.heap.size ≤ gb427)); have n7_ := mkA ((by rw [hg]; exact (below_size (bs1_ HB.out GE411.out)) : w.heap.size ≤ gb427)); have n8_ := mkA ((by rw [hg]; exact Nat.ne_of_lt (blk_lt (g := gb411) (o := .cells #[.int .i64 a0_0, .int .i64 a0_1, .slice A0_2 l0_2.length c0_2] 24 (0, 0)) (bl_ BK411.out)) : gb411 ≠ gb427)); have n9_ := mkA ((by rw [hg]; exact Nat.ne_of_gt (blk_lt (g := gb411) (o := .cells #[.int .i64 a0_0, .int .i64 a0_1, .slice A0_2 l0_2.length c0_2] 24 (0, 0)) (bl_ BK411.out)) : gb427 ≠ gb411)); clear HO417; clear HO420; clear HO426; clear BK411; clear HB; have HO417 := n0_; have HO420 := n1_; have HO426 := n2_; have BK411 := n3_; have HB := n4_; have BK427 := n5_; have GW427 := n6_; have GE427 := n7_; have NB411_427 := n8_; have NB427_411 := n9_; clear n0_ n1_ n2_ n3_ n4_ n5_ n6_ n7_ n8_ n9_; clear hb hbox hg; have hnb22 := NB427_411.out; have hnc22 := NB411_427.out; have hcz23_0 : w21.cell? ⟨gb427, 0, none⟩ = some (.int .i64 0) := (blk_cell BK427.out 0).trans rfl; have hcz23_1 : w21.cell? ⟨gb427, 1, none⟩ = some (.int .i64 0) := (blk_cell BK427.out 1).trans rfl; have hcz23_2 : w21.cell? ⟨gb427, 2, none⟩ = some (.slice none 0 0) := (blk_cell BK427.out 2).trans rfl; have hfz23_0 := blk_frozen BK427.out 0; have hfz23_1 := blk_frozen BK427.out 1; have hfz23_2 := blk_frozen BK427.out 2; obtain ⟨Ao24, co24, eo24⟩ := Kd.R_slice HO426.out; subst eo24) | ((with_reducible refine gate_callee (f := 46) rfl ?_); refine goesL_ (some 29) rfl rfl Try.func46 (by kernel_rfl) rfl #[.agg #[.int .i64 t422, .int .i64 t423, .slice Ao24 t424.length co24]] rfl (by (try simp only [List.map_toArray, List.map_cons, List.map_nil]); first | done | rfl | (simp only [List.length_drop, List.length_take]; rfl)) ?_; (with_reducible refine (impl_TileOrbits.calls k t422 t423 _ _ t424 t428 t431 _ ?side1 ?side2 A10.out).mono ?_); (case side1 => refine (Kd.R_reads' (e := 2) (base := w.heap.size) (ok := fun k_ => ((True ∧ some k_ ≠ (.slice Ao17 t415.length co17 : Value).ownBlock) ∧ some k_ ≠ (v419 : Value).ownBlock)) (n := t424.length) (c := co24) ?_).2.2; exact (by (with_reducible repeat (first | apply Kd.R_alloc | apply Kd.R_drewN | apply Kd.R_drew)); exact (Kd.R_mono (Kd.R_far (p := ⟨gb427, 2, none⟩) (Kd.R_far (p := ⟨gb427, 1, none⟩) (Kd.R_far (p := ⟨gb427, 0, none⟩) (Kd.R_types HO426.out BK427.out (by decide)) (fun _ hk => hk.2) (.int .i64 t422)) (fun _ hk => hk.2) (.int .i64 t423)) (fun _ hk => hk.2) (.slice Ao24 t424.length co24)) (fun _ h_ => h_.1)))); (case side2 => exact (Kd.R_reads' HO426.out).2.1); rintro e w25 ⟨v429, rfl, ho0, hb⟩; refine ⟨_, rfl, ?_⟩; have n0_ := mkA (Kd.R_elder' (by (with_reducible repeat (first | apply Kd.R_alloc | apply Kd.R_drewN | apply Kd.R_drew)); exact (Kd.R_mono (Kd.R_far (p := ⟨gb427, 2, none⟩) (Kd.R_far (p := ⟨gb427, 1, none⟩) (Kd.R_far (p := ⟨gb427, 0, none⟩) (Kd.R_types HO417.out BK427.out (by decide)) (fun _ hk => hk.2) (.int .i64 t422)) (fun _ hk => hk.2) (.int .i64 t423)) (fun _ hk => hk.2) (.slice Ao24 t424.length co24)) (fun _ h_ => h_.1))) (Kd.R_base ho0) hb); have n1_ := mkA (Kd.R_elder' (by (with_reducible repeat (first | apply Kd.R_alloc | apply Kd.R_drewN | apply Kd.R_drew)); exact (Kd.R_mono (Kd.R_far (p := ⟨gb427, 2, none⟩) (Kd.R_far (p := ⟨gb427, 1, none⟩) (Kd.R_far (p := ⟨gb427, 0, none⟩) (Kd.R_types HO420.out BK427.out (by decide)) (fun _ hk => hk.2) (.int .i64 t422)) (fun _ hk => hk.2) (.int .i64 t423)) (fun _ hk => hk.2) (.slice Ao24 t424.length co24)) (fun _ h_ => h_.1))) (Kd.R_base ho0) hb); have n2_ := mkA (Kd.R_elder' (by (with_reducible repeat (first | apply Kd.R_alloc | apply Kd.R_drewN | apply Kd.R_drew)); exact (Kd.R_mono (Kd.R_far (p := ⟨gb427, 2, none⟩) (Kd.R_far (p := ⟨gb427, 1, none⟩) (Kd.R_far (p := ⟨gb427, 0, none⟩) (Kd.R_types HO426.out BK427.out (by decide)) (fun _ hk => hk.2) (.int .i64 t422)) (fun _ hk => hk.2) (.int .i64 t423)) (fun _ hk => hk.2) (.slice Ao24 t424.length co24)) (fun _ h_ => h_.1))) (Kd.R_base ho0) hb); have n3_ := mkA (Kd.R_lower (Kd.R_new' (Kd.R_new' (Kd.R_new' ho0 (Kd.R_lt (by (with_reducible repeat (first | apply Kd.R_alloc | apply Kd.R_drewN | apply Kd.R_drew)); exact (Kd.R_mono (Kd.R_far (p := ⟨gb427, 2, none⟩) (Kd.R_far (p := ⟨gb427, 1, none⟩) (Kd.R_far (p := ⟨gb427, 0, none⟩) (Kd.R_types HO417.out BK427.out (by decide)) (fun _ hk => hk.2) (.int .i64 t422)) (fun _ hk => hk.2) (.int .i64 t423)) (fun _ hk => hk.2) (.slice Ao24 t424.length co24)) (fun _ h_ => h_.1))))) (Kd.R_lt (by (with_reducible repeat (first | apply Kd.R_alloc | apply Kd.R_drewN | apply Kd.R_drew)); exact (Kd.R_mono (Kd.R_far (p := ⟨gb427, 2, none⟩) (Kd.R_far (p := ⟨gb427, 1, none⟩) (Kd.R_far (p := ⟨gb427, 0, none⟩) (Kd.R_types HO420.out BK427.out (by decide)) (fun _ hk => hk.2) (.int .i64 t422)) (fun _ hk => hk.2) (.int .i64 t423)) (fun _ hk => hk.2) (.slice Ao24 t424.length co24)) (fun _ h_ => h_.1))))) (Kd.R_lt (by (with_reducible repeat (first | apply Kd.R_alloc | apply Kd.R_drewN | apply Kd.R_drew)); exact (Kd.R_mono (Kd.R_far (p := ⟨gb427, 2, none⟩) (Kd.R_far (p := ⟨gb427, 1, none⟩) (Kd.R_far (p := ⟨gb427, 0, none⟩) (Kd.R_types HO426.out BK427.out (by decide)) (fun _ hk => hk.2) (.int .i64 t422)) (fun _ hk => hk.2) (.int .i64 t423)) (fun _ hk => hk.2) (.slice Ao24 t424.length co24)) (fun _ h_ => h_.1))))) (below_size (bs2_ HB.out GE411.out GE427.out))); have n4_ := mkA (blk_below (g := gb411) (o := .cells #[.int .i64 a0_0, .int .i64 a0_1, .slice A0_2 l0_2.length c0_2] 24 (0, 0)) (by (with_reducible repeat (first | refine blk_drewN ?_ _ | refine blk_drew ?_ | refine blk_alloc ?_ _)); refine blk_far ?_ NB411_427.out _; (with_reducible repeat (first | refine blk_drewN ?_ _ | refine blk_drew ?_ | refine blk_alloc ?_ _)); refine blk_far ?_ NB411_427.out _; (with_reducible repeat (first | refine blk_drewN ?_ _ | refine blk_drew ?_ | refine blk_alloc ?_ _)); refine blk_far ?_ NB411_427.out _; (with_reducible repeat (first | refine blk_drewN ?_ _ | refine blk_drew ?_ | refine blk_alloc ?_ _)); exact BK411.out) hb); have n5_ := mkA (blk_below (g := gb427) (o := .cells #[.int .i64 t422, .int .i64 t423, .slice Ao24 t424.length co24] 29 (0, 0)) (by (with_reducible repeat (first | refine blk_drewN ?_ _ | refine blk_drew ?_ | refine blk_alloc ?_ _)); refine blk_put (cs := #[.int .i64 t422, .int .i64 t423, .slice none 0 0]) ?_ 2 _ rfl; (with_reducible repeat (first | refine blk_drewN ?_ _ | refine blk_drew ?_ | refine blk_alloc ?_ _)); refine blk_put (cs := #[.int .i64 t422, .int .i64 0, .slice none 0 0]) ?_ 1 _ rfl; (with_reducible repeat (first | refine blk_drewN ?_ _ | refine blk_drew ?_ | refine blk_alloc ?_ _)); refine blk_put (cs := #[.int .i64 0, .int .i64 0, .slice none 0 0]) ?_ 0 _ rfl; (with_reducible repeat (first | refine blk_drewN ?_ _ | refine blk_drew ?_ | refine blk_alloc ?_ _)); exact BK427.out) hb); have n6_ := mkA (below_step (bs2_ HB.out GE411.out GE427.out) hb); clear HO417; clear HO420; clear HO426; clear BK411; clear BK427; clear HB; have HO417 := n0_; have HO420 := n1_; have HO426 := n2_; have HO430 := n3_; have BK411 := n4_; have BK427 := n5_; have HB := n6_; clear n0_ n1_ n2_ n3_ n4_ n5_ n6_; (try clear hb); (try clear hb2); (try clear hk); (try clear hi); (try clear ho0)))
   (try simp only [Act.put, sA, sB, sC])
   go_cut [40] (fun v40 wc => ∃ (kq : Nat) (x40_10 : Bool), v40 = .bool x40_10 ∧ Aside0 (laws_FnExactTileOrbits.j0 kq t418 t421 t428 t431 x40_10 a0_0 a0_1 l0_2 t422 t423 t424 = some r) ∧ Aside0 (kq ≤ k) ∧ Aside0 (Kd.R (Kd.int .i64) 2 wc w.heap.size (fun k_ => some k_ ≠ (v429 : Value).ownBlock ∧ some k_ ≠ ((.slice Ao24 t424.length co24) : Value).ownBlock) v419 t418) ∧ Aside0 (Kd.R (Kd.int .i64) 2 wc w.heap.size (fun k_ => some k_ ≠ (v419 : Value).ownBlock ∧ some k_ ≠ ((.slice Ao24 t424.length co24) : Value).ownBlock) v429 t428) ∧ Aside0 (Kd.R (Kd.int .i64) 2 wc w.heap.size (fun k_ => some k_ ≠ (v419 : Value).ownBlock ∧ some k_ ≠ (v429 : Value).ownBlock) (.slice Ao24 t424.length co24) t424) ∧ Aside0 (wc.heap[gb411]? = some (.cells #[.int .i64 a0_0, .int .i64 a0_1, (.slice A0_2 l0_2.length c0_2)] 24 (0, 0))) ∧ Aside0 (wc.heap[gb427]? = some (.cells #[.int .i64 t422, .int .i64 t423, (.slice Ao24 t424.length co24)] 29 (0, 0))) ∧ Aside0 (Below w.heap.size w wc))
   case first =>
    have H := HC11.out
    clear HC11
    replace H := Option.bind_eq_some_iff.mp H
    obtain ⟨t432, A260, H⟩ := H
    replace H : (if t432 = true then (laws_FnExactTileOrbits.j0 k t418 t421 t428 t431 (t431 != t421) a0_0 a0_1 l0_2 t422 t423 t424) else (laws_FnExactTileOrbits.j0 k t418 t421 t428 t431 true a0_0 a0_1 l0_2 t422 t423 t424)) = some r := H
    have A26 := mkA A260
    clear A260
    by_cases c27 : t432 = true
    · subst c27
      have H1 : (laws_FnExactTileOrbits.j0 k t418 t421 t428 t431 (t431 != t421) a0_0 a0_1 l0_2 t422 t423 t424) = some r := by rw [if_pos rfl] at H; exact H
      clear H
      have H := H1
      clear H1
      have H' := mkA H
      clear H
      obtain ⟨Ao28, co28, eo28⟩ := Kd.R_slice HO430.out
      subst eo28
      obtain ⟨Ao29, co29, eo29⟩ := Kd.R_slice HO420.out
      subst eo29
      go_wp2_with (first | ((with_reducible refine gate_callee (f := 25) rfl ?_); refine goesL_ (some 34) rfl rfl Try.func25 (by kernel_rfl) rfl #[.slice Ao28 t428.length co28, .slice Ao29 t418.length co29] rfl (by (try simp only [List.map_toArray, List.map_cons, List.map_nil]); first | done | rfl | (simp only [List.length_drop, List.length_take]; rfl)) ?_; (with_reducible refine (laws_eqInt64S.calls k _ _ t428 _ _ t418 true _ ?side1 ?side2 ?side3 ?side4 A26.out).mono ?_); (case side1 => repeat (first | exact (Kd.R_reads' HO430.out).2.2 | (with_reducible refine Kd.C_alloc ?_ _) | (with_reducible refine Kd.C_drewN ?_ _) | (with_reducible refine Kd.C_drew ?_))); (case side2 => exact (Kd.R_reads' HO430.out).2.1); (case side3 => repeat (first | exact (Kd.R_reads' HO420.out).2.2 | (with_reducible refine Kd.C_alloc ?_ _) | (with_reducible refine Kd.C_drewN ?_ _) | (with_reducible refine Kd.C_drew ?_))); (case side4 => exact (Kd.R_reads' HO420.out).2.1); rintro e w' ⟨rfl, ⟨nd, rfl⟩⟩; refine ⟨_, rfl, ?_⟩))
      go_meet
      case rel => exact ⟨_, ((t431 != t421)), (by first | rfl | (simp; done) | (simp [*]; done) | (simp [i64_w, i32_w]; done)), H', ⟨by first | omega | exact Nat.le_refl _⟩, ⟨by (with_reducible repeat (first | apply Kd.R_alloc | apply Kd.R_drewN | apply Kd.R_drew)); exact Kd.R_mono HO420.out (fun _ hk => ⟨hk.2, hk.1.2⟩)⟩, ⟨by (with_reducible repeat (first | apply Kd.R_alloc | apply Kd.R_drewN | apply Kd.R_drew)); exact Kd.R_mono HO430.out (fun _ hk => ⟨hk.1.2, hk.2⟩)⟩, ⟨by (with_reducible repeat (first | apply Kd.R_alloc | apply Kd.R_drewN | apply Kd.R_drew)); exact Kd.R_mono HO426.out (fun _ hk => ⟨hk.1.2, hk.2⟩)⟩, ⟨by (with_reducible repeat (first | refine blk_drewN ?_ _ | refine blk_drew ?_ | refine blk_alloc ?_ _)); exact BK411.out⟩, ⟨by (with_reducible repeat (first | refine blk_drewN ?_ _ | refine blk_drew ?_ | refine blk_alloc ?_ _)); exact BK427.out⟩, ⟨by repeat (first | (with_reducible first | exact HB.out | apply below_alloc | apply pw_below_drewN | apply below_drew1 | refine below_set ?_ GE411.out | refine below_set ?_ GE427.out) | exact HB.out)⟩⟩
    · replace c27 := Bool.eq_false_iff.mpr c27
      subst c27
      have H1 : (laws_FnExactTileOrbits.j0 k t418 t421 t428 t431 true a0_0 a0_1 l0_2 t422 t423 t424) = some r := by rw [if_neg (show ¬ (false = true) by decide)] at H; exact H
      clear H
      have H := H1
      clear H1
      have H' := mkA H
      clear H
      obtain ⟨Ao30, co30, eo30⟩ := Kd.R_slice HO430.out
      subst eo30
      obtain ⟨Ao31, co31, eo31⟩ := Kd.R_slice HO420.out
      subst eo31
      go_wp2_with (first | ((with_reducible refine gate_callee (f := 25) rfl ?_); refine goesL_ (some 34) rfl rfl Try.func25 (by kernel_rfl) rfl #[.slice Ao30 t428.length co30, .slice Ao31 t418.length co31] rfl (by (try simp only [List.map_toArray, List.map_cons, List.map_nil]); first | done | rfl | (simp only [List.length_drop, List.length_take]; rfl)) ?_; (with_reducible refine (laws_eqInt64S.calls k _ _ t428 _ _ t418 false _ ?side1 ?side2 ?side3 ?side4 A26.out).mono ?_); (case side1 => repeat (first | exact (Kd.R_reads' HO430.out).2.2 | (with_reducible refine Kd.C_alloc ?_ _) | (with_reducible refine Kd.C_drewN ?_ _) | (with_reducible refine Kd.C_drew ?_))); (case side2 => exact (Kd.R_reads' HO430.out).2.1); (case side3 => repeat (first | exact (Kd.R_reads' HO420.out).2.2 | (with_reducible refine Kd.C_alloc ?_ _) | (with_reducible refine Kd.C_drewN ?_ _) | (with_reducible refine Kd.C_drew ?_))); (case side4 => exact (Kd.R_reads' HO420.out).2.1); rintro e w' ⟨rfl, ⟨nd, rfl⟩⟩; refine ⟨_, rfl, ?_⟩))
      go_meet
      case rel => exact ⟨_, (true), (by first | rfl | (simp; done) | (simp [*]; done) | (simp [i64_w, i32_w]; done)), H', ⟨by first | omega | exact Nat.le_refl _⟩, ⟨by (with_reducible repeat (first | apply Kd.R_alloc | apply Kd.R_drewN | apply Kd.R_drew)); exact Kd.R_mono HO420.out (fun _ hk => ⟨hk.2, hk.1.2⟩)⟩, ⟨by (with_reducible repeat (first | apply Kd.R_alloc | apply Kd.R_drewN | apply Kd.R_drew)); exact Kd.R_mono HO430.out (fun _ hk => ⟨hk.1.2, hk.2⟩)⟩, ⟨by (with_reducible repeat (first | apply Kd.R_alloc | apply Kd.R_drewN | apply Kd.R_drew)); exact Kd.R_mono HO426.out (fun _ hk => ⟨hk.1.2, hk.2⟩)⟩, ⟨by (with_reducible repeat (first | refine blk_drewN ?_ _ | refine blk_drew ?_ | refine blk_alloc ?_ _)); exact BK411.out⟩, ⟨by (with_reducible repeat (first | refine blk_drewN ?_ _ | refine blk_drew ?_ | refine blk_alloc ?_ _)); exact BK427.out⟩, ⟨by repeat (first | (with_reducible first | exact HB.out | apply below_alloc | apply pw_below_drewN | apply below_drew1 | refine below_set ?_ GE411.out | refine below_set ?_ GE427.out) | exact HB.out)⟩⟩
   case rest =>
    clear HC11
    try clear c1
    try clear c2
    try clear p2
    try clear c3
    try clear c3b0
    try clear c4
    try clear c13
    try clear c15
    try clear c17
    try clear c22
    try clear c25
    try clear c27
    try clear hcz13_0
    try clear hcz13_1
    try clear hcz13_2
    try clear hcz15_0
    try clear hcz15_1
    try clear hcz15_2
    try clear hcz19_0
    try clear hcz19_1
    try clear hcz19_2
    try clear hcz23_0
    try clear hcz23_1
    try clear hcz23_2
    try clear hcz5_0
    try clear hcz5_1
    try clear hcz5_2
    try clear hfz13_0
    try clear hfz13_1
    try clear hfz13_2
    try clear hfz15_0
    try clear hfz15_1
    try clear hfz15_2
    try clear hfz19_0
    try clear hfz19_1
    try clear hfz19_2
    try clear hfz23_0
    try clear hfz23_1
    try clear hfz23_2
    try clear hfz5_0
    try clear hfz5_1
    try clear hfz5_2
    obtain ⟨kq, x40_10, rfl, HA, HJ10, HO_4, HO_7, HO_428002, BK411, BK427, HB⟩ := hcut
    cases kq with
    | zero => exact absurd HA.out (by simp [laws_FnExactTileOrbits.j0])
    | succ kj10 =>
     have H := HA.out
     clear HA
     simp only [laws_FnExactTileOrbits.j0] at H
     by_cases c32 : x40_10 = true
     · subst c32
       have H1 : (some false) = some r := by rw [if_pos rfl] at H; exact H
       clear H
       have H := H1
       clear H1
       obtain rfl := Option.some.inj H
       go_wp2
       go_ret
       exact ⟨by first | rfl | (simp [errW_none, errW_some] <;> rfl) | (simp [*, errW_none, errW_some] <;> rfl), by repeat (first | (with_reducible first | exact HB.out | apply below_alloc | apply pw_below_drewN | apply below_drew1 | refine below_set ?_ GE411.out | refine below_set ?_ GE427.out) | exact HB.out)⟩
     · replace c32 := Bool.eq_false_iff.mpr c32
       subst c32
       have H1 : ((laws_toTiling.f kj10 a0_0 a0_1 l0_2).bind fun bt433 => ((laws_eqTiling.f kj10 t422 t423 t424 bt433.1 bt433.2.1 bt433.2.2).bind fun t438 => (if t438 = true then ((laws_markTiling.f kj10 t422 t423 t424 1).bind fun bt439 => (if bt439.1 < 0 then (laws_FnExactTileOrbits.j1 kj10 t418 t421 t428 true a0_0 a0_1 l0_2) else ((laws_eqInt64S.f kj10 t428 t418).bind fun t441 => (if t441 = true then (laws_FnExactTileOrbits.j1 kj10 t418 t421 t428 (t431 != t421) a0_0 a0_1 l0_2) else (laws_FnExactTileOrbits.j1 kj10 t418 t421 t428 true a0_0 a0_1 l0_2))))) else (some false)))) = some r := by rw [if_neg (show ¬ (false = true) by decide)] at H; exact H
       clear H
       have H := H1
       clear H1
       replace H := Option.bind_eq_some_iff.mp H
       obtain ⟨⟨t433, t434, t435⟩, A330, H⟩ := H
       replace H : ((laws_eqTiling.f kj10 t422 t423 t424 t433 t434 t435).bind fun t438 => (if t438 = true then ((laws_markTiling.f kj10 t422 t423 t424 1).bind fun bt439 => (if bt439.1 < 0 then (laws_FnExactTileOrbits.j1 kj10 t418 t421 t428 true a0_0 a0_1 l0_2) else ((laws_eqInt64S.f kj10 t428 t418).bind fun t441 => (if t441 = true then (laws_FnExactTileOrbits.j1 kj10 t418 t421 t428 (t431 != t421) a0_0 a0_1 l0_2) else (laws_FnExactTileOrbits.j1 kj10 t418 t421 t428 true a0_0 a0_1 l0_2))))) else (some false))) = some r := H
       have A33 := mkA A330
       clear A330
       replace H := Option.bind_eq_some_iff.mp H
       obtain ⟨t438, A340, H⟩ := H
       replace H : (if t438 = true then ((laws_markTiling.f kj10 t422 t423 t424 1).bind fun bt439 => (if bt439.1 < 0 then (laws_FnExactTileOrbits.j1 kj10 t418 t421 t428 true a0_0 a0_1 l0_2) else ((laws_eqInt64S.f kj10 t428 t418).bind fun t441 => (if t441 = true then (laws_FnExactTileOrbits.j1 kj10 t418 t421 t428 (t431 != t421) a0_0 a0_1 l0_2) else (laws_FnExactTileOrbits.j1 kj10 t418 t421 t428 true a0_0 a0_1 l0_2))))) else (some false)) = some r := H
       have A34 := mkA A340
       clear A340
       by_cases c35 : t438 = true
       rotate_left
       · replace c35 := Bool.eq_false_iff.mpr c35
         subst c35
         have H1 : (some false) = some r := by rw [if_neg (show ¬ (false = true) by decide)] at H; exact H
         clear H
         have H := H1
         clear H1
         obtain rfl := Option.some.inj H
         try go_wp2
         have n0_ := mkA (Kd.R_drew HO_4.out)
         have n1_ := mkA (Kd.R_drew HO_7.out)
         have n2_ := mkA (Kd.R_drew HO_428002.out)
         have n3_ := mkA (blk_drew BK411.out)
         have n4_ := mkA (blk_drew BK427.out)
         have n5_ := mkA (below_drew1 HB.out)
         clear HO_4
         clear HO_7
         clear HO_428002
         clear BK411
         clear BK427
         clear HB
         have HO_4 := n0_
         have HO_7 := n1_
         have HO_428002 := n2_
         have BK411 := n3_
         have BK427 := n4_
         have HB := n5_
         clear n0_ n1_ n2_ n3_ n4_ n5_
         refine start_ (n := 5) (S := fun w' => w'.cell? ⟨gb427, 0, none⟩ = some (.int .i64 t422) ∧ w'.cell? ⟨gb427, 1, none⟩ = some (.int .i64 t423) ∧ w'.cell? ⟨gb427, 2, none⟩ = some (.slice Ao24 t424.length co24) ∧ w'.cell? ⟨gb411, 0, none⟩ = some (.int .i64 a0_0) ∧ w'.cell? ⟨gb411, 1, none⟩ = some (.int .i64 a0_1) ∧ w'.cell? ⟨gb411, 2, none⟩ = some (.slice A0_2 l0_2.length c0_2)) (ds := []) #[false, false, false, false, false] (by kernel_rfl) rfl rfl ⟨(blk_cell BK427.out 0).trans rfl, (blk_cell BK427.out 1).trans rfl, (blk_cell BK427.out 2).trans rfl, (blk_cell BK411.out 0).trans rfl, (blk_cell BK411.out 1).trans rfl, (blk_cell BK411.out 2).trans rfl⟩ (fun hHeld => ?_)
         generalize wc.drew = w81 at HO_4 HO_7 HO_428002 BK411 BK427 HB hHeld ⊢
         refine take_ (i := 0) (N := some 41) (v := ?_) (a' := ?_) #[true, false, false, false, false] rfl rfl (by kernel_rfl) (fun _ _ _ h => h) (Or.inl ⟨by rfl, ?_⟩) hHeld ?_ ?_
         rotate_left
         · rintro w' ⟨s0, s1, s2, s3, s4, s5⟩
           go_simp
           with_reducible rfl
         rotate_left
         · simp only [Act.put, sA, sB, sC, i64_w, i32_w]
           rfl
         refine take_ (i := 1) (N := some 42) (v := ?_) (a' := ?_) #[true, true, false, false, false] rfl rfl (by kernel_rfl) (fun _ _ _ h => h) (Or.inl ⟨by rfl, ?_⟩) hHeld ?_ ?_
         rotate_left
         · rintro w' ⟨s0, s1, s2, s3, s4, s5⟩
           go_simp
           with_reducible rfl
         rotate_left
         · simp only [Act.put, sA, sB, sC, i64_w, i32_w]
           rfl
         refine one_ (i := 2) (N := some 43) #[true, true, true, false, false] rfl rfl (by kernel_rfl) (by decide) (fun K hK => ?_)
         refine goes_ Try.func17 (by kernel_rfl) rfl #[.agg #[.int .i64 a0_0, .int .i64 a0_1, .slice A0_2 l0_2.length c0_2]] (by rfl) rfl rfl (by (try simp only [List.map_toArray, List.map_cons, List.map_nil]); first | done | rfl | (simp only [List.length_drop, List.length_take]; rfl)) ?_
         with_reducible refine (laws_toTiling.calls kj10 a0_0 a0_1 _ _ l0_2 t433 t434 t435 _ ?side1 ?side2 A33.out).mono ?_
         (case side1 => exact cb_ HR0_2.out HB.out)
         (case side2 => exact HC0_2.out)
         rintro e w82 ⟨v436, rfl, ho0, hb⟩
         refine ⟨_, rfl, ?_⟩
         have n0_ := mkA (Kd.R_elder' (by (with_reducible repeat (first | apply Kd.R_alloc | apply Kd.R_drewN | apply Kd.R_drew)); exact HO_4.out) (Kd.R_base ho0) hb)
         have n1_ := mkA (Kd.R_elder' (by (with_reducible repeat (first | apply Kd.R_alloc | apply Kd.R_drewN | apply Kd.R_drew)); exact HO_7.out) (Kd.R_base ho0) hb)
         have n2_ := mkA (Kd.R_elder' (by (with_reducible repeat (first | apply Kd.R_alloc | apply Kd.R_drewN | apply Kd.R_drew)); exact HO_428002.out) (Kd.R_base ho0) hb)
         have n3_ := mkA (Kd.R_lower (Kd.R_new' (Kd.R_new' (Kd.R_new' ho0 (Kd.R_lt (by (with_reducible repeat (first | apply Kd.R_alloc | apply Kd.R_drewN | apply Kd.R_drew)); exact HO_4.out))) (Kd.R_lt (by (with_reducible repeat (first | apply Kd.R_alloc | apply Kd.R_drewN | apply Kd.R_drew)); exact HO_7.out))) (Kd.R_lt (by (with_reducible repeat (first | apply Kd.R_alloc | apply Kd.R_drewN | apply Kd.R_drew)); exact HO_428002.out))) (below_size (bs2_ HB.out GE411.out GE427.out)))
         have n4_ := mkA (blk_below (g := gb411) (o := .cells #[.int .i64 a0_0, .int .i64 a0_1, .slice A0_2 l0_2.length c0_2] 24 (0, 0)) (bl_ BK411.out) hb)
         have n5_ := mkA (blk_below (g := gb427) (o := .cells #[.int .i64 t422, .int .i64 t423, .slice Ao24 t424.length co24] 29 (0, 0)) (bl_ BK427.out) hb)
         have n6_ := mkA (below_step (bs2_ HB.out GE411.out GE427.out) hb)
         clear HO_4
         clear HO_7
         clear HO_428002
         clear BK411
         clear BK427
         clear HB
         have HO_4 := n0_
         have HO_7 := n1_
         have HO_428002 := n2_
         have HO437 := n3_
         have BK411 := n4_
         have BK427 := n5_
         have HB := n6_
         clear n0_ n1_ n2_ n3_ n4_ n5_ n6_
         (try clear hb)
         (try clear hb2)
         (try clear hk)
         (try clear hi)
         (try clear ho0)
         obtain ⟨Ao83, co83, eo83⟩ := Kd.R_slice HO437.out
         (first | subst eo83 | (injection eo83 with f1_ f2_ f3_; have f4_ := f1_.symm; have f5_ := f3_.symm; clear f1_ f2_ f3_; subst f4_; subst f5_))
         refine hK.out _ _ ⟨(blk_cell BK427.out 0).trans rfl, (blk_cell BK427.out 1).trans rfl, (blk_cell BK427.out 2).trans rfl, (blk_cell BK411.out 0).trans rfl, (blk_cell BK411.out 1).trans rfl, (blk_cell BK411.out 2).trans rfl⟩ (fun hHeld => ?_)
         clear hK K
         refine norm_ (a' := ?_) ?_ ?_
         rotate_left
         · show Act.put _ (some 43) _ = _
           simp only [Act.put, sA, sB, sC, i64_w, i32_w]
           rfl
         refine one_ (i := 3) (N := some 44) #[true, true, true, true, false] rfl rfl (by kernel_rfl) (by decide) (fun K hK => ?_)
         refine goes_ Try.func20 (by kernel_rfl) rfl #[.agg #[.int .i64 t422, .int .i64 t423, .slice Ao24 t424.length co24], .agg #[.int .i64 t433, .int .i64 t434, .slice Ao83 t435.length co83]] (by rfl) rfl rfl (by (try simp only [List.map_toArray, List.map_cons, List.map_nil]); first | done | rfl | (simp only [List.length_drop, List.length_take]; rfl)) ?_
         with_reducible refine (laws_eqTiling.calls kj10 t422 t423 _ _ t424 t433 t434 _ _ t435 false _ ?side1 ?side2 ?side3 ?side4 A34.out).mono ?_
         (case side1 => repeat (first | exact (Kd.R_reads' HO_428002.out).2.2 | (with_reducible refine Kd.C_alloc ?_ _) | (with_reducible refine Kd.C_drewN ?_ _) | (with_reducible refine Kd.C_drew ?_)))
         (case side2 => exact (Kd.R_reads' HO_428002.out).2.1)
         (case side3 => repeat (first | exact (Kd.R_reads' HO437.out).2.2 | (with_reducible refine Kd.C_alloc ?_ _) | (with_reducible refine Kd.C_drewN ?_ _) | (with_reducible refine Kd.C_drew ?_)))
         (case side4 => exact (Kd.R_reads' HO437.out).2.1)
         rintro e w84 ⟨rfl, hb⟩
         refine ⟨_, rfl, ?_⟩
         have n0_ := mkA (Kd.R_below (by (with_reducible repeat (first | apply Kd.R_alloc | apply Kd.R_drewN | apply Kd.R_drew)); exact HO_4.out) hb)
         have n1_ := mkA (Kd.R_below (by (with_reducible repeat (first | apply Kd.R_alloc | apply Kd.R_drewN | apply Kd.R_drew)); exact HO_7.out) hb)
         have n2_ := mkA (Kd.R_below (by (with_reducible repeat (first | apply Kd.R_alloc | apply Kd.R_drewN | apply Kd.R_drew)); exact HO_428002.out) hb)
         have n3_ := mkA (Kd.R_below (by (with_reducible repeat (first | apply Kd.R_alloc | apply Kd.R_drewN | apply Kd.R_drew)); exact HO437.out) hb)
         have n4_ := mkA (blk_below (g := gb411) (o := .cells #[.int .i64 a0_0, .int .i64 a0_1, .slice A0_2 l0_2.length c0_2] 24 (0, 0)) (bl_ BK411.out) hb)
         have n5_ := mkA (blk_below (g := gb427) (o := .cells #[.int .i64 t422, .int .i64 t423, .slice Ao24 t424.length co24] 29 (0, 0)) (bl_ BK427.out) hb)
         have n6_ := mkA (below_step (bs2_ HB.out GE411.out GE427.out) hb)
         clear HO_4
         clear HO_7
         clear HO_428002
         clear HO437
         clear BK411
         clear BK427
         clear HB
         have HO_4 := n0_
         have HO_7 := n1_
         have HO_428002 := n2_
         have HO437 := n3_
         have BK411 := n4_
         have BK427 := n5_
         have HB := n6_
         clear n0_ n1_ n2_ n3_ n4_ n5_ n6_
         (try clear hb)
         (try clear hb2)
         (try clear hk)
         (try clear hi)
         refine hK.out _ _ ⟨(blk_cell BK427.out 0).trans rfl, (blk_cell BK427.out 1).trans rfl, (blk_cell BK427.out 2).trans rfl, (blk_cell BK411.out 0).trans rfl, (blk_cell BK411.out 1).trans rfl, (blk_cell BK411.out 2).trans rfl⟩ (fun hHeld => ?_)
         clear hK K
         refine norm_ (a' := ?_) ?_ ?_
         rotate_left
         · show Act.put _ (some 44) _ = _
           simp only [Act.put, sA, sB, sC, i64_w, i32_w]
           rfl
         refine pure_ (i := 4) (N := some 45) (v := ?_) (a' := ?_) #[true, true, true, true, true] rfl rfl (by kernel_rfl) (fun _ _ _ h => h) (Or.inl ⟨by rfl, ?_⟩) ?_ ?_
         rotate_left
         · intro w'
           go_simp
           with_reducible rfl
         rotate_left
         · simp only [Act.put, sA, sB, sC, i64_w, i32_w]
           rfl
         refine done_ (by kernel_rfl) ?_
         try go_wp2
         go_ret
         exact ⟨by first | rfl | (simp [errW_none, errW_some] <;> rfl) | (simp [*, errW_none, errW_some] <;> rfl), by repeat (first | (with_reducible first | exact HB.out | apply below_alloc | apply pw_below_drewN | apply below_drew1 | refine below_set ?_ GE411.out | refine below_set ?_ GE427.out) | exact HB.out)⟩
       subst c35
       have H1 : ((laws_markTiling.f kj10 t422 t423 t424 1).bind fun bt439 => (if bt439.1 < 0 then (laws_FnExactTileOrbits.j1 kj10 t418 t421 t428 true a0_0 a0_1 l0_2) else ((laws_eqInt64S.f kj10 t428 t418).bind fun t441 => (if t441 = true then (laws_FnExactTileOrbits.j1 kj10 t418 t421 t428 (t431 != t421) a0_0 a0_1 l0_2) else (laws_FnExactTileOrbits.j1 kj10 t418 t421 t428 true a0_0 a0_1 l0_2))))) = some r := by rw [if_pos rfl] at H; exact H
       clear H
       have H := H1
       clear H1
       replace H := Option.bind_eq_some_iff.mp H
       obtain ⟨⟨t439, t440⟩, A360, H⟩ := H
       replace H : (if t439 < 0 then (laws_FnExactTileOrbits.j1 kj10 t418 t421 t428 true a0_0 a0_1 l0_2) else ((laws_eqInt64S.f kj10 t428 t418).bind fun t441 => (if t441 = true then (laws_FnExactTileOrbits.j1 kj10 t418 t421 t428 (t431 != t421) a0_0 a0_1 l0_2) else (laws_FnExactTileOrbits.j1 kj10 t418 t421 t428 true a0_0 a0_1 l0_2)))) = some r := H
       have A36 := mkA A360
       clear A360
       have HC37 := mkA H
       clear H
       try go_wp2
       have n0_ := mkA (Kd.R_drew HO_4.out)
       have n1_ := mkA (Kd.R_drew HO_7.out)
       have n2_ := mkA (Kd.R_drew HO_428002.out)
       have n3_ := mkA (blk_drew BK411.out)
       have n4_ := mkA (blk_drew BK427.out)
       have n5_ := mkA (below_drew1 HB.out)
       clear HO_4
       clear HO_7
       clear HO_428002
       clear BK411
       clear BK427
       clear HB
       have HO_4 := n0_
       have HO_7 := n1_
       have HO_428002 := n2_
       have BK411 := n3_
       have BK427 := n4_
       have HB := n5_
       clear n0_ n1_ n2_ n3_ n4_ n5_
       refine start_ (n := 5) (S := fun w' => w'.cell? ⟨gb427, 0, none⟩ = some (.int .i64 t422) ∧ w'.cell? ⟨gb427, 1, none⟩ = some (.int .i64 t423) ∧ w'.cell? ⟨gb427, 2, none⟩ = some (.slice Ao24 t424.length co24) ∧ w'.cell? ⟨gb411, 0, none⟩ = some (.int .i64 a0_0) ∧ w'.cell? ⟨gb411, 1, none⟩ = some (.int .i64 a0_1) ∧ w'.cell? ⟨gb411, 2, none⟩ = some (.slice A0_2 l0_2.length c0_2)) (ds := []) #[false, false, false, false, false] (by kernel_rfl) rfl rfl ⟨(blk_cell BK427.out 0).trans rfl, (blk_cell BK427.out 1).trans rfl, (blk_cell BK427.out 2).trans rfl, (blk_cell BK411.out 0).trans rfl, (blk_cell BK411.out 1).trans rfl, (blk_cell BK411.out 2).trans rfl⟩ (fun hHeld => ?_)
       generalize wc.drew = w38 at HO_4 HO_7 HO_428002 BK411 BK427 HB hHeld ⊢
       refine take_ (i := 0) (N := some 41) (v := ?_) (a' := ?_) #[true, false, false, false, false] rfl rfl (by kernel_rfl) (fun _ _ _ h => h) (Or.inl ⟨by rfl, ?_⟩) hHeld ?_ ?_
       rotate_left
       · rintro w' ⟨s0, s1, s2, s3, s4, s5⟩
         go_simp
         with_reducible rfl
       rotate_left
       · simp only [Act.put, sA, sB, sC, i64_w, i32_w]
         rfl
       refine take_ (i := 1) (N := some 42) (v := ?_) (a' := ?_) #[true, true, false, false, false] rfl rfl (by kernel_rfl) (fun _ _ _ h => h) (Or.inl ⟨by rfl, ?_⟩) hHeld ?_ ?_
       rotate_left
       · rintro w' ⟨s0, s1, s2, s3, s4, s5⟩
         go_simp
         with_reducible rfl
       rotate_left
       · simp only [Act.put, sA, sB, sC, i64_w, i32_w]
         rfl
       refine one_ (i := 2) (N := some 43) #[true, true, true, false, false] rfl rfl (by kernel_rfl) (by decide) (fun K hK => ?_)
       refine goes_ Try.func17 (by kernel_rfl) rfl #[.agg #[.int .i64 a0_0, .int .i64 a0_1, .slice A0_2 l0_2.length c0_2]] (by rfl) rfl rfl (by (try simp only [List.map_toArray, List.map_cons, List.map_nil]); first | done | rfl | (simp only [List.length_drop, List.length_take]; rfl)) ?_
       with_reducible refine (laws_toTiling.calls kj10 a0_0 a0_1 _ _ l0_2 t433 t434 t435 _ ?side1 ?side2 A33.out).mono ?_
       (case side1 => exact cb_ HR0_2.out HB.out)
       (case side2 => exact HC0_2.out)
       rintro e w39 ⟨v436, rfl, ho0, hb⟩
       refine ⟨_, rfl, ?_⟩
       have n0_ := mkA (Kd.R_elder' (by (with_reducible repeat (first | apply Kd.R_alloc | apply Kd.R_drewN | apply Kd.R_drew)); exact HO_4.out) (Kd.R_base ho0) hb)
       have n1_ := mkA (Kd.R_elder' (by (with_reducible repeat (first | apply Kd.R_alloc | apply Kd.R_drewN | apply Kd.R_drew)); exact HO_7.out) (Kd.R_base ho0) hb)
       have n2_ := mkA (Kd.R_elder' (by (with_reducible repeat (first | apply Kd.R_alloc | apply Kd.R_drewN | apply Kd.R_drew)); exact HO_428002.out) (Kd.R_base ho0) hb)
       have n3_ := mkA (Kd.R_lower (Kd.R_new' (Kd.R_new' (Kd.R_new' ho0 (Kd.R_lt (by (with_reducible repeat (first | apply Kd.R_alloc | apply Kd.R_drewN | apply Kd.R_drew)); exact HO_4.out))) (Kd.R_lt (by (with_reducible repeat (first | apply Kd.R_alloc | apply Kd.R_drewN | apply Kd.R_drew)); exact HO_7.out))) (Kd.R_lt (by (with_reducible repeat (first | apply Kd.R_alloc | apply Kd.R_drewN | apply Kd.R_drew)); exact HO_428002.out))) (below_size (bs2_ HB.out GE411.out GE427.out)))
       have n4_ := mkA (blk_below (g := gb411) (o := .cells #[.int .i64 a0_0, .int .i64 a0_1, .slice A0_2 l0_2.length c0_2] 24 (0, 0)) (bl_ BK411.out) hb)
       have n5_ := mkA (blk_below (g := gb427) (o := .cells #[.int .i64 t422, .int .i64 t423, .slice Ao24 t424.length co24] 29 (0, 0)) (bl_ BK427.out) hb)
       have n6_ := mkA (below_step (bs2_ HB.out GE411.out GE427.out) hb)
       clear HO_4
       clear HO_7
       clear HO_428002
       clear BK411
       clear BK427
       clear HB
       have HO_4 := n0_
       have HO_7 := n1_
       have HO_428002 := n2_
       have HO437 := n3_
       have BK411 := n4_
       have BK427 := n5_
       have HB := n6_
       clear n0_ n1_ n2_ n3_ n4_ n5_ n6_
       (try clear hb)
       (try clear hb2)
       (try clear hk)
       (try clear hi)
       (try clear ho0)
       obtain ⟨Ao40, co40, eo40⟩ := Kd.R_slice HO437.out
       (first | subst eo40 | (injection eo40 with f1_ f2_ f3_; have f4_ := f1_.symm; have f5_ := f3_.symm; clear f1_ f2_ f3_; subst f4_; subst f5_))
       refine hK.out _ _ ⟨(blk_cell BK427.out 0).trans rfl, (blk_cell BK427.out 1).trans rfl, (blk_cell BK427.out 2).trans rfl, (blk_cell BK411.out 0).trans rfl, (blk_cell BK411.out 1).trans rfl, (blk_cell BK411.out 2).trans rfl⟩ (fun hHeld => ?_)
       clear hK K
       refine norm_ (a' := ?_) ?_ ?_
       rotate_left
       · show Act.put _ (some 43) _ = _
         simp only [Act.put, sA, sB, sC, i64_w, i32_w]
         rfl
       refine one_ (i := 3) (N := some 44) #[true, true, true, true, false] rfl rfl (by kernel_rfl) (by decide) (fun K hK => ?_)
       refine goes_ Try.func20 (by kernel_rfl) rfl #[.agg #[.int .i64 t422, .int .i64 t423, .slice Ao24 t424.length co24], .agg #[.int .i64 t433, .int .i64 t434, .slice Ao40 t435.length co40]] (by rfl) rfl rfl (by (try simp only [List.map_toArray, List.map_cons, List.map_nil]); first | done | rfl | (simp only [List.length_drop, List.length_take]; rfl)) ?_
       with_reducible refine (laws_eqTiling.calls kj10 t422 t423 _ _ t424 t433 t434 _ _ t435 true _ ?side1 ?side2 ?side3 ?side4 A34.out).mono ?_
       (case side1 => repeat (first | exact (Kd.R_reads' HO_428002.out).2.2 | (with_reducible refine Kd.C_alloc ?_ _) | (with_reducible refine Kd.C_drewN ?_ _) | (with_reducible refine Kd.C_drew ?_)))
       (case side2 => exact (Kd.R_reads' HO_428002.out).2.1)
       (case side3 => repeat (first | exact (Kd.R_reads' HO437.out).2.2 | (with_reducible refine Kd.C_alloc ?_ _) | (with_reducible refine Kd.C_drewN ?_ _) | (with_reducible refine Kd.C_drew ?_)))
       (case side4 => exact (Kd.R_reads' HO437.out).2.1)
       rintro e w41 ⟨rfl, hb⟩
       refine ⟨_, rfl, ?_⟩
       have n0_ := mkA (Kd.R_below (by (with_reducible repeat (first | apply Kd.R_alloc | apply Kd.R_drewN | apply Kd.R_drew)); exact HO_4.out) hb)
       have n1_ := mkA (Kd.R_below (by (with_reducible repeat (first | apply Kd.R_alloc | apply Kd.R_drewN | apply Kd.R_drew)); exact HO_7.out) hb)
       have n2_ := mkA (Kd.R_below (by (with_reducible repeat (first | apply Kd.R_alloc | apply Kd.R_drewN | apply Kd.R_drew)); exact HO_428002.out) hb)
       have n3_ := mkA (Kd.R_below (by (with_reducible repeat (first | apply Kd.R_alloc | apply Kd.R_drewN | apply Kd.R_drew)); exact HO437.out) hb)
       have n4_ := mkA (blk_below (g := gb411) (o := .cells #[.int .i64 a0_0, .int .i64 a0_1, .slice A0_2 l0_2.length c0_2] 24 (0, 0)) (bl_ BK411.out) hb)
       have n5_ := mkA (blk_below (g := gb427) (o := .cells #[.int .i64 t422, .int .i64 t423, .slice Ao24 t424.length co24] 29 (0, 0)) (bl_ BK427.out) hb)
       have n6_ := mkA (below_step (bs2_ HB.out GE411.out GE427.out) hb)
       clear HO_4
       clear HO_7
       clear HO_428002
       clear HO437
       clear BK411
       clear BK427
       clear HB
       have HO_4 := n0_
       have HO_7 := n1_
       have HO_428002 := n2_
       have HO437 := n3_
       have BK411 := n4_
       have BK427 := n5_
       have HB := n6_
       clear n0_ n1_ n2_ n3_ n4_ n5_ n6_
       (try clear hb)
       (try clear hb2)
       (try clear hk)
       (try clear hi)
       refine hK.out _ _ ⟨(blk_cell BK427.out 0).trans rfl, (blk_cell BK427.out 1).trans rfl, (blk_cell BK427.out 2).trans rfl, (blk_cell BK411.out 0).trans rfl, (blk_cell BK411.out 1).trans rfl, (blk_cell BK411.out 2).trans rfl⟩ (fun hHeld => ?_)
       clear hK K
       refine norm_ (a' := ?_) ?_ ?_
       rotate_left
       · show Act.put _ (some 44) _ = _
         simp only [Act.put, sA, sB, sC, i64_w, i32_w]
         rfl
       refine pure_ (i := 4) (N := some 45) (v := ?_) (a' := ?_) #[true, true, true, true, true] rfl rfl (by kernel_rfl) (fun _ _ _ h => h) (Or.inl ⟨by rfl, ?_⟩) ?_ ?_
       rotate_left
       · intro w'
         go_simp
         with_reducible rfl
       rotate_left
       · simp only [Act.put, sA, sB, sC, i64_w, i32_w]
         rfl
       refine done_ (by kernel_rfl) ?_
       have hnb42 := NB427_411.out
       have hnc42 := NB411_427.out
       have hcz43_0 : w41.cell? ⟨gb427, 0, none⟩ = some (.int .i64 t422) := (blk_cell BK427.out 0).trans rfl
       have hcz43_1 : w41.cell? ⟨gb427, 1, none⟩ = some (.int .i64 t423) := (blk_cell BK427.out 1).trans rfl
       have hcz43_2 : w41.cell? ⟨gb427, 2, none⟩ = some (.slice Ao24 t424.length co24) := (blk_cell BK427.out 2).trans rfl
       have hfz43_0 := blk_frozen BK427.out 0
       have hfz43_1 := blk_frozen BK427.out 1
       have hfz43_2 := blk_frozen BK427.out 2
       go_upto_region 14 with (first | ((with_reducible refine gate_callee (f := 26) rfl ?_); refine goesL_ (some 48) rfl rfl Try.func26 (by kernel_rfl) rfl #[.agg #[.int .i64 t422, .int .i64 t423, .slice Ao24 t424.length co24], .int .i64 1] rfl (by (try simp only [List.map_toArray, List.map_cons, List.map_nil]); first | done | rfl | (simp only [List.length_drop, List.length_take]; rfl)) ?_; (with_reducible refine (laws_markTiling.calls kj10 t422 t423 (fun k_ => some k_ = (.slice Ao24 t424.length co24 : Value).ownBlock) (.slice Ao24 t424.length co24) t424 1 t439 t440 w _ ?side1 ?side2 A36.out).mono ?_); (case side1 => repeat (first | (with_reducible first | exact HB.out | apply below_alloc | apply pw_below_drewN | apply below_drew1 | refine below_set ?_ GE411.out | refine below_set ?_ GE427.out) | exact HB.out)); (case side2 => exact Kd.R_tight rfl HO_428002.out); rintro e w44 ⟨rfl, hy0, hb, hkp⟩; refine ⟨_, rfl, ?_⟩; have n0_ := mkA (Kd.R_mono (ok' := fun k_ => some k_ ≠ (v429 : Value).ownBlock ∧ some k_ ≠ (.slice Ao24 t424.length co24 : Value).ownBlock ∧ some k_ ≠ (.slice Ao40 t435.length co40 : Value).ownBlock) (Kd.R_keptB (HO_4.out) hkp (fun k_ hk_ hs_ => (hk_.1.2) hs_)) (fun k_ hk_ => ⟨hk_.1.1.1, hk_.1.1.2, hk_.1.2⟩)); have n1_ := mkA (Kd.R_mono (ok' := fun k_ => some k_ ≠ (v419 : Value).ownBlock ∧ some k_ ≠ (.slice Ao24 t424.length co24 : Value).ownBlock ∧ some k_ ≠ (.slice Ao40 t435.length co40 : Value).ownBlock) (Kd.R_keptB (HO_7.out) hkp (fun k_ hk_ hs_ => (hk_.1.2) hs_)) (fun k_ hk_ => ⟨hk_.1.1.1, hk_.1.1.2, hk_.1.2⟩)); have n2_ := mkA (Kd.R_reok rfl hy0 (fun k_ e_ => HO_428002.out.1 k_ e_)); have n3_ := mkA (blk_kept (bl_ BK411.out) hkp (fun hs_ => (fun e_ => (Kd.R_ne HO_428002.out BK411.out (by decide)) e_) hs_)); have n4_ := mkA (blk_kept (bl_ BK427.out) hkp (fun hs_ => (fun e_ => (Kd.R_ne HO_428002.out BK427.out (by decide)) e_) hs_)); have n5_ := mkA (Kd.R_mono (ok' := fun k_ => some k_ ≠ (v419 : Value).ownBlock ∧ some k_ ≠ (v429 : Value).ownBlock ∧ some k_ ≠ (.slice Ao24 t424.length co24 : Value).ownBlock) (Kd.R_keptB (HO437.out) hkp (fun k_ hk_ hs_ => (hk_.2) hs_)) (fun k_ hk_ => ⟨hk_.1.1.1.2, hk_.1.1.2, hk_.1.2⟩)); have n6_ := mkA (hb); clear HO_4; clear HO_7; clear HO_428002; clear BK411; clear BK427; clear HO437; clear HB; have HO_4 := n0_; have HO_7 := n1_; have HO_428002 := n2_; have BK411 := n3_; have BK427 := n4_; have HO437 := n5_; have HB := n6_; clear n0_ n1_ n2_ n3_ n4_ n5_ n6_; (try clear hb); (try clear hkp); (try clear hy0)))
       (try simp only [Act.put, sA, sB, sC])
       go_cut [61] (fun v61 wc => ∃ (kq : Nat) (x61_36 : Bool), v61 = .bool x61_36 ∧ Aside0 (laws_FnExactTileOrbits.j1 kq t418 t421 t428 x61_36 a0_0 a0_1 l0_2 = some r) ∧ Aside0 (kq ≤ kj10) ∧ Aside0 (Kd.R (Kd.int .i64) 2 wc w.heap.size (fun k_ => some k_ ≠ (v429 : Value).ownBlock ∧ some k_ ≠ ((.slice Ao24 t424.length co24) : Value).ownBlock) v419 t418) ∧ Aside0 (Kd.R (Kd.int .i64) 2 wc w.heap.size (fun k_ => some k_ ≠ (v419 : Value).ownBlock ∧ some k_ ≠ ((.slice Ao24 t424.length co24) : Value).ownBlock) v429 t428) ∧ Aside0 (Kd.R (Kd.int .i64) 2 wc w.heap.size (fun k_ => some k_ ≠ (v419 : Value).ownBlock ∧ some k_ ≠ (v429 : Value).ownBlock) (.slice Ao24 t424.length co24) t440) ∧ Aside0 (wc.heap[gb411]? = some (.cells #[.int .i64 a0_0, .int .i64 a0_1, (.slice A0_2 l0_2.length c0_2)] 24 (0, 0))) ∧ Aside0 (wc.heap[gb427]? = some (.cells #[.int .i64 t422, .int .i64 t423, (.slice Ao24 t424.length co24)] 29 (0, 0))) ∧ Aside0 (Below w.heap.size w wc))
       case first =>
        have H := HC37.out
        clear HC37
        by_cases c45 : t439 < 0
        · rw [if_pos c45] at H
          have c45b0 : decide (t439 < 0) = true := decide_eq_true c45
          clear c45
          (first | rw [c45b0] | (simp only [i64_w, i32_w]; rw [c45b0]) | skip)
          have H' := mkA H
          clear H
          go_wp2
          go_meet
          case rel => exact ⟨_, (true), (by first | rfl | (simp; done) | (simp [*]; done) | (simp [i64_w, i32_w]; done)), H', ⟨by have := HJ10.out; first | omega | exact Nat.le_refl _⟩, ⟨by (with_reducible repeat (first | apply Kd.R_alloc | apply Kd.R_drewN | apply Kd.R_drew)); exact Kd.R_mono HO_4.out (fun _ hk => ⟨hk.1, hk.2.1⟩)⟩, ⟨by (with_reducible repeat (first | apply Kd.R_alloc | apply Kd.R_drewN | apply Kd.R_drew)); exact Kd.R_mono HO_7.out (fun _ hk => ⟨hk.1, hk.2.1⟩)⟩, ⟨by (with_reducible repeat (first | apply Kd.R_alloc | apply Kd.R_drewN | apply Kd.R_drew)); exact Kd.R_mono HO_428002.out (fun _ hk => ⟨hk.1.1, hk.1.2⟩)⟩, ⟨by (with_reducible repeat (first | refine blk_drewN ?_ _ | refine blk_drew ?_ | refine blk_alloc ?_ _)); exact BK411.out⟩, ⟨by (with_reducible repeat (first | refine blk_drewN ?_ _ | refine blk_drew ?_ | refine blk_alloc ?_ _)); exact BK427.out⟩, ⟨by repeat (first | (with_reducible first | exact HB.out | apply below_alloc | apply pw_below_drewN | apply below_drew1 | refine below_set ?_ GE411.out | refine below_set ?_ GE427.out) | exact HB.out)⟩⟩
        · rw [if_neg c45] at H
          have c45b0 : decide (t439 < 0) = false := decide_eq_false c45
          clear c45
          (first | rw [c45b0] | (simp only [i64_w, i32_w]; rw [c45b0]) | skip)
          replace H := Option.bind_eq_some_iff.mp H
          obtain ⟨t441, A460, H⟩ := H
          replace H : (if t441 = true then (laws_FnExactTileOrbits.j1 kj10 t418 t421 t428 (t431 != t421) a0_0 a0_1 l0_2) else (laws_FnExactTileOrbits.j1 kj10 t418 t421 t428 true a0_0 a0_1 l0_2)) = some r := H
          have A46 := mkA A460
          clear A460
          by_cases c47 : t441 = true
          · subst c47
            have H1 : (laws_FnExactTileOrbits.j1 kj10 t418 t421 t428 (t431 != t421) a0_0 a0_1 l0_2) = some r := by rw [if_pos rfl] at H; exact H
            clear H
            have H := H1
            clear H1
            have H' := mkA H
            clear H
            obtain ⟨Ao48, co48, eo48⟩ := Kd.R_slice HO_7.out
            subst eo48
            obtain ⟨Ao49, co49, eo49⟩ := Kd.R_slice HO_4.out
            subst eo49
            go_wp2_with (first | (go_at_call 25; (with_reducible refine (laws_eqInt64S.calls kj10 _ _ t428 _ _ t418 true _ ?side1 ?side2 ?side3 ?side4 A46.out).mono ?_); (case side1 => repeat (first | exact (Kd.R_reads' HO_7.out).2.2 | (with_reducible refine Kd.C_alloc ?_ _) | (with_reducible refine Kd.C_drewN ?_ _) | (with_reducible refine Kd.C_drew ?_))); (case side2 => exact (Kd.R_reads' HO_7.out).2.1); (case side3 => repeat (first | exact (Kd.R_reads' HO_4.out).2.2 | (with_reducible refine Kd.C_alloc ?_ _) | (with_reducible refine Kd.C_drewN ?_ _) | (with_reducible refine Kd.C_drew ?_))); (case side4 => exact (Kd.R_reads' HO_4.out).2.1); rintro e w' ⟨rfl, ⟨nd, rfl⟩⟩))
            go_meet
            case rel => exact ⟨_, ((t431 != t421)), (by first | rfl | (simp; done) | (simp [*]; done) | (simp [i64_w, i32_w]; done)), H', ⟨by have := HJ10.out; first | omega | exact Nat.le_refl _⟩, ⟨by (with_reducible repeat (first | apply Kd.R_alloc | apply Kd.R_drewN | apply Kd.R_drew)); exact Kd.R_mono HO_4.out (fun _ hk => ⟨hk.1, hk.2.1⟩)⟩, ⟨by (with_reducible repeat (first | apply Kd.R_alloc | apply Kd.R_drewN | apply Kd.R_drew)); exact Kd.R_mono HO_7.out (fun _ hk => ⟨hk.1, hk.2.1⟩)⟩, ⟨by (with_reducible repeat (first | apply Kd.R_alloc | apply Kd.R_drewN | apply Kd.R_drew)); exact Kd.R_mono HO_428002.out (fun _ hk => ⟨hk.1.1, hk.1.2⟩)⟩, ⟨by (with_reducible repeat (first | refine blk_drewN ?_ _ | refine blk_drew ?_ | refine blk_alloc ?_ _)); exact BK411.out⟩, ⟨by (with_reducible repeat (first | refine blk_drewN ?_ _ | refine blk_drew ?_ | refine blk_alloc ?_ _)); exact BK427.out⟩, ⟨by repeat (first | (with_reducible first | exact HB.out | apply below_alloc | apply pw_below_drewN | apply below_drew1 | refine below_set ?_ GE411.out | refine below_set ?_ GE427.out) | exact HB.out)⟩⟩
          · replace c47 := Bool.eq_false_iff.mpr c47
            subst c47
            have H1 : (laws_FnExactTileOrbits.j1 kj10 t418 t421 t428 true a0_0 a0_1 l0_2) = some r := by rw [if_neg (show ¬ (false = true) by decide)] at H; exact H
            clear H
            have H := H1
            clear H1
            have H' := mkA H
            clear H
            obtain ⟨Ao50, co50, eo50⟩ := Kd.R_slice HO_7.out
            subst eo50
            obtain ⟨Ao51, co51, eo51⟩ := Kd.R_slice HO_4.out
            subst eo51
            go_wp2_with (first | (go_at_call 25; (with_reducible refine (laws_eqInt64S.calls kj10 _ _ t428 _ _ t418 false _ ?side1 ?side2 ?side3 ?side4 A46.out).mono ?_); (case side1 => repeat (first | exact (Kd.R_reads' HO_7.out).2.2 | (with_reducible refine Kd.C_alloc ?_ _) | (with_reducible refine Kd.C_drewN ?_ _) | (with_reducible refine Kd.C_drew ?_))); (case side2 => exact (Kd.R_reads' HO_7.out).2.1); (case side3 => repeat (first | exact (Kd.R_reads' HO_4.out).2.2 | (with_reducible refine Kd.C_alloc ?_ _) | (with_reducible refine Kd.C_drewN ?_ _) | (with_reducible refine Kd.C_drew ?_))); (case side4 => exact (Kd.R_reads' HO_4.out).2.1); rintro e w' ⟨rfl, ⟨nd, rfl⟩⟩))
            go_meet
            case rel => exact ⟨_, (true), (by first | rfl | (simp; done) | (simp [*]; done) | (simp [i64_w, i32_w]; done)), H', ⟨by have := HJ10.out; first | omega | exact Nat.le_refl _⟩, ⟨by (with_reducible repeat (first | apply Kd.R_alloc | apply Kd.R_drewN | apply Kd.R_drew)); exact Kd.R_mono HO_4.out (fun _ hk => ⟨hk.1, hk.2.1⟩)⟩, ⟨by (with_reducible repeat (first | apply Kd.R_alloc | apply Kd.R_drewN | apply Kd.R_drew)); exact Kd.R_mono HO_7.out (fun _ hk => ⟨hk.1, hk.2.1⟩)⟩, ⟨by (with_reducible repeat (first | apply Kd.R_alloc | apply Kd.R_drewN | apply Kd.R_drew)); exact Kd.R_mono HO_428002.out (fun _ hk => ⟨hk.1.1, hk.1.2⟩)⟩, ⟨by (with_reducible repeat (first | refine blk_drewN ?_ _ | refine blk_drew ?_ | refine blk_alloc ?_ _)); exact BK411.out⟩, ⟨by (with_reducible repeat (first | refine blk_drewN ?_ _ | refine blk_drew ?_ | refine blk_alloc ?_ _)); exact BK427.out⟩, ⟨by repeat (first | (with_reducible first | exact HB.out | apply below_alloc | apply pw_below_drewN | apply below_drew1 | refine below_set ?_ GE411.out | refine below_set ?_ GE427.out) | exact HB.out)⟩⟩
       case rest =>
        clear HC37
        try clear c1
        try clear c2
        try clear p2
        try clear c3
        try clear c3b0
        try clear c4
        try clear c13
        try clear c15
        try clear c17
        try clear c20
        try clear c22
        try clear c25
        try clear c26
        try clear c27
        try clear c32
        try clear c35
        try clear c42
        try clear c45
        try clear c45b0
        try clear c46
        try clear c47
        try clear hcz13_0
        try clear hcz13_1
        try clear hcz13_2
        try clear hcz15_0
        try clear hcz15_1
        try clear hcz15_2
        try clear hcz19_0
        try clear hcz19_1
        try clear hcz19_2
        try clear hcz23_0
        try clear hcz23_1
        try clear hcz23_2
        try clear hcz43_0
        try clear hcz43_1
        try clear hcz43_2
        try clear hcz5_0
        try clear hcz5_1
        try clear hcz5_2
        try clear hfz13_0
        try clear hfz13_1
        try clear hfz13_2
        try clear hfz15_0
        try clear hfz15_1
        try clear hfz15_2
        try clear hfz19_0
        try clear hfz19_1
        try clear hfz19_2
        try clear hfz23_0
        try clear hfz23_1
        try clear hfz23_2
        try clear hfz43_0
        try clear hfz43_1
        try clear hfz43_2
        try clear hfz5_0
        try clear hfz5_1
        try clear hfz5_2
        try clear p2
        obtain ⟨kq, x61_36, rfl, HA, HJ36, HO_4, HO_7, HO_428002, BK411, BK427, HB⟩ := hcut
        have hl428002_36 := (Kd.R_reads' HO_428002.out).1
        rw [hl428002_36] at HO_428002
        (try simp only [hl428002_36])
        (try simp only [hl428002_36] at BK411)
        (try simp only [hl428002_36] at BK427)
        (try simp only [hl428002_36] at HO_4)
        (try simp only [hl428002_36] at HO_7)
        cases kq with
        | zero => exact absurd HA.out (by simp [laws_FnExactTileOrbits.j1])
        | succ kj36 =>
         have H := HA.out
         clear HA
         simp only [laws_FnExactTileOrbits.j1] at H
         by_cases c52 : x61_36 = true
         · subst c52
           have H1 : (some false) = some r := by rw [if_pos rfl] at H; exact H
           clear H
           have H := H1
           clear H1
           obtain rfl := Option.some.inj H
           go_wp2
           go_ret
           exact ⟨by first | rfl | (simp [errW_none, errW_some] <;> rfl) | (simp [*, errW_none, errW_some] <;> rfl), by repeat (first | (with_reducible first | exact HB.out | apply below_alloc | apply pw_below_drewN | apply below_drew1 | refine below_set ?_ GE411.out | refine below_set ?_ GE427.out) | exact HB.out)⟩
         · replace c52 := Bool.eq_false_iff.mpr c52
           subst c52
           have H1 : ((laws_markInt64S.f kj36 t428 1).bind fun bt442 => ((laws_heldInt64S.f kj36 bt442.2 1).bind fun t444 => (if t444 < 0 then (some false) else (if t444 = bt442.1 then ((laws_toTiling.f kj36 a0_0 a0_1 l0_2).bind fun bt445 => ((impl_TileOrbits.f kj36 bt445.1 bt445.2.1 bt445.2.2).bind fun bt450 => ((laws_eqInt64S.f kj36 bt450.1 t418).bind fun t454 => (if t454 = true then (laws_FnExactTileOrbits.j2 kj36 bt442.2 bt442.1 (bt450.2 != t421)) else (laws_FnExactTileOrbits.j2 kj36 bt442.2 bt442.1 true))))) else (some false))))) = some r := by rw [if_neg (show ¬ (false = true) by decide)] at H; exact H
           clear H
           have H := H1
           clear H1
           replace H := Option.bind_eq_some_iff.mp H
           obtain ⟨⟨t442, t443⟩, A530, H⟩ := H
           replace H : ((laws_heldInt64S.f kj36 t443 1).bind fun t444 => (if t444 < 0 then (some false) else (if t444 = t442 then ((laws_toTiling.f kj36 a0_0 a0_1 l0_2).bind fun bt445 => ((impl_TileOrbits.f kj36 bt445.1 bt445.2.1 bt445.2.2).bind fun bt450 => ((laws_eqInt64S.f kj36 bt450.1 t418).bind fun t454 => (if t454 = true then (laws_FnExactTileOrbits.j2 kj36 t443 t442 (bt450.2 != t421)) else (laws_FnExactTileOrbits.j2 kj36 t443 t442 true))))) else (some false)))) = some r := H
           have A53 := mkA A530
           clear A530
           replace H := Option.bind_eq_some_iff.mp H
           obtain ⟨t444, A540, H⟩ := H
           replace H : (if t444 < 0 then (some false) else (if t444 = t442 then ((laws_toTiling.f kj36 a0_0 a0_1 l0_2).bind fun bt445 => ((impl_TileOrbits.f kj36 bt445.1 bt445.2.1 bt445.2.2).bind fun bt450 => ((laws_eqInt64S.f kj36 bt450.1 t418).bind fun t454 => (if t454 = true then (laws_FnExactTileOrbits.j2 kj36 t443 t442 (bt450.2 != t421)) else (laws_FnExactTileOrbits.j2 kj36 t443 t442 true))))) else (some false))) = some r := H
           have A54 := mkA A540
           clear A540
           by_cases c55 : t444 < 0
           · rw [if_pos c55] at H
             have c55b0 : decide (t444 < 0) = true := decide_eq_true c55
             clear c55
             obtain rfl := Option.some.inj H
             obtain ⟨Ao56, co56, eo56⟩ := Kd.R_slice HO_7.out
             subst eo56
             go_wp2_with (first | ((with_reducible refine gate_callee (f := 27) rfl ?_); refine goesL_ (some 64) rfl rfl Try.func27 (by kernel_rfl) rfl #[.slice Ao56 t428.length co56, .int .i64 1] rfl (by (try simp only [List.map_toArray, List.map_cons, List.map_nil]); first | done | rfl | (simp only [List.length_drop, List.length_take]; rfl)) ?_; (with_reducible refine (laws_markInt64S.calls kj36 (fun k_ => some k_ = (.slice Ao56 t428.length co56 : Value).ownBlock) (.slice Ao56 t428.length co56) t428 1 t442 t443 w _ ?side1 ?side2 A53.out).mono ?_); (case side1 => repeat (first | (with_reducible first | exact HB.out | apply below_alloc | apply pw_below_drewN | apply below_drew1 | refine below_set ?_ GE411.out | refine below_set ?_ GE427.out) | exact HB.out)); (case side2 => exact Kd.R_tight rfl HO_7.out); rintro e w57 ⟨rfl, hy0, hb, hkp⟩; refine ⟨_, rfl, ?_⟩; have n0_ := mkA (Kd.R_mono (ok' := fun k_ => some k_ ≠ (.slice Ao56 t428.length co56 : Value).ownBlock ∧ some k_ ≠ (.slice Ao24 t440.length co24 : Value).ownBlock) (Kd.R_keptB (HO_4.out) hkp (fun k_ hk_ hs_ => (hk_.1) hs_)) (fun k_ hk_ => ⟨hk_.1.1, hk_.1.2⟩)); have n1_ := mkA (Kd.R_reok rfl hy0 (fun k_ e_ => HO_7.out.1 k_ e_)); have n2_ := mkA (Kd.R_mono (ok' := fun k_ => some k_ ≠ (v419 : Value).ownBlock ∧ some k_ ≠ (.slice Ao56 t428.length co56 : Value).ownBlock) (Kd.R_keptB (HO_428002.out) hkp (fun k_ hk_ hs_ => (hk_.2) hs_)) (fun k_ hk_ => ⟨hk_.1.1, hk_.1.2⟩)); have n3_ := mkA (blk_kept (bl_ BK411.out) hkp (fun hs_ => (fun e_ => (Kd.R_ne HO_7.out BK411.out (by decide)) e_) hs_)); have n4_ := mkA (blk_kept (bl_ BK427.out) hkp (fun hs_ => (fun e_ => (Kd.R_ne HO_7.out BK427.out (by decide)) e_) hs_)); have n5_ := mkA (hb); clear HO_4; clear HO_7; clear HO_428002; clear BK411; clear BK427; clear HB; have HO_4 := n0_; have HO_7 := n1_; have HO_428002 := n2_; have BK411 := n3_; have BK427 := n4_; have HB := n5_; clear n0_ n1_ n2_ n3_ n4_ n5_; (try clear hb); (try clear hkp); (try clear hy0)) | ((with_reducible refine gate_callee (f := 28) rfl ?_); refine goesL_ (some 67) rfl rfl Try.func28 (by kernel_rfl) rfl #[.slice Ao56 t443.length co56, .int .i64 1] rfl (by (try simp only [List.map_toArray, List.map_cons, List.map_nil]); first | done | (rw [show t443.length = t428.length from (Kd.R_reads' HO_7.out).1.symm] <;> rfl) | rfl | (simp only [List.length_drop, List.length_take]; rfl)) ?_; (with_reducible refine (laws_heldInt64S.calls kj36 _ _ t443 1 t444 _ ?side1 ?side2 A54.out).mono ?_); (case side1 => repeat (first | exact (Kd.R_reads' HO_7.out).2.2 | (with_reducible refine Kd.C_alloc ?_ _) | (with_reducible refine Kd.C_drewN ?_ _) | (with_reducible refine Kd.C_drew ?_))); (case side2 => rw [show t443.length = t428.length from (Kd.R_reads' HO_7.out).1.symm]; exact (Kd.R_reads' HO_7.out).2.1); rintro e w' ⟨rfl, ⟨nd, rfl⟩⟩; refine ⟨_, rfl, ?_⟩))
             go_ret
             exact ⟨by first | rfl | (simp [errW_none, errW_some] <;> rfl) | (simp [*, errW_none, errW_some] <;> rfl), by repeat (first | (with_reducible first | exact HB.out | apply below_alloc | apply pw_below_drewN | apply below_drew1 | refine below_set ?_ GE411.out | refine below_set ?_ GE427.out) | exact HB.out)⟩
           · rw [if_neg c55] at H
             have c55b0 : decide (t444 < 0) = false := decide_eq_false c55
             clear c55
             by_cases c58 : t444 = t442
             rotate_left
             · rw [if_neg c58] at H
               have c58b0 : (t444 == t442) = false := beq_eq_false_iff_ne.mpr c58
               have c58b1 : (t444 != t442) = true := bne_iff_ne.mpr c58
               obtain rfl := Option.some.inj H
               obtain ⟨Ao79, co79, eo79⟩ := Kd.R_slice HO_7.out
               subst eo79
               go_wp2_with (first | ((with_reducible refine gate_callee (f := 27) rfl ?_); refine goesL_ (some 64) rfl rfl Try.func27 (by kernel_rfl) rfl #[.slice Ao79 t428.length co79, .int .i64 1] rfl (by (try simp only [List.map_toArray, List.map_cons, List.map_nil]); first | done | rfl | (simp only [List.length_drop, List.length_take]; rfl)) ?_; (with_reducible refine (laws_markInt64S.calls kj36 (fun k_ => some k_ = (.slice Ao79 t428.length co79 : Value).ownBlock) (.slice Ao79 t428.length co79) t428 1 t442 t443 w _ ?side1 ?side2 A53.out).mono ?_); (case side1 => repeat (first | (with_reducible first | exact HB.out | apply below_alloc | apply pw_below_drewN | apply below_drew1 | refine below_set ?_ GE411.out | refine below_set ?_ GE427.out) | exact HB.out)); (case side2 => exact Kd.R_tight rfl HO_7.out); rintro e w80 ⟨rfl, hy0, hb, hkp⟩; refine ⟨_, rfl, ?_⟩; have n0_ := mkA (Kd.R_mono (ok' := fun k_ => some k_ ≠ (.slice Ao79 t428.length co79 : Value).ownBlock ∧ some k_ ≠ (.slice Ao24 t440.length co24 : Value).ownBlock) (Kd.R_keptB (HO_4.out) hkp (fun k_ hk_ hs_ => (hk_.1) hs_)) (fun k_ hk_ => ⟨hk_.1.1, hk_.1.2⟩)); have n1_ := mkA (Kd.R_reok rfl hy0 (fun k_ e_ => HO_7.out.1 k_ e_)); have n2_ := mkA (Kd.R_mono (ok' := fun k_ => some k_ ≠ (v419 : Value).ownBlock ∧ some k_ ≠ (.slice Ao79 t428.length co79 : Value).ownBlock) (Kd.R_keptB (HO_428002.out) hkp (fun k_ hk_ hs_ => (hk_.2) hs_)) (fun k_ hk_ => ⟨hk_.1.1, hk_.1.2⟩)); have n3_ := mkA (blk_kept (bl_ BK411.out) hkp (fun hs_ => (fun e_ => (Kd.R_ne HO_7.out BK411.out (by decide)) e_) hs_)); have n4_ := mkA (blk_kept (bl_ BK427.out) hkp (fun hs_ => (fun e_ => (Kd.R_ne HO_7.out BK427.out (by decide)) e_) hs_)); have n5_ := mkA (hb); clear HO_4; clear HO_7; clear HO_428002; clear BK411; clear BK427; clear HB; have HO_4 := n0_; have HO_7 := n1_; have HO_428002 := n2_; have BK411 := n3_; have BK427 := n4_; have HB := n5_; clear n0_ n1_ n2_ n3_ n4_ n5_; (try clear hb); (try clear hkp); (try clear hy0)) | ((with_reducible refine gate_callee (f := 28) rfl ?_); refine goesL_ (some 67) rfl rfl Try.func28 (by kernel_rfl) rfl #[.slice Ao79 t443.length co79, .int .i64 1] rfl (by (try simp only [List.map_toArray, List.map_cons, List.map_nil]); first | done | (rw [show t443.length = t428.length from (Kd.R_reads' HO_7.out).1.symm] <;> rfl) | rfl | (simp only [List.length_drop, List.length_take]; rfl)) ?_; (with_reducible refine (laws_heldInt64S.calls kj36 _ _ t443 1 t444 _ ?side1 ?side2 A54.out).mono ?_); (case side1 => repeat (first | exact (Kd.R_reads' HO_7.out).2.2 | (with_reducible refine Kd.C_alloc ?_ _) | (with_reducible refine Kd.C_drewN ?_ _) | (with_reducible refine Kd.C_drew ?_))); (case side2 => rw [show t443.length = t428.length from (Kd.R_reads' HO_7.out).1.symm]; exact (Kd.R_reads' HO_7.out).2.1); rintro e w' ⟨rfl, ⟨nd, rfl⟩⟩; refine ⟨_, rfl, ?_⟩))
               go_ret
               exact ⟨by first | rfl | (simp [errW_none, errW_some] <;> rfl) | (simp [*, errW_none, errW_some] <;> rfl), by repeat (first | (with_reducible first | exact HB.out | apply below_alloc | apply pw_below_drewN | apply below_drew1 | refine below_set ?_ GE411.out | refine below_set ?_ GE427.out) | exact HB.out)⟩
             rw [if_pos c58] at H
             have c58b0 : (t444 == t442) = true := beq_iff_eq.mpr c58
             have c58b1 : (t444 != t442) = false := bne_eq_false_iff_eq.mpr c58
             clear c58
             replace H := Option.bind_eq_some_iff.mp H
             obtain ⟨⟨t445, t446, t447⟩, A590, H⟩ := H
             replace H : ((impl_TileOrbits.f kj36 t445 t446 t447).bind fun bt450 => ((laws_eqInt64S.f kj36 bt450.1 t418).bind fun t454 => (if t454 = true then (laws_FnExactTileOrbits.j2 kj36 t443 t442 (bt450.2 != t421)) else (laws_FnExactTileOrbits.j2 kj36 t443 t442 true)))) = some r := H
             have A59 := mkA A590
             clear A590
             replace H := Option.bind_eq_some_iff.mp H
             obtain ⟨⟨t450, t453⟩, A600, H⟩ := H
             replace H : ((laws_eqInt64S.f kj36 t450 t418).bind fun t454 => (if t454 = true then (laws_FnExactTileOrbits.j2 kj36 t443 t442 (t453 != t421)) else (laws_FnExactTileOrbits.j2 kj36 t443 t442 true))) = some r := H
             have A60 := mkA A600
             clear A600
             have HC61 := mkA H
             clear H
             obtain ⟨Ao62, co62, eo62⟩ := Kd.R_slice HO_7.out
             subst eo62
             go_upto_region 25 with (first | ((with_reducible refine gate_callee (f := 27) rfl ?_); refine goesL_ (some 64) rfl rfl Try.func27 (by kernel_rfl) rfl #[.slice Ao62 t428.length co62, .int .i64 1] rfl (by (try simp only [List.map_toArray, List.map_cons, List.map_nil]); first | done | rfl | (simp only [List.length_drop, List.length_take]; rfl)) ?_; (with_reducible refine (laws_markInt64S.calls kj36 (fun k_ => some k_ = (.slice Ao62 t428.length co62 : Value).ownBlock) (.slice Ao62 t428.length co62) t428 1 t442 t443 w _ ?side1 ?side2 A53.out).mono ?_); (case side1 => repeat (first | (with_reducible first | exact HB.out | apply below_alloc | apply pw_below_drewN | apply below_drew1 | refine below_set ?_ GE411.out | refine below_set ?_ GE427.out) | exact HB.out)); (case side2 => exact Kd.R_tight rfl HO_7.out); rintro e w63 ⟨rfl, hy0, hb, hkp⟩; refine ⟨_, rfl, ?_⟩; have n0_ := mkA (Kd.R_mono (ok' := fun k_ => some k_ ≠ (.slice Ao62 t428.length co62 : Value).ownBlock ∧ some k_ ≠ (.slice Ao24 t440.length co24 : Value).ownBlock) (Kd.R_keptB (HO_4.out) hkp (fun k_ hk_ hs_ => (hk_.1) hs_)) (fun k_ hk_ => ⟨hk_.1.1, hk_.1.2⟩)); have n1_ := mkA (Kd.R_reok rfl hy0 (fun k_ e_ => HO_7.out.1 k_ e_)); have n2_ := mkA (Kd.R_mono (ok' := fun k_ => some k_ ≠ (v419 : Value).ownBlock ∧ some k_ ≠ (.slice Ao62 t428.length co62 : Value).ownBlock) (Kd.R_keptB (HO_428002.out) hkp (fun k_ hk_ hs_ => (hk_.2) hs_)) (fun k_ hk_ => ⟨hk_.1.1, hk_.1.2⟩)); have n3_ := mkA (blk_kept (bl_ BK411.out) hkp (fun hs_ => (fun e_ => (Kd.R_ne HO_7.out BK411.out (by decide)) e_) hs_)); have n4_ := mkA (blk_kept (bl_ BK427.out) hkp (fun hs_ => (fun e_ => (Kd.R_ne HO_7.out BK427.out (by decide)) e_) hs_)); have n5_ := mkA (hb); clear HO_4; clear HO_7; clear HO_428002; clear BK411; clear BK427; clear HB; have HO_4 := n0_; have HO_7 := n1_; have HO_428002 := n2_; have BK411 := n3_; have BK427 := n4_; have HB := n5_; clear n0_ n1_ n2_ n3_ n4_ n5_; (try clear hb); (try clear hkp); (try clear hy0)) | ((with_reducible refine gate_callee (f := 28) rfl ?_); refine goesL_ (some 67) rfl rfl Try.func28 (by kernel_rfl) rfl #[.slice Ao62 t443.length co62, .int .i64 1] rfl (by (try simp only [List.map_toArray, List.map_cons, List.map_nil]); first | done | (rw [show t443.length = t428.length from (Kd.R_reads' HO_7.out).1.symm] <;> rfl) | rfl | (simp only [List.length_drop, List.length_take]; rfl)) ?_; (with_reducible refine (laws_heldInt64S.calls kj36 _ _ t443 1 t444 _ ?side1 ?side2 A54.out).mono ?_); (case side1 => repeat (first | exact (Kd.R_reads' HO_7.out).2.2 | (with_reducible refine Kd.C_alloc ?_ _) | (with_reducible refine Kd.C_drewN ?_ _) | (with_reducible refine Kd.C_drew ?_))); (case side2 => rw [show t443.length = t428.length from (Kd.R_reads' HO_7.out).1.symm]; exact (Kd.R_reads' HO_7.out).2.1); rintro e w' ⟨rfl, ⟨nd, rfl⟩⟩; refine ⟨_, rfl, ?_⟩; have hnb64 := NB411_427.out; have hnc64 := NB427_411.out; have hcz65_0 : w63.cell? ⟨gb411, 0, none⟩ = some (.int .i64 a0_0) := (blk_cell BK411.out 0).trans rfl; have hcz65_1 : w63.cell? ⟨gb411, 1, none⟩ = some (.int .i64 a0_1) := (blk_cell BK411.out 1).trans rfl; have hcz65_2 : w63.cell? ⟨gb411, 2, none⟩ = some (.slice A0_2 l0_2.length c0_2) := (blk_cell BK411.out 2).trans rfl; have hfz65_0 := blk_frozen BK411.out 0; have hfz65_1 := blk_frozen BK411.out 1; have hfz65_2 := blk_frozen BK411.out 2) | ((with_reducible refine gate_callee (f := 17) rfl ?_); refine goesL_ (some 75) rfl rfl Try.func17 (by kernel_rfl) rfl #[.agg #[.int .i64 a0_0, .int .i64 a0_1, .slice A0_2 l0_2.length c0_2]] rfl (by (try simp only [List.map_toArray, List.map_cons, List.map_nil]); first | done | rfl | (simp only [List.length_drop, List.length_take]; rfl)) ?_; (with_reducible refine (laws_toTiling.calls kj36 a0_0 a0_1 _ _ l0_2 t445 t446 t447 _ ?side1 ?side2 A59.out).mono ?_); (case side1 => repeat (first | exact (Kd.C_below HR0_2.out (bs2_ HB.out GE411.out GE427.out)) | (with_reducible refine Kd.C_alloc ?_ _) | (with_reducible refine Kd.C_drewN ?_ _) | (with_reducible refine Kd.C_drew ?_))); (case side2 => exact HC0_2.out); rintro e w66 ⟨v448, rfl, ho0, hb⟩; refine ⟨_, rfl, ?_⟩; have n0_ := mkA (Kd.R_elder' (by (with_reducible repeat (first | apply Kd.R_alloc | apply Kd.R_drewN | apply Kd.R_drew)); exact HO_4.out) (Kd.R_base ho0) hb); have n1_ := mkA (Kd.R_elder' (by (with_reducible repeat (first | apply Kd.R_alloc | apply Kd.R_drewN | apply Kd.R_drew)); exact HO_7.out) (Kd.R_base ho0) hb); have n2_ := mkA (Kd.R_elder' (by (with_reducible repeat (first | apply Kd.R_alloc | apply Kd.R_drewN | apply Kd.R_drew)); exact HO_428002.out) (Kd.R_base ho0) hb); have n3_ := mkA (Kd.R_lower (Kd.R_new' (Kd.R_new' (Kd.R_new' ho0 (Kd.R_lt (by (with_reducible repeat (first | apply Kd.R_alloc | apply Kd.R_drewN | apply Kd.R_drew)); exact HO_4.out))) (Kd.R_lt (by (with_reducible repeat (first | apply Kd.R_alloc | apply Kd.R_drewN | apply Kd.R_drew)); exact HO_7.out))) (Kd.R_lt (by (with_reducible repeat (first | apply Kd.R_alloc | apply Kd.R_drewN | apply Kd.R_drew)); exact HO_428002.out))) (below_size (bs2_ HB.out GE411.out GE427.out))); have n4_ := mkA (blk_below (g := gb411) (o := .cells #[.int .i64 a0_0, .int .i64 a0_1, .slice A0_2 l0_2.length c0_2] 24 (0, 0)) (bl_ BK411.out) hb); have n5_ := mkA (blk_below (g := gb427) (o := .cells #[.int .i64 t422, .int .i64 t423, .slice Ao24 t440.length co24] 29 (0, 0)) (bl_ BK427.out) hb); have n6_ := mkA (below_step (bs2_ HB.out GE411.out GE427.out) hb); clear HO_4; clear HO_7; clear HO_428002; clear BK411; clear BK427; clear HB; have HO_4 := n0_; have HO_7 := n1_; have HO_428002 := n2_; have HO449 := n3_; have BK411 := n4_; have BK427 := n5_; have HB := n6_; clear n0_ n1_ n2_ n3_ n4_ n5_ n6_; (try clear hb); (try clear hb2); (try clear hk); (try clear hi); (try clear ho0); obtain ⟨Ao67, co67, eo67⟩ := Kd.R_slice HO449.out; subst eo67) | ((with_reducible refine gate_callee (f := 46) rfl ?_); refine goesL_ (some 76) rfl rfl Try.func46 (by kernel_rfl) rfl #[.agg #[.int .i64 t445, .int .i64 t446, .slice Ao67 t447.length co67]] rfl (by (try simp only [List.map_toArray, List.map_cons, List.map_nil]); first | done | rfl | (simp only [List.length_drop, List.length_take]; rfl)) ?_; (with_reducible refine (impl_TileOrbits.calls kj36 t445 t446 _ _ t447 t450 t453 _ ?side1 ?side2 A60.out).mono ?_); (case side1 => repeat (first | exact (Kd.R_reads' HO449.out).2.2 | (with_reducible refine Kd.C_alloc ?_ _) | (with_reducible refine Kd.C_drewN ?_ _) | (with_reducible refine Kd.C_drew ?_))); (case side2 => exact (Kd.R_reads' HO449.out).2.1); rintro e w68 ⟨v451, rfl, ho0, hb⟩; refine ⟨_, rfl, ?_⟩; have n0_ := mkA (Kd.R_elder' (by (with_reducible repeat (first | apply Kd.R_alloc | apply Kd.R_drewN | apply Kd.R_drew)); exact HO_4.out) (Kd.R_base ho0) hb); have n1_ := mkA (Kd.R_elder' (by (with_reducible repeat (first | apply Kd.R_alloc | apply Kd.R_drewN | apply Kd.R_drew)); exact HO_7.out) (Kd.R_base ho0) hb); have n2_ := mkA (Kd.R_elder' (by (with_reducible repeat (first | apply Kd.R_alloc | apply Kd.R_drewN | apply Kd.R_drew)); exact HO_428002.out) (Kd.R_base ho0) hb); have n3_ := mkA (Kd.R_elder' (by (with_reducible repeat (first | apply Kd.R_alloc | apply Kd.R_drewN | apply Kd.R_drew)); exact HO449.out) (Kd.R_base ho0) hb); have n4_ := mkA (Kd.R_lower (Kd.R_new' (Kd.R_new' (Kd.R_new' (Kd.R_new' ho0 (Kd.R_lt (by (with_reducible repeat (first | apply Kd.R_alloc | apply Kd.R_drewN | apply Kd.R_drew)); exact HO_4.out))) (Kd.R_lt (by (with_reducible repeat (first | apply Kd.R_alloc | apply Kd.R_drewN | apply Kd.R_drew)); exact HO_7.out))) (Kd.R_lt (by (with_reducible repeat (first | apply Kd.R_alloc | apply Kd.R_drewN | apply Kd.R_drew)); exact HO_428002.out))) (Kd.R_lt (by (with_reducible repeat (first | apply Kd.R_alloc | apply Kd.R_drewN | apply Kd.R_drew)); exact HO449.out))) (below_size (bs2_ HB.out GE411.out GE427.out))); have n5_ := mkA (blk_below (g := gb411) (o := .cells #[.int .i64 a0_0, .int .i64 a0_1, .slice A0_2 l0_2.length c0_2] 24 (0, 0)) (bl_ BK411.out) hb); have n6_ := mkA (blk_below (g := gb427) (o := .cells #[.int .i64 t422, .int .i64 t423, .slice Ao24 t440.length co24] 29 (0, 0)) (bl_ BK427.out) hb); have n7_ := mkA (below_step (bs2_ HB.out GE411.out GE427.out) hb); clear HO_4; clear HO_7; clear HO_428002; clear HO449; clear BK411; clear BK427; clear HB; have HO_4 := n0_; have HO_7 := n1_; have HO_428002 := n2_; have HO449 := n3_; have HO452 := n4_; have BK411 := n5_; have BK427 := n6_; have HB := n7_; clear n0_ n1_ n2_ n3_ n4_ n5_ n6_ n7_; (try clear hb); (try clear hb2); (try clear hk); (try clear hi); (try clear ho0)))
             (try simp only [Act.put, sA, sB, sC])
             go_cut [87] (fun v87 wc => ∃ (kq : Nat) (x87_60 : Bool), v87 = .bool x87_60 ∧ Aside0 (laws_FnExactTileOrbits.j2 kq t443 t442 x87_60 = some r) ∧ Aside0 (kq ≤ kj36) ∧ Aside0 (Kd.R (Kd.int .i64) 2 wc w.heap.size (fun k_ => some k_ ≠ ((.slice Ao24 t440.length co24) : Value).ownBlock) (.slice Ao62 t428.length co62) t443) ∧ Aside0 (Kd.R (Kd.int .i64) 2 wc w.heap.size (fun k_ => some k_ ≠ ((.slice Ao62 t428.length co62) : Value).ownBlock) (.slice Ao24 t440.length co24) t440) ∧ Aside0 (wc.heap[gb411]? = some (.cells #[.int .i64 a0_0, .int .i64 a0_1, (.slice A0_2 l0_2.length c0_2)] 24 (0, 0))) ∧ Aside0 (wc.heap[gb427]? = some (.cells #[.int .i64 t422, .int .i64 t423, (.slice Ao24 t440.length co24)] 29 (0, 0))) ∧ Aside0 (Below w.heap.size w wc))
             case first =>
              have H := HC61.out
              clear HC61
              replace H := Option.bind_eq_some_iff.mp H
              obtain ⟨t454, A690, H⟩ := H
              replace H : (if t454 = true then (laws_FnExactTileOrbits.j2 kj36 t443 t442 (t453 != t421)) else (laws_FnExactTileOrbits.j2 kj36 t443 t442 true)) = some r := H
              have A69 := mkA A690
              clear A690
              by_cases c70 : t454 = true
              · subst c70
                have H1 : (laws_FnExactTileOrbits.j2 kj36 t443 t442 (t453 != t421)) = some r := by rw [if_pos rfl] at H; exact H
                clear H
                have H := H1
                clear H1
                have H' := mkA H
                clear H
                obtain ⟨Ao71, co71, eo71⟩ := Kd.R_slice HO452.out
                subst eo71
                obtain ⟨Ao72, co72, eo72⟩ := Kd.R_slice HO_4.out
                subst eo72
                go_wp2_with (first | ((with_reducible refine gate_callee (f := 25) rfl ?_); refine goesL_ (some 81) rfl rfl Try.func25 (by kernel_rfl) rfl #[.slice Ao71 t450.length co71, .slice Ao72 t418.length co72] rfl (by (try simp only [List.map_toArray, List.map_cons, List.map_nil]); first | done | rfl | (simp only [List.length_drop, List.length_take]; rfl)) ?_; (with_reducible refine (laws_eqInt64S.calls kj36 _ _ t450 _ _ t418 true _ ?side1 ?side2 ?side3 ?side4 A69.out).mono ?_); (case side1 => repeat (first | exact (Kd.R_reads' HO452.out).2.2 | (with_reducible refine Kd.C_alloc ?_ _) | (with_reducible refine Kd.C_drewN ?_ _) | (with_reducible refine Kd.C_drew ?_))); (case side2 => exact (Kd.R_reads' HO452.out).2.1); (case side3 => repeat (first | exact (Kd.R_reads' HO_4.out).2.2 | (with_reducible refine Kd.C_alloc ?_ _) | (with_reducible refine Kd.C_drewN ?_ _) | (with_reducible refine Kd.C_drew ?_))); (case side4 => exact (Kd.R_reads' HO_4.out).2.1); rintro e w' ⟨rfl, ⟨nd, rfl⟩⟩; refine ⟨_, rfl, ?_⟩))
                go_meet
                case rel => exact ⟨_, ((t453 != t421)), (by first | rfl | (simp; done) | (simp [*]; done) | (simp [i64_w, i32_w]; done)), H', ⟨by have := HJ10.out; have := HJ36.out; first | omega | exact Nat.le_refl _⟩, ⟨by (try simp only [hl428002_36]); (with_reducible repeat (first | apply Kd.R_alloc | apply Kd.R_drewN | apply Kd.R_drew)); exact Kd.R_mono HO_7.out (fun _ hk => hk.1.1.2)⟩, ⟨by (try simp only [hl428002_36]); (with_reducible repeat (first | apply Kd.R_alloc | apply Kd.R_drewN | apply Kd.R_drew)); exact Kd.R_mono HO_428002.out (fun _ hk => hk.1.1.2)⟩, ⟨by (try simp only [hl428002_36]); (with_reducible repeat (first | refine blk_drewN ?_ _ | refine blk_drew ?_ | refine blk_alloc ?_ _)); exact BK411.out⟩, ⟨by (try simp only [hl428002_36]); (with_reducible repeat (first | refine blk_drewN ?_ _ | refine blk_drew ?_ | refine blk_alloc ?_ _)); exact BK427.out⟩, ⟨by repeat (first | (with_reducible first | exact HB.out | apply below_alloc | apply pw_below_drewN | apply below_drew1 | refine below_set ?_ GE411.out | refine below_set ?_ GE427.out) | exact HB.out)⟩⟩
              · replace c70 := Bool.eq_false_iff.mpr c70
                subst c70
                have H1 : (laws_FnExactTileOrbits.j2 kj36 t443 t442 true) = some r := by rw [if_neg (show ¬ (false = true) by decide)] at H; exact H
                clear H
                have H := H1
                clear H1
                have H' := mkA H
                clear H
                obtain ⟨Ao73, co73, eo73⟩ := Kd.R_slice HO452.out
                subst eo73
                obtain ⟨Ao74, co74, eo74⟩ := Kd.R_slice HO_4.out
                subst eo74
                go_wp2_with (first | ((with_reducible refine gate_callee (f := 25) rfl ?_); refine goesL_ (some 81) rfl rfl Try.func25 (by kernel_rfl) rfl #[.slice Ao73 t450.length co73, .slice Ao74 t418.length co74] rfl (by (try simp only [List.map_toArray, List.map_cons, List.map_nil]); first | done | rfl | (simp only [List.length_drop, List.length_take]; rfl)) ?_; (with_reducible refine (laws_eqInt64S.calls kj36 _ _ t450 _ _ t418 false _ ?side1 ?side2 ?side3 ?side4 A69.out).mono ?_); (case side1 => repeat (first | exact (Kd.R_reads' HO452.out).2.2 | (with_reducible refine Kd.C_alloc ?_ _) | (with_reducible refine Kd.C_drewN ?_ _) | (with_reducible refine Kd.C_drew ?_))); (case side2 => exact (Kd.R_reads' HO452.out).2.1); (case side3 => repeat (first | exact (Kd.R_reads' HO_4.out).2.2 | (with_reducible refine Kd.C_alloc ?_ _) | (with_reducible refine Kd.C_drewN ?_ _) | (with_reducible refine Kd.C_drew ?_))); (case side4 => exact (Kd.R_reads' HO_4.out).2.1); rintro e w' ⟨rfl, ⟨nd, rfl⟩⟩; refine ⟨_, rfl, ?_⟩))
                go_meet
                case rel => exact ⟨_, (true), (by first | rfl | (simp; done) | (simp [*]; done) | (simp [i64_w, i32_w]; done)), H', ⟨by have := HJ10.out; have := HJ36.out; first | omega | exact Nat.le_refl _⟩, ⟨by (try simp only [hl428002_36]); (with_reducible repeat (first | apply Kd.R_alloc | apply Kd.R_drewN | apply Kd.R_drew)); exact Kd.R_mono HO_7.out (fun _ hk => hk.1.1.2)⟩, ⟨by (try simp only [hl428002_36]); (with_reducible repeat (first | apply Kd.R_alloc | apply Kd.R_drewN | apply Kd.R_drew)); exact Kd.R_mono HO_428002.out (fun _ hk => hk.1.1.2)⟩, ⟨by (try simp only [hl428002_36]); (with_reducible repeat (first | refine blk_drewN ?_ _ | refine blk_drew ?_ | refine blk_alloc ?_ _)); exact BK411.out⟩, ⟨by (try simp only [hl428002_36]); (with_reducible repeat (first | refine blk_drewN ?_ _ | refine blk_drew ?_ | refine blk_alloc ?_ _)); exact BK427.out⟩, ⟨by repeat (first | (with_reducible first | exact HB.out | apply below_alloc | apply pw_below_drewN | apply below_drew1 | refine below_set ?_ GE411.out | refine below_set ?_ GE427.out) | exact HB.out)⟩⟩
             case rest =>
              clear HC61
              try clear c1
              try clear c2
              try clear p2
              try clear c3
              try clear c3b0
              try clear c4
              try clear c5
              try clear c6
              try clear c7
              try clear c13
              try clear c15
              try clear c17
              try clear c20
              try clear c22
              try clear c25
              try clear c26
              try clear c27
              try clear c28
              try clear c32
              try clear c35
              try clear c42
              try clear c45
              try clear c45b0
              try clear c46
              try clear c47
              try clear c52
              try clear c55
              try clear c55b0
              try clear c58
              try clear c58b0
              try clear c58b1
              try clear c64
              try clear c70
              try clear hcz13_0
              try clear hcz13_1
              try clear hcz13_2
              try clear hcz15_0
              try clear hcz15_1
              try clear hcz15_2
              try clear hcz19_0
              try clear hcz19_1
              try clear hcz19_2
              try clear hcz23_0
              try clear hcz23_1
              try clear hcz23_2
              try clear hcz43_0
              try clear hcz43_1
              try clear hcz43_2
              try clear hcz5_0
              try clear hcz5_1
              try clear hcz5_2
              try clear hcz65_0
              try clear hcz65_1
              try clear hcz65_2
              try clear hfz13_0
              try clear hfz13_1
              try clear hfz13_2
              try clear hfz15_0
              try clear hfz15_1
              try clear hfz15_2
              try clear hfz19_0
              try clear hfz19_1
              try clear hfz19_2
              try clear hfz23_0
              try clear hfz23_1
              try clear hfz23_2
              try clear hfz43_0
              try clear hfz43_1
              try clear hfz43_2
              try clear hfz5_0
              try clear hfz5_1
              try clear hfz5_2
              try clear hfz65_0
              try clear hfz65_1
              try clear hfz65_2
              try clear p2
              obtain ⟨kq, x87_60, rfl, HA, HJ60, HO_7, HO_428002, BK411, BK427, HB⟩ := hcut
              have hl7_60 := (Kd.R_reads' HO_7.out).1
              rw [hl7_60] at HO_7
              (try simp only [hl7_60])
              (try simp only [hl7_60] at BK411)
              (try simp only [hl7_60] at BK427)
              (try simp only [hl7_60] at HO_428002)
              cases kq with
              | zero => exact absurd HA.out (by simp [laws_FnExactTileOrbits.j2])
              | succ kj60 =>
               have H := HA.out
               clear HA
               simp only [laws_FnExactTileOrbits.j2] at H
               by_cases c75 : x87_60 = true
               · subst c75
                 have H1 : (some false) = some r := by rw [if_pos rfl] at H; exact H
                 clear H
                 have H := H1
                 clear H1
                 obtain rfl := Option.some.inj H
                 go_wp2
                 go_ret
                 exact ⟨by first | rfl | (simp [errW_none, errW_some] <;> rfl) | (simp [*, errW_none, errW_some] <;> rfl), by repeat (first | (with_reducible first | exact HB.out | apply below_alloc | apply pw_below_drewN | apply below_drew1 | refine below_set ?_ GE411.out | refine below_set ?_ GE427.out) | exact HB.out)⟩
               · replace c75 := Bool.eq_false_iff.mpr c75
                 subst c75
                 have H1 : ((laws_heldInt64S.f kj60 t443 1).bind fun t455 => (if t455 < 0 then (some false) else (if t455 = t442 then (some true) else (some false)))) = some r := by rw [if_neg (show ¬ (false = true) by decide)] at H; exact H
                 clear H
                 have H := H1
                 clear H1
                 replace H := Option.bind_eq_some_iff.mp H
                 obtain ⟨t455, A760, H⟩ := H
                 replace H : (if t455 < 0 then (some false) else (if t455 = t442 then (some true) else (some false))) = some r := H
                 have A76 := mkA A760
                 clear A760
                 by_cases c77 : t455 < 0
                 · rw [if_pos c77] at H
                   have c77b0 : decide (t455 < 0) = true := decide_eq_true c77
                   clear c77
                   obtain rfl := Option.some.inj H
                   go_wp2_with (first | ((with_reducible refine gate_callee (f := 28) rfl ?_); refine goesL_ (some 90) rfl rfl Try.func28 (by kernel_rfl) rfl #[.slice Ao62 t443.length co62, .int .i64 1] rfl (by (try simp only [List.map_toArray, List.map_cons, List.map_nil]); first | done | rfl | (simp only [List.length_drop, List.length_take]; rfl)) ?_; (with_reducible refine (laws_heldInt64S.calls kj60 _ _ t443 1 t455 _ ?side1 ?side2 A76.out).mono ?_); (case side1 => repeat (first | exact (Kd.R_reads' HO_7.out).2.2 | (with_reducible refine Kd.C_alloc ?_ _) | (with_reducible refine Kd.C_drewN ?_ _) | (with_reducible refine Kd.C_drew ?_))); (case side2 => exact (Kd.R_reads' HO_7.out).2.1); rintro e w' ⟨rfl, ⟨nd, rfl⟩⟩; refine ⟨_, rfl, ?_⟩))
                   go_ret
                   exact ⟨by first | rfl | (simp [errW_none, errW_some] <;> rfl) | (simp [*, errW_none, errW_some] <;> rfl), by repeat (first | (with_reducible first | exact HB.out | apply below_alloc | apply pw_below_drewN | apply below_drew1 | refine below_set ?_ GE411.out | refine below_set ?_ GE427.out) | exact HB.out)⟩
                 · rw [if_neg c77] at H
                   have c77b0 : decide (t455 < 0) = false := decide_eq_false c77
                   clear c77
                   by_cases c78 : t455 = t442
                   rotate_left
                   · rw [if_neg c78] at H
                     have c78b0 : (t455 == t442) = false := beq_eq_false_iff_ne.mpr c78
                     have c78b1 : (t455 != t442) = true := bne_iff_ne.mpr c78
                     obtain rfl := Option.some.inj H
                     go_wp2_with (first | ((with_reducible refine gate_callee (f := 28) rfl ?_); refine goesL_ (some 90) rfl rfl Try.func28 (by kernel_rfl) rfl #[.slice Ao62 t443.length co62, .int .i64 1] rfl (by (try simp only [List.map_toArray, List.map_cons, List.map_nil]); first | done | rfl | (simp only [List.length_drop, List.length_take]; rfl)) ?_; (with_reducible refine (laws_heldInt64S.calls kj60 _ _ t443 1 t455 _ ?side1 ?side2 A76.out).mono ?_); (case side1 => repeat (first | exact (Kd.R_reads' HO_7.out).2.2 | (with_reducible refine Kd.C_alloc ?_ _) | (with_reducible refine Kd.C_drewN ?_ _) | (with_reducible refine Kd.C_drew ?_))); (case side2 => exact (Kd.R_reads' HO_7.out).2.1); rintro e w' ⟨rfl, ⟨nd, rfl⟩⟩; refine ⟨_, rfl, ?_⟩))
                     go_ret
                     exact ⟨by first | rfl | (simp [errW_none, errW_some] <;> rfl) | (simp [*, errW_none, errW_some] <;> rfl), by repeat (first | (with_reducible first | exact HB.out | apply below_alloc | apply pw_below_drewN | apply below_drew1 | refine below_set ?_ GE411.out | refine below_set ?_ GE427.out) | exact HB.out)⟩
                   rw [if_pos c78] at H
                   have c78b0 : (t455 == t442) = true := beq_iff_eq.mpr c78
                   have c78b1 : (t455 != t442) = false := bne_eq_false_iff_eq.mpr c78
                   clear c78
                   obtain rfl := Option.some.inj H
                   go_wp2_with (first | ((with_reducible refine gate_callee (f := 28) rfl ?_); refine goesL_ (some 90) rfl rfl Try.func28 (by kernel_rfl) rfl #[.slice Ao62 t443.length co62, .int .i64 1] rfl (by (try simp only [List.map_toArray, List.map_cons, List.map_nil]); first | done | rfl | (simp only [List.length_drop, List.length_take]; rfl)) ?_; (with_reducible refine (laws_heldInt64S.calls kj60 _ _ t443 1 t455 _ ?side1 ?side2 A76.out).mono ?_); (case side1 => repeat (first | exact (Kd.R_reads' HO_7.out).2.2 | (with_reducible refine Kd.C_alloc ?_ _) | (with_reducible refine Kd.C_drewN ?_ _) | (with_reducible refine Kd.C_drew ?_))); (case side2 => exact (Kd.R_reads' HO_7.out).2.1); rintro e w' ⟨rfl, ⟨nd, rfl⟩⟩; refine ⟨_, rfl, ?_⟩))
                   go_ret
                   exact ⟨by first | rfl | (simp [errW_none, errW_some] <;> rfl) | (simp [*, errW_none, errW_some] <;> rfl), by repeat (first | (with_reducible first | exact HB.out | apply below_alloc | apply pw_below_drewN | apply below_drew1 | refine below_set ?_ GE411.out | refine below_set ?_ GE427.out) | exact HB.out)⟩
def G24 (x : S24) : Prop := (Lit.int .i64 x.f0).wf = true ∧ (Lit.int .i64 x.f1).wf = true ∧ (x.f2.length ≤ maxLen ∧ ∀ y0 ∈ x.f2, (Lit.int .i64 y0).wf = true)

/-- THE ONE PURE STATEMENT of laws_FnExactTileOrbits. -/
def laws_FnExactTileOrbits.Pure : Prop := ∀ (a0_0 : Int) (a0_1 : Int) (l0_2 : List Int), G24 (⟨a0_0, a0_1, l0_2⟩ : S24) → ∃ k, laws_FnExactTileOrbits.f k a0_0 a0_1 l0_2 = some true

end Go.Proofs.Ytnidibnhojedoaa.GFnExactTileOrbits

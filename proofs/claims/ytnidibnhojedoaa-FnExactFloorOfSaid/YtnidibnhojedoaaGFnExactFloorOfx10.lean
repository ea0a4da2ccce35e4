-- Written by the session's own program (gen.py) out of the translation's print. Lean checks it.
import Derived.Test.YtnidibnhojedoaaGFnExactFloorOfx0
import Derived.Test.YtnidibnhojedoaaGFnExactFloorOfx1
import Derived.Test.YtnidibnhojedoaaGFnExactFloorOfx5
import Derived.Test.YtnidibnhojedoaaGFnExactFloorOfx8
import Derived.Test.YtnidibnhojedoaaGFnExactFloorOfx9
namespace Go.Proofs.Ytnidibnhojedoaa.GFnExactFloorOf
open Go.RowKit Go.Proofs.YtnidibnhojedoaaW.PrintWords Go.Proofs.YtnidibnhojedoaaW.PrintLast Go.Proofs.YtnidibnhojedoaaW.PrintMore
attribute [local go_sem] max2_int min2_int max_two min_two max_three min_three max_four min_four   -- for this text's walks alone
set_option linter.unusedVariables false
set_option linter.unusedSimpArgs false

/-! ### laws_FnExactFloorOf: function 5 -/
mutual
def laws_FnExactFloorOf.j0 : Nat → Int → Int → Int → Int → List Int → Int → List Int → Int → Bool → Int → Int → List Int → Int → Int → List Int → Option (Bool)
  | 0, _, _, _, _, _, _, _, _, _, _, _, _, _, _, _ => none
  | k + 1, x1, x2, x3, x4, x12, x13, x15, x16, x56, x262000, x262001, x262002, x278000, x278001, x278002 => if x56 = true then (some false) else ((laws_toTiling.f k x262000 x262001 x262002).bind fun bt283 => ((laws_eqTiling.f k x278000 x278001 x278002 bt283.1 bt283.2.1 bt283.2.2).bind fun t288 => (if t288 = true then ((laws_markTiling.f k x278000 x278001 x278002 1).bind fun bt289 => (if bt289.1 < 0 then (laws_FnExactFloorOf.j1 k x1 x2 x3 x4 x12 x13 x15 true x262000 x262001 x262002) else ((laws_eqInt64S.f k x15 x12).bind fun t291 => (if t291 = true then (laws_FnExactFloorOf.j1 k x1 x2 x3 x4 x12 x13 x15 (x16 != x13) x262000 x262001 x262002) else (laws_FnExactFloorOf.j1 k x1 x2 x3 x4 x12 x13 x15 true x262000 x262001 x262002))))) else (some false))))
def laws_FnExactFloorOf.j1 : Nat → Int → Int → Int → Int → List Int → Int → List Int → Bool → Int → Int → List Int → Option (Bool)
  | 0, _, _, _, _, _, _, _, _, _, _, _ => none
  | k + 1, x1, x2, x3, x4, x12, x13, x15, x77, x262000, x262001, x262002 => if x77 = true then (some false) else ((laws_markInt64S.f k x15 1).bind fun bt292 => ((laws_heldInt64S.f k bt292.2 1).bind fun t294 => (if t294 < 0 then (some false) else (if t294 = bt292.1 then ((laws_toTiling.f k x262000 x262001 x262002).bind fun bt295 => ((impl_FloorOf.f k bt295.1 bt295.2.1 bt295.2.2 x1 x2 x3 x4).bind fun bt300 => ((laws_eqInt64S.f k bt300.1 x12).bind fun t304 => (if t304 = true then (laws_FnExactFloorOf.j2 k bt292.2 bt292.1 (bt300.2 != x13)) else (laws_FnExactFloorOf.j2 k bt292.2 bt292.1 true))))) else (some false)))))
def laws_FnExactFloorOf.j2 : Nat → List Int → Int → Bool → Option (Bool)
  | 0, _, _, _ => none
  | k + 1, x15, x18, x107 => if x107 = true then (some false) else ((laws_heldInt64S.f k x15 1).bind fun t305 => (if t305 < 0 then (some false) else (if t305 = x18 then (some true) else (some false))))
end
def laws_FnExactFloorOf.f (k : Nat) (a0_0 : Int) (a0_1 : Int) (l0_2 : List Int) (a1 : Int) (a2 : Int) (a3 : Int) (a4 : Int) : Option (Bool) := (laws_szTiling.f a0_0 a0_1 l0_2 1048576).bind fun t262 => (if t262 < 0 then (some true) else ((laws_toTiling.f k a0_0 a0_1 l0_2).bind fun bt263 => ((spec_FloorOf.f k bt263.1 bt263.2.1 bt263.2.2 a1 a2 a3 a4).bind fun bt268 => ((laws_toTiling.f k a0_0 a0_1 l0_2).bind fun bt272 => ((impl_FloorOf.f k bt272.1 bt272.2.1 bt272.2.2 a1 a2 a3 a4).bind fun bt278 => ((laws_eqInt64S.f k bt278.1 bt268.1).bind fun t282 => (if t282 = true then (laws_FnExactFloorOf.j0 k a1 a2 a3 a4 bt268.1 bt268.2 bt278.1 bt278.2 (bt278.2 != bt268.2) a0_0 a0_1 l0_2 bt272.1 bt272.2.1 bt272.2.2) else (laws_FnExactFloorOf.j0 k a1 a2 a3 a4 bt268.1 bt268.2 bt278.1 bt278.2 true a0_0 a0_1 l0_2 bt272.1 bt272.2.1 bt272.2.2))))))))
theorem laws_FnExactFloorOf.mono_l : ∀ k, (∀ y0 y1 y2 y3 y4 y5 y6 y7 y8 y9 y10 y11 y12 y13 y14, LeO (laws_FnExactFloorOf.j0 k y0 y1 y2 y3 y4 y5 y6 y7 y8 y9 y10 y11 y12 y13 y14) (laws_FnExactFloorOf.j0 (k + 1) y0 y1 y2 y3 y4 y5 y6 y7 y8 y9 y10 y11 y12 y13 y14)) ∧ (∀ y0 y1 y2 y3 y4 y5 y6 y7 y8 y9 y10, LeO (laws_FnExactFloorOf.j1 k y0 y1 y2 y3 y4 y5 y6 y7 y8 y9 y10) (laws_FnExactFloorOf.j1 (k + 1) y0 y1 y2 y3 y4 y5 y6 y7 y8 y9 y10)) ∧ (∀ y0 y1 y2, LeO (laws_FnExactFloorOf.j2 k y0 y1 y2) (laws_FnExactFloorOf.j2 (k + 1) y0 y1 y2))
  | 0 => ⟨fun _ _ _ _ _ _ _ _ _ _ _ _ _ _ _ r h => by simp [laws_FnExactFloorOf.j0] at h, fun _ _ _ _ _ _ _ _ _ _ _ r h => by simp [laws_FnExactFloorOf.j1] at h, fun _ _ _ r h => by simp [laws_FnExactFloorOf.j2] at h⟩
  | k + 1 => by
    obtain ⟨ih0, ih1, ih2⟩ := laws_FnExactFloorOf.mono_l k
    refine ⟨?_, ?_, ?_⟩
    · intro y0 y1 y2 y3 y4 y5 y6 y7 y8 y9 y10 y11 y12 y13 y14
      unfold laws_FnExactFloorOf.j0
      repeat' first
      | (with_reducible exact ih0 _ _ _ _ _ _ _ _ _ _ _ _ _ _ _)
      | (with_reducible exact ih1 _ _ _ _ _ _ _ _ _ _ _)
      | (with_reducible exact ih2 _ _ _)
      | (with_reducible exact impl_FloorOf.mono _ _ _ _ _ _ _ _)
      | (with_reducible exact laws_eqInt64S.mono _ _ _)
      | (with_reducible exact laws_eqTiling.mono _ _ _ _ _ _ _)
      | (with_reducible exact laws_heldInt64S.mono _ _ _)
      | (with_reducible exact laws_markInt64S.mono _ _ _)
      | (with_reducible exact laws_markTiling.mono _ _ _ _ _)
      | (with_reducible exact laws_toTiling.mono _ _ _ _)
      | (with_reducible exact spec_FloorOf.mono _ _ _ _ _ _ _ _)
      | (with_reducible exact LeO.refl _)
      | (with_reducible exact LeO.none _)
      | (with_reducible refine LeO.ite ?_ ?_)
      | (with_reducible refine LeO.bind ?_ (fun _ => ?_))
      | exact ih0 _ _ _ _ _ _ _ _ _ _ _ _ _ _ _
      | exact ih1 _ _ _ _ _ _ _ _ _ _ _
      | exact ih2 _ _ _
      | exact impl_FloorOf.mono _ _ _ _ _ _ _ _
      | exact laws_eqInt64S.mono _ _ _
      | exact laws_eqTiling.mono _ _ _ _ _ _ _
      | exact laws_heldInt64S.mono _ _ _
      | exact laws_markInt64S.mono _ _ _
      | exact laws_markTiling.mono _ _ _ _ _
      | exact laws_toTiling.mono _ _ _ _
      | exact spec_FloorOf.mono _ _ _ _ _ _ _ _
      | exact LeO.none _
      | refine LeO.ite ?_ ?_
      | refine LeO.bind ?_ (fun _ => ?_)
    · intro y0 y1 y2 y3 y4 y5 y6 y7 y8 y9 y10
      unfold laws_FnExactFloorOf.j1
      repeat' first
      | (with_reducible exact ih0 _ _ _ _ _ _ _ _ _ _ _ _ _ _ _)
      | (with_reducible exact ih1 _ _ _ _ _ _ _ _ _ _ _)
      | (with_reducible exact ih2 _ _ _)
      | (with_reducible exact impl_FloorOf.mono _ _ _ _ _ _ _ _)
      | (with_reducible exact laws_eqInt64S.mono _ _ _)
      | (with_reducible exact laws_eqTiling.mono _ _ _ _ _ _ _)
      | (with_reducible exact laws_heldInt64S.mono _ _ _)
      | (with_reducible exact laws_markInt64S.mono _ _ _)
      | (with_reducible exact laws_markTiling.mono _ _ _ _ _)
      | (with_reducible exact laws_toTiling.mono _ _ _ _)
      | (with_reducible exact spec_FloorOf.mono _ _ _ _ _ _ _ _)
      | (with_reducible exact LeO.refl _)
      | (with_reducible exact LeO.none _)
      | (with_reducible refine LeO.ite ?_ ?_)
      | (with_reducible refine LeO.bind ?_ (fun _ => ?_))
      | exact ih0 _ _ _ _ _ _ _ _ _ _ _ _ _ _ _
      | exact ih1 _ _ _ _ _ _ _ _ _ _ _
      | exact ih2 _ _ _
      | exact impl_FloorOf.mono _ _ _ _ _ _ _ _
      | exact laws_eqInt64S.mono _ _ _
      | exact laws_eqTiling.mono _ _ _ _ _ _ _
      | exact laws_heldInt64S.mono _ _ _
      | exact laws_markInt64S.mono _ _ _
      | exact laws_markTiling.mono _ _ _ _ _
      | exact laws_toTiling.mono _ _ _ _
      | exact spec_FloorOf.mono _ _ _ _ _ _ _ _
      | exact LeO.none _
      | refine LeO.ite ?_ ?_
      | refine LeO.bind ?_ (fun _ => ?_)
    · intro y0 y1 y2
      unfold laws_FnExactFloorOf.j2
      repeat' first
      | (with_reducible exact ih0 _ _ _ _ _ _ _ _ _ _ _ _ _ _ _)
      | (with_reducible exact ih1 _ _ _ _ _ _ _ _ _ _ _)
      | (with_reducible exact ih2 _ _ _)
      | (with_reducible exact impl_FloorOf.mono _ _ _ _ _ _ _ _)
      | (with_reducible exact laws_eqInt64S.mono _ _ _)
      | (with_reducible exact laws_eqTiling.mono _ _ _ _ _ _ _)
      | (with_reducible exact laws_heldInt64S.mono _ _ _)
      | (with_reducible exact laws_markInt64S.mono _ _ _)
      | (with_reducible exact laws_markTiling.mono _ _ _ _ _)
      | (with_reducible exact laws_toTiling.mono _ _ _ _)
      | (with_reducible exact spec_FloorOf.mono _ _ _ _ _ _ _ _)
      | (with_reducible exact LeO.refl _)
      | (with_reducible exact LeO.none _)
      | (with_reducible refine LeO.ite ?_ ?_)
      | (with_reducible refine LeO.bind ?_ (fun _ => ?_))
      | exact ih0 _ _ _ _ _ _ _ _ _ _ _ _ _ _ _
      | exact ih1 _ _ _ _ _ _ _ _ _ _ _
      | exact ih2 _ _ _
      | exact impl_FloorOf.mono _ _ _ _ _ _ _ _
      | exact laws_eqInt64S.mono _ _ _
      | exact laws_eqTiling.mono _ _ _ _ _ _ _
      | exact laws_heldInt64S.mono _ _ _
      | exact laws_markInt64S.mono _ _ _
      | exact laws_markTiling.mono _ _ _ _ _
      | exact laws_toTiling.mono _ _ _ _
      | exact spec_FloorOf.mono _ _ _ _ _ _ _ _
      | exact LeO.none _
      | refine LeO.ite ?_ ?_
      | refine LeO.bind ?_ (fun _ => ?_)
theorem laws_FnExactFloorOf.mono : ∀ a0 a1 a2 a3 a4 a5 a6 k, LeO (laws_FnExactFloorOf.f k a0 a1 a2 a3 a4 a5 a6) (laws_FnExactFloorOf.f (k + 1) a0 a1 a2 a3 a4 a5 a6) := by
  intro a0 a1 a2 a3 a4 a5 a6 k
  obtain ⟨ih0, ih1, ih2⟩ := laws_FnExactFloorOf.mono_l k
  unfold laws_FnExactFloorOf.f
  repeat' first
      | (with_reducible exact ih0 _ _ _ _ _ _ _ _ _ _ _ _ _ _ _)
      | (with_reducible exact ih1 _ _ _ _ _ _ _ _ _ _ _)
      | (with_reducible exact ih2 _ _ _)
      | (with_reducible exact impl_FloorOf.mono _ _ _ _ _ _ _ _)
      | (with_reducible exact laws_eqInt64S.mono _ _ _)
      | (with_reducible exact laws_eqTiling.mono _ _ _ _ _ _ _)
      | (with_reducible exact laws_heldInt64S.mono _ _ _)
      | (with_reducible exact laws_markInt64S.mono _ _ _)
      | (with_reducible exact laws_markTiling.mono _ _ _ _ _)
      | (with_reducible exact laws_toTiling.mono _ _ _ _)
      | (with_reducible exact spec_FloorOf.mono _ _ _ _ _ _ _ _)
      | (with_reducible exact LeO.refl _)
      | (with_reducible exact LeO.none _)
      | (with_reducible refine LeO.ite ?_ ?_)
      | (with_reducible refine LeO.bind ?_ (fun _ => ?_))
      | exact ih0 _ _ _ _ _ _ _ _ _ _ _ _ _ _ _
      | exact ih1 _ _ _ _ _ _ _ _ _ _ _
      | exact ih2 _ _ _
      | exact impl_FloorOf.mono _ _ _ _ _ _ _ _
      | exact laws_eqInt64S.mono _ _ _
      | exact laws_eqTiling.mono _ _ _ _ _ _ _
      | exact laws_heldInt64S.mono _ _ _
      | exact laws_markInt64S.mono _ _ _
      | exact laws_markTiling.mono _ _ _ _ _
      | exact laws_toTiling.mono _ _ _ _
      | exact spec_FloorOf.mono _ _ _ _ _ _ _ _
      | exact LeO.none _
      | refine LeO.ite ?_ ?_
      | refine LeO.bind ?_ (fun _ => ?_)
open List renaming setIfInBounds_toArray → sA, set_cons_zero → sB, set_cons_succ → sC
open Go.Proofs.YtnidibnhojedoaaW.PrintWords.Aside0 renaming mk → mkA
open Go.Proofs.YtnidibnhojedoaaX (bc_ p0_ p1_ bl_ cb_ bs0_ bs1_ bs2_ bs3_ bs4_ bs5_ bs6_ bs7_ bs8_ bs9_ bs10_ bs11_ bs12_)
set_option maxHeartbeats 8000000 in
set_option maxRecDepth 100000 in
theorem laws_FnExactFloorOf.calls (k : Nat) (a0_0 : Int) (a0_1 : Int) (A0_2 : Option Addr) (c0_2 : Nat) (l0_2 : List Int) (a1 : Int) (a2 : Int) (a3 : Int) (a4 : Int) (r : Bool) (w : World) (hr0_2 : Kd.C (Kd.int .i64) w A0_2 l0_2.length l0_2) (hc0_2 : l0_2.length ≤ c0_2) (h : laws_FnExactFloorOf.f k a0_0 a0_1 l0_2 a1 a2 a3 a4 = some r) :
 Calls Try.prog 5 #[.agg #[.int .i64 a0_0, .int .i64 a0_1, .slice A0_2 l0_2.length c0_2], .int .i64 a1, .int .i64 a2, .int .i64 a3, .int .i64 a4] w fun e w' => e = .returned (.bool r) ∧ Below w.heap.size w w' := by
 have hu24 := Try.underlying24
 have hu29 := Try.underlying29
 have HR0_2 := mkA hr0_2
 have HC0_2 := mkA hc0_2
 clear hr0_2 hc0_2
 have HB := mkA (Below.refl w.heap.size w)
 have H : ((laws_szTiling.f a0_0 a0_1 l0_2 1048576).bind fun t262 => (if t262 < 0 then (some true) else ((laws_toTiling.f k a0_0 a0_1 l0_2).bind fun bt263 => ((spec_FloorOf.f k bt263.1 bt263.2.1 bt263.2.2 a1 a2 a3 a4).bind fun bt268 => ((laws_toTiling.f k a0_0 a0_1 l0_2).bind fun bt272 => ((impl_FloorOf.f k bt272.1 bt272.2.1 bt272.2.2 a1 a2 a3 a4).bind fun bt278 => ((laws_eqInt64S.f k bt278.1 bt268.1).bind fun t282 => (if t282 = true then (laws_FnExactFloorOf.j0 k a1 a2 a3 a4 bt268.1 bt268.2 bt278.1 bt278.2 (bt278.2 != bt268.2) a0_0 a0_1 l0_2 bt272.1 bt272.2.1 bt272.2.2) else (laws_FnExactFloorOf.j0 k a1 a2 a3 a4 bt268.1 bt268.2 bt278.1 bt278.2 true a0_0 a0_1 l0_2 bt272.1 bt272.2.1 bt272.2.2))))))))) = some r := h
 clear h
 replace H := Option.bind_eq_some_iff.mp H
 obtain ⟨t262, A60, H⟩ := H
 replace H : (if t262 < 0 then (some true) else ((laws_toTiling.f k a0_0 a0_1 l0_2).bind fun bt263 => ((spec_FloorOf.f k bt263.1 bt263.2.1 bt263.2.2 a1 a2 a3 a4).bind fun bt268 => ((laws_toTiling.f k a0_0 a0_1 l0_2).bind fun bt272 => ((impl_FloorOf.f k bt272.1 bt272.2.1 bt272.2.2 a1 a2 a3 a4).bind fun bt278 => ((laws_eqInt64S.f k bt278.1 bt268.1).bind fun t282 => (if t282 = true then (laws_FnExactFloorOf.j0 k a1 a2 a3 a4 bt268.1 bt268.2 bt278.1 bt278.2 (bt278.2 != bt268.2) a0_0 a0_1 l0_2 bt272.1 bt272.2.1 bt272.2.2) else (laws_FnExactFloorOf.j0 k a1 a2 a3 a4 bt268.1 bt268.2 bt278.1 bt278.2 true a0_0 a0_1 l0_2 bt272.1 bt272.2.1 bt272.2.2)))))))) = some r := H
 have A6 := mkA A60
 clear A60
 by_cases c7 : t262 < 0
 · rw [if_pos c7] at H
   have c7b0 : decide (t262 < 0) = true := decide_eq_true c7
   clear c7
   obtain rfl := Option.some.inj H
   go_enter Try.func5, Try.ntmps5
   go_wp2_with (first | ((with_reducible refine gate_dst (N := 5) rfl ?_); refine box_event ?hg (N := 5) ?hd (cs := #[.int .i64 a0_0, .int .i64 a0_1, .slice A0_2 l0_2.length c0_2]) (t := 24) ?hr ?_; (case hd => rfl); (case hg => rfl); (case hr => first | (go_simp; done) | (go_simp; rfl)); intro gb261 hg w8 hbox hb; have n0_ := mkA (below_step (bs0_ HB.out) hb); have n1_ := mkA (hbox); have n2_ := mkA ((by rw [hg]; exact (below_size (bs0_ HB.out)) : w.heap.size ≤ gb261)); have n3_ := mkA ((by rw [hg]; exact (below_size (bs0_ HB.out)) : w.heap.size ≤ gb261)); clear HB; have HB := n0_; have BK261 := n1_; have GW261 := n2_; have GE261 := n3_; clear n0_ n1_ n2_ n3_; clear hb hbox hg; have hcz9_0 : w8.cell? ⟨gb261, 0, none⟩ = some (.int .i64 a0_0) := (blk_cell BK261.out 0).trans rfl; have hcz9_1 : w8.cell? ⟨gb261, 1, none⟩ = some (.int .i64 a0_1) := (blk_cell BK261.out 1).trans rfl; have hcz9_2 : w8.cell? ⟨gb261, 2, none⟩ = some (.slice A0_2 l0_2.length c0_2) := (blk_cell BK261.out 2).trans rfl; have hfz9_0 := blk_frozen BK261.out 0; have hfz9_1 := blk_frozen BK261.out 1; have hfz9_2 := blk_frozen BK261.out 2) | ((with_reducible refine gate_callee (f := 15) rfl ?_); refine goesL_ (some 24) rfl rfl Try.func15 (by kernel_rfl) rfl #[.agg #[.int .i64 a0_0, .int .i64 a0_1, .slice A0_2 l0_2.length c0_2], .int .i64 1048576] rfl (by (try simp only [List.map_toArray, List.map_cons, List.map_nil]); first | done | rfl | (simp only [List.length_drop, List.length_take]; rfl)) ?_; (with_reducible refine (laws_szTiling.calls a0_0 a0_1 _ _ l0_2 1048576 t262 _ ?side1 ?side2 A6.out).mono ?_); (case side1 => exact cb_ HR0_2.out HB.out); (case side2 => exact HC0_2.out); rintro e w10 ⟨rfl, hb⟩; refine ⟨_, rfl, ?_⟩; have n0_ := mkA (blk_below (g := gb261) (o := .cells #[.int .i64 a0_0, .int .i64 a0_1, .slice A0_2 l0_2.length c0_2] 24 (0, 0)) (bl_ BK261.out) hb); have n1_ := mkA (below_step (bs1_ HB.out GE261.out) hb); clear BK261; clear HB; have BK261 := n0_; have HB := n1_; clear n0_ n1_; (try clear hb); (try clear hb2); (try clear hk); (try clear hi)))
   go_ret
   exact ⟨by first | rfl | (simp [errW_none, errW_some] <;> rfl) | (simp [*, errW_none, errW_some] <;> rfl), by repeat (first | (with_reducible first | exact HB.out | apply below_alloc | apply pw_below_drewN | apply below_drew1 | refine below_set ?_ GE261.out) | exact HB.out)⟩
 · rw [if_neg c7] at H
   have c7b0 : decide (t262 < 0) = false := decide_eq_false c7
   clear c7
   replace H := Option.bind_eq_some_iff.mp H
   obtain ⟨⟨t263, t264, t265⟩, A110, H⟩ := H
   replace H : ((spec_FloorOf.f k t263 t264 t265 a1 a2 a3 a4).bind fun bt268 => ((laws_toTiling.f k a0_0 a0_1 l0_2).bind fun bt272 => ((impl_FloorOf.f k bt272.1 bt272.2.1 bt272.2.2 a1 a2 a3 a4).bind fun bt278 => ((laws_eqInt64S.f k bt278.1 bt268.1).bind fun t282 => (if t282 = true then (laws_FnExactFloorOf.j0 k a1 a2 a3 a4 bt268.1 bt268.2 bt278.1 bt278.2 (bt278.2 != bt268.2) a0_0 a0_1 l0_2 bt272.1 bt272.2.1 bt272.2.2) else (laws_FnExactFloorOf.j0 k a1 a2 a3 a4 bt268.1 bt268.2 bt278.1 bt278.2 true a0_0 a0_1 l0_2 bt272.1 bt272.2.1 bt272.2.2)))))) = some r := H
   have A11 := mkA A110
   clear A110
   replace H := Option.bind_eq_some_iff.mp H
   obtain ⟨⟨t268, t271⟩, A120, H⟩ := H
   replace H : ((laws_toTiling.f k a0_0 a0_1 l0_2).bind fun bt272 => ((impl_FloorOf.f k bt272.1 bt272.2.1 bt272.2.2 a1 a2 a3 a4).bind fun bt278 => ((laws_eqInt64S.f k bt278.1 t268).bind fun t282 => (if t282 = true then (laws_FnExactFloorOf.j0 k a1 a2 a3 a4 t268 t271 bt278.1 bt278.2 (bt278.2 != t271) a0_0 a0_1 l0_2 bt272.1 bt272.2.1 bt272.2.2) else (laws_FnExactFloorOf.j0 k a1 a2 a3 a4 t268 t271 bt278.1 bt278.2 true a0_0 a0_1 l0_2 bt272.1 bt272.2.1 bt272.2.2))))) = some r := H
   have A12 := mkA A120
   clear A120
   replace H := Option.bind_eq_some_iff.mp H
   obtain ⟨⟨t272, t273, t274⟩, A130, H⟩ := H
   replace H : ((impl_FloorOf.f k t272 t273 t274 a1 a2 a3 a4).bind fun bt278 => ((laws_eqInt64S.f k bt278.1 t268).bind fun t282 => (if t282 = true then (laws_FnExactFloorOf.j0 k a1 a2 a3 a4 t268 t271 bt278.1 bt278.2 (bt278.2 != t271) a0_0 a0_1 l0_2 t272 t273 t274) else (laws_FnExactFloorOf.j0 k a1 a2 a3 a4 t268 t271 bt278.1 bt278.2 true a0_0 a0_1 l0_2 t272 t273 t274)))) = some r := H
   have A13 := mkA A130
   clear A130
   replace H := Option.bind_eq_some_iff.mp H
   obtain ⟨⟨t278, t281⟩, A140, H⟩ := H
   replace H : ((laws_eqInt64S.f k t278 t268).bind fun t282 => (if t282 = true then (laws_FnExactFloorOf.j0 k a1 a2 a3 a4 t268 t271 t278 t281 (t281 != t271) a0_0 a0_1 l0_2 t272 t273 t274) else (laws_FnExactFloorOf.j0 k a1 a2 a3 a4 t268 t271 t278 t281 true a0_0 a0_1 l0_2 t272 t273 t274))) = some r := H
   have A14 := mkA A140
   clear A140
   have HC15 := mkA H
   clear H
   go_enter Try.func5, Try.ntmps5
   go_upto_region 8 with (first | ((with_reducible refine gate_dst (N := 5) rfl ?_); refine box_event ?hg (N := 5) ?hd (cs := #[.int .i64 a0_0, .int .i64 a0_1, .slice A0_2 l0_2.length c0_2]) (t := 24) ?hr ?_; (case hd => rfl); (case hg => rfl); (case hr => first | (go_simp; done) | (go_simp; rfl)); intro gb261 hg w16 hbox hb; have n0_ := mkA (below_step (bs0_ HB.out) hb); have n1_ := mkA (hbox); have n2_ := mkA ((by rw [hg]; exact (below_size (bs0_ HB.out)) : w.heap.size ≤ gb261)); have n3_ := mkA ((by rw [hg]; exact (below_size (bs0_ HB.out)) : w.heap.size ≤ gb261)); clear HB; have HB := n0_; have BK261 := n1_; have GW261 := n2_; have GE261 := n3_; clear n0_ n1_ n2_ n3_; clear hb hbox hg; have hcz17_0 : w16.cell? ⟨gb261, 0, none⟩ = some (.int .i64 a0_0) := (blk_cell BK261.out 0).trans rfl; have hcz17_1 : w16.cell? ⟨gb261, 1, none⟩ = some (.int .i64 a0_1) := (blk_cell BK261.out 1).trans rfl; have hcz17_2 : w16.cell? ⟨gb261, 2, none⟩ = some (.slice A0_2 l0_2.length c0_2) := (blk_cell BK261.out 2).trans rfl; have hfz17_0 := blk_frozen BK261.out 0; have hfz17_1 := blk_frozen BK261.out 1; have hfz17_2 := blk_frozen BK261.out 2) | ((with_reducible refine gate_callee (f := 15) rfl ?_); refine goesL_ (some 24) rfl rfl Try.func15 (by kernel_rfl) rfl #[.agg #[.int .i64 a0_0, .int .i64 a0_1, .slice A0_2 l0_2.length c0_2], .int .i64 1048576] rfl (by (try simp only [List.map_toArray, List.map_cons, List.map_nil]); first | done | rfl | (simp only [List.length_drop, List.length_take]; rfl)) ?_; (with_reducible refine (laws_szTiling.calls a0_0 a0_1 _ _ l0_2 1048576 t262 _ ?side1 ?side2 A6.out).mono ?_); (case side1 => exact cb_ HR0_2.out HB.out); (case side2 => exact HC0_2.out); rintro e w18 ⟨rfl, hb⟩; refine ⟨_, rfl, ?_⟩; have n0_ := mkA (blk_below (g := gb261) (o := .cells #[.int .i64 a0_0, .int .i64 a0_1, .slice A0_2 l0_2.length c0_2] 24 (0, 0)) (bl_ BK261.out) hb); have n1_ := mkA (below_step (bs1_ HB.out GE261.out) hb); clear BK261; clear HB; have BK261 := n0_; have HB := n1_; clear n0_ n1_; (try clear hb); (try clear hb2); (try clear hk); (try clear hi); have hcz19_0 : w18.cell? ⟨gb261, 0, none⟩ = some (.int .i64 a0_0) := (blk_cell BK261.out 0).trans rfl; have hcz19_1 : w18.cell? ⟨gb261, 1, none⟩ = some (.int .i64 a0_1) := (blk_cell BK261.out 1).trans rfl; have hcz19_2 : w18.cell? ⟨gb261, 2, none⟩ = some (.slice A0_2 l0_2.length c0_2) := (blk_cell BK261.out 2).trans rfl; have hfz19_0 := blk_frozen BK261.out 0; have hfz19_1 := blk_frozen BK261.out 1; have hfz19_2 := blk_frozen BK261.out 2) | ((with_reducible refine gate_callee (f := 17) rfl ?_); refine goesL_ (some 29) rfl rfl Try.func17 (by kernel_rfl) rfl #[.agg #[.int .i64 a0_0, .int .i64 a0_1, .slice A0_2 l0_2.length c0_2]] rfl (by (try simp only [List.map_toArray, List.map_cons, List.map_nil]); first | done | rfl | (simp only [List.length_drop, List.length_take]; rfl)) ?_; (with_reducible refine (laws_toTiling.calls k a0_0 a0_1 _ _ l0_2 t263 t264 t265 _ ?side1 ?side2 A11.out).mono ?_); (case side1 => exact cb_ HR0_2.out HB.out); (case side2 => exact HC0_2.out); rintro e w20 ⟨v266, rfl, ho0, hb⟩; refine ⟨_, rfl, ?_⟩; have n0_ := mkA (Kd.R_lower ho0 (below_size (bs1_ HB.out GE261.out))); have n1_ := mkA (blk_below (g := gb261) (o := .cells #[.int .i64 a0_0, .int .i64 a0_1, .slice A0_2 l0_2.length c0_2] 24 (0, 0)) (bl_ BK261.out) hb); have n2_ := mkA (below_step (bs1_ HB.out GE261.out) hb); clear BK261; clear HB; have HO267 := n0_; have BK261 := n1_; have HB := n2_; clear n0_ n1_ n2_; (try clear hb); (try clear hb2); (try clear hk); (try clear hi); (try clear ho0); obtain ⟨Ao21, co21, eo21⟩ := Kd.R_slice HO267.out; subst eo21) | ((with_reducible refine gate_callee (f := 23) rfl ?_); refine goesL_ (some 34) rfl rfl Try.func23 (by kernel_rfl) rfl #[.agg #[.int .i64 t263, .int .i64 t264, .slice Ao21 t265.length co21], .int .i64 a1, .int .i64 a2, .int .i64 a3, .int .i64 a4] rfl (by (try simp only [List.map_toArray, List.map_cons, List.map_nil]); first | done | rfl | (simp only [List.length_drop, List.length_take]; rfl)) ?_; (with_reducible refine (spec_FloorOf.calls k t263 t264 _ _ t265 a1 a2 a3 a4 t268 t271 _ ?side1 ?side2 A12.out).mono ?_); (case side1 => repeat (first | exact (Kd.R_reads' HO267.out).2.2 | (with_reducible refine Kd.C_alloc ?_ _) | (with_reducible refine Kd.C_drewN ?_ _) | (with_reducible refine Kd.C_drew ?_))); (case side2 => exact (Kd.R_reads' HO267.out).2.1); rintro e w22 ⟨v269, rfl, ho0, hb⟩; refine ⟨_, rfl, ?_⟩; have n0_ := mkA (Kd.R_elder' (by (with_reducible repeat (first | apply Kd.R_alloc | apply Kd.R_drewN | apply Kd.R_drew)); exact HO267.out) (Kd.R_base ho0) hb); have n1_ := mkA (Kd.R_lower (Kd.R_new' ho0 (Kd.R_lt (by (with_reducible repeat (first | apply Kd.R_alloc | apply Kd.R_drewN | apply Kd.R_drew)); exact HO267.out))) (below_size (bs1_ HB.out GE261.out))); have n2_ := mkA (blk_below (g := gb261) (o := .cells #[.int .i64 a0_0, .int .i64 a0_1, .slice A0_2 l0_2.length c0_2] 24 (0, 0)) (bl_ BK261.out) hb); have n3_ := mkA (below_step (bs1_ HB.out GE261.out) hb); clear HO267; clear BK261; clear HB; have HO267 := n0_; have HO270 := n1_; have BK261 := n2_; have HB := n3_; clear n0_ n1_ n2_ n3_; (try clear hb); (try clear hb2); (try clear hk); (try clear hi); (try clear ho0); have hcz23_0 : w22.cell? ⟨gb261, 0, none⟩ = some (.int .i64 a0_0) := (blk_cell BK261.out 0).trans rfl; have hcz23_1 : w22.cell? ⟨gb261, 1, none⟩ = some (.int .i64 a0_1) := (blk_cell BK261.out 1).trans rfl; have hcz23_2 : w22.cell? ⟨gb261, 2, none⟩ = some (.slice A0_2 l0_2.length c0_2) := (blk_cell BK261.out 2).trans rfl; have hfz23_0 := blk_frozen BK261.out 0; have hfz23_1 := blk_frozen BK261.out 1; have hfz23_2 := blk_frozen BK261.out 2) | ((with_reducible refine gate_callee (f := 17) rfl ?_); refine goesL_ (some 38) rfl rfl Try.func17 (by kernel_rfl) rfl #[.agg #[.int .i64 a0_0, .int .i64 a0_1, .slice A0_2 l0_2.length c0_2]] rfl (by (try simp only [List.map_toArray, List.map_cons, List.map_nil]); first | done | rfl | (simp only [List.length_drop, List.length_take]; rfl)) ?_; (with_reducible refine (laws_toTiling.calls k a0_0 a0_1 _ _ l0_2 t272 t273 t274 _ ?side1 ?side2 A13.out).mono ?_); (case side1 => exact cb_ HR0_2.out HB.out); (case side2 => exact HC0_2.out); rintro e w24 ⟨v275, rfl, ho0, hb⟩; refine ⟨_, rfl, ?_⟩; have n0_ := mkA (Kd.R_elder' (by (with_reducible repeat (first | apply Kd.R_alloc | apply Kd.R_drewN | apply Kd.R_drew)); exact HO267.out) (Kd.R_base ho0) hb); have n1_ := mkA (Kd.R_elder' (by (with_reducible repeat (first | apply Kd.R_alloc | apply Kd.R_drewN | apply Kd.R_drew)); exact HO270.out) (Kd.R_base ho0) hb); have n2_ := mkA (Kd.R_lower (Kd.R_new' (Kd.R_new' ho0 (Kd.R_lt (by (with_reducible repeat (first | apply Kd.R_alloc | apply Kd.R_drewN | apply Kd.R_drew)); exact HO267.out))) (Kd.R_lt (by (with_reducible repeat (first | apply Kd.R_alloc | apply Kd.R_drewN | apply Kd.R_drew)); exact HO270.out))) (below_size (bs1_ HB.out GE261.out))); have n3_ := mkA (blk_below (g := gb261) (o := .cells #[.int .i64 a0_0, .int .i64 a0_1, .slice A0_2 l0_2.length c0_2] 24 (0, 0)) (bl_ BK261.out) hb); have n4_ := mkA (below_step (bs1_ HB.out GE261.out) hb); clear HO267; clear HO270; clear BK261; clear HB; have HO267 := n0_; have HO270 := n1_; have HO276 := n2_; have BK261 := n3_; have HB := n4_; clear n0_ n1_ n2_ n3_ n4_; (try clear hb); (try clear hb2); (try clear hk); (try clear hi); (try clear ho0)) | ((with_reducible refine gate_dst (N := 14) rfl ?_); refine box_event ?hg (N := 14) ?hd (cs := #[.int .i64 0, .int .i64 0, .slice none 0 0]) (t := 29) ?hr ?_; (case hd => rfl); (case hg => rfl); (case hr => first | (go_simp; done) | (go_simp; rfl)); intro gb277 hg w25 hbox hb; have n0_ := mkA (Kd.R_below (by (with_reducible repeat (first | apply Kd.R_alloc | apply Kd.R_drewN | apply Kd.R_drew)); exact HO267.out) hb); have n1_ := mkA (Kd.R_below (by (with_reducible repeat (first | apply Kd.R_alloc | apply Kd.R_drewN | apply Kd.R_drew)); exact HO270.out) hb); have n2_ := mkA (Kd.R_below (by (with_reducible repeat (first | apply Kd.R_alloc | apply Kd.R_drewN | apply Kd.R_drew)); exact HO276.out) hb); have n3_ := mkA (blk_below (g := gb261) (o := .cells #[.int .i64 a0_0, .int .i64 a0_1, .slice A0_2 l0_2.length c0_2] 24 (0, 0)) (bl_ BK261.out) hb); have n4_ := mkA (below_step (bs1_ HB.out GE261.out) hb); have n5_ := mkA (hbox); have n6_ := mkA ((by rw [hg]; exact (below_size (bs1_ HB.out GE261.out)) : w.heap.size ≤ gb277)); have n7_ := mkA ((by rw [hg]; exact (below_size (bs1_ HB.out GE261.out)) : w.heap.size ≤ gb277)); have n8_ := mkA ((by rw [hg]; exact Nat.ne_of_lt (blk_lt (g := gb261) (o := .cells #[.int .i64 a0_0, .int .i64 a0_1, .slice A0_2 l0_2.length c0_2] 24 (0, 0)) (bl_ BK261.out)) : gb261 ≠ gb277)); have n9_ := mkA ((by rw [hg]; exact Nat.ne_of_gt (blk_lt (g := gb261) (o := .cells #[.int .i64 a0_0, .int .i64 a0_1, .slice A0_2 l0_2.length c0_2] 24 (0, 0)) (bl_ BK261.out)) : gb277 ≠ gb261)); clear HO267; clear HO270; clear HO276; clear BK261; clear HB; have HO267 := n0_; have HO270 := n1_; have HO276 := n2_; have BK261 := n3_; have HB := n4_; have BK277 := n5_; have GW277 := n6_; have GE277 := n7_; have NB261_277 := n8_; have NB277_261 := n9_; clear n0_ n1_ n2_ n3_ n4_ n5_ n6_ n7_ n8_ n9_; clear hb hbox hg; have hnb26 := NB277_261.out; have hnc26 := NB261_277.out; have hcz27_0 : w25.cell? ⟨gb277, 0, none⟩ = some (.int .i64 0) := (blk_cell BK277.out 0).trans rfl; have hcz27_1 : w25.cell? ⟨gb277, 1, none⟩ = some (.int .i64 0) := (blk_cell BK277.out 1).trans rfl; have hcz27_2 : w25.cell? ⟨gb277, 2, none⟩ = some (.slice none 0 0) := (blk_cell BK277.out 2).trans rfl; have hfz27_0 := blk_frozen BK277.out 0; have hfz27_1 := blk_frozen BK277.out 1; have hfz27_2 := blk_frozen BK277.out 2; obtain ⟨Ao28, co28, eo28⟩ := Kd.R_slice HO276.out; subst eo28) | ((with_reducible refine gate_callee (f := 24) rfl ?_); refine goesL_ (some 45) rfl rfl Try.func24 (by kernel_rfl) rfl #[.agg #[.int .i64 t272, .int .i64 t273, .slice Ao28 t274.length co28], .int .i64 a1, .int .i64 a2, .int .i64 a3, .int .i64 a4] rfl (by (try simp only [List.map_toArray, List.map_cons, List.map_nil]); first | done | rfl | (simp only [List.length_drop, List.length_take]; rfl)) ?_; (with_reducible refine (impl_FloorOf.calls k t272 t273 _ _ t274 a1 a2 a3 a4 t278 t281 _ ?side1 ?side2 A14.out).mono ?_); (case side1 => refine (Kd.R_reads' (e := 2) (base := w.heap.size) (ok := fun k_ => ((True ∧ some k_ ≠ (.slice Ao21 t265.length co21 : Value).ownBlock) ∧ some k_ ≠ (v269 : Value).ownBlock)) (n := t274.length) (c := co28) ?_).2.2; exact (by (with_reducible repeat (first | apply Kd.R_alloc | apply Kd.R_drewN | apply Kd.R_drew)); exact (Kd.R_mono (Kd.R_far (p := ⟨gb277, 2, none⟩) (Kd.R_far (p := ⟨gb277, 1, none⟩) (Kd.R_far (p := ⟨gb277, 0, none⟩) (Kd.R_types HO276.out BK277.out (by decide)) (fun _ hk => hk.2) (.int .i64 t272)) (fun _ hk => hk.2) (.int .i64 t273)) (fun _ hk => hk.2) (.slice Ao28 t274.length co28)) (fun _ h_ => h_.1)))); (case side2 => exact (Kd.R_reads' HO276.out).2.1); rintro e w29 ⟨v279, rfl, ho0, hb⟩; refine ⟨_, rfl, ?_⟩; have n0_ := mkA (Kd.R_elder' (by (with_reducible repeat (first | apply Kd.R_alloc | apply Kd.R_drewN | apply Kd.R_drew)); exact (Kd.R_mono (Kd.R_far (p := ⟨gb277, 2, none⟩) (Kd.R_far (p := ⟨gb277, 1, none⟩) (Kd.R_far (p := ⟨gb277, 0, none⟩) (Kd.R_types HO267.out BK277.out (by decide)) (fun _ hk => hk.2) (.int .i64 t272)) (fun _ hk => hk.2) (.int .i64 t273)) (fun _ hk => hk.2) (.slice Ao28 t274.length co28)) (fun _ h_ => h_.1))) (Kd.R_base ho0) hb); have n1_ := mkA (Kd.R_elder' (by (with_reducible repeat (first | apply Kd.R_alloc | apply Kd.R_drewN | apply Kd.R_drew)); exact (Kd.R_mono (Kd.R_far (p := ⟨gb277, 2, none⟩) (Kd.R_far (p := ⟨gb277, 1, none⟩) (Kd.R_far (p := ⟨gb277, 0, none⟩) (Kd.R_types HO270.out BK277.out (by decide)) (fun _ hk => hk.2) (.int .i64 t272)) (fun _ hk => hk.2) (.int .i64 t273)) (fun _ hk => hk.2) (.slice Ao28 t274.length co28)) (fun _ h_ => h_.1))) (Kd.R_base ho0) hb); have n2_ := mkA (Kd.R_elder' (by (with_reducible repeat (first | apply Kd.R_alloc | apply Kd.R_drewN | apply Kd.R_drew)); exact (Kd.R_mono (Kd.R_far (p := ⟨gb277, 2, none⟩) (Kd.R_far (p := ⟨gb277, 1, none⟩) (Kd.R_far (p := ⟨gb277, 0, none⟩) (Kd.R_types HO276.out BK277.out (by decide)) (fun _ hk => hk.2) (.int .i64 t272)) (fun _ hk => hk.2) (.int .i64 t273)) (fun _ hk => hk.2) (.slice Ao28 t274.length co28)) (fun _ h_ => h_.1))) (Kd.R_base ho0) hb); have n3_ := mkA (Kd.R_lower (Kd.R_new' (Kd.R_new' (Kd.R_new' ho0 (Kd.R_lt (by (with_reducible repeat (first | apply Kd.R_alloc | apply Kd.R_drewN | apply Kd.R_drew)); exact (Kd.R_mono (Kd.R_far (p := ⟨gb277, 2, none⟩) (Kd.R_far (p := ⟨gb277, 1, none⟩) (Kd.R_far (p := ⟨gb277, 0, none⟩) (Kd.R_types HO267.out BK277.out (by decide)) (fun _ hk => hk.2) (.int .i64 t272)) (fun _ hk => hk.2) (.int .i64 t273)) (fun _ hk => hk.2) (.slice Ao28 t274.length co28)) (fun _ h_ => h_.1))))) (Kd.R_lt (by (with_reducible repeat (first | apply Kd.R_alloc | apply Kd.R_drewN | apply Kd.R_drew)); exact (Kd.R_mono (Kd.R_far (p := ⟨gb277, 2, none⟩) (Kd.R_far (p := ⟨gb277, 1, none⟩) (Kd.R_far (p := ⟨gb277, 0, none⟩) (Kd.R_types HO270.out BK277.out (by decide)) (fun _ hk => hk.2) (.int .i64 t272)) (fun _ hk => hk.2) (.int .i64 t273)) (fun _ hk => hk.2) (.slice Ao28 t274.length co28)) (fun _ h_ => h_.1))))) (Kd.R_lt (by (with_reducible repeat (first | apply Kd.R_alloc | apply Kd.R_drewN | apply Kd.R_drew)); exact (Kd.R_mono (Kd.R_far (p := ⟨gb277, 2, none⟩) (Kd.R_far (p := ⟨gb277, 1, none⟩) (Kd.R_far (p := ⟨gb277, 0, none⟩) (Kd.R_types HO276.out BK277.out (by decide)) (fun _ hk => hk.2) (.int .i64 t272)) (fun _ hk => hk.2) (.int .i64 t273)) (fun _ hk => hk.2) (.slice Ao28 t274.length co28)) (fun _ h_ => h_.1))))) (below_size (bs2_ HB.out GE261.out GE277.out))); have n4_ := mkA (blk_below (g := gb261) (o := .cells #[.int .i64 a0_0, .int .i64 a0_1, .slice A0_2 l0_2.length c0_2] 24 (0, 0)) (by (with_reducible repeat (first | refine blk_drewN ?_ _ | refine blk_drew ?_ | refine blk_alloc ?_ _)); refine blk_far ?_ NB261_277.out _; (with_reducible repeat (first | refine blk_drewN ?_ _ | refine blk_drew ?_ | refine blk_alloc ?_ _)); refine blk_far ?_ NB261_277.out _; (with_reducible repeat (first | refine blk_drewN ?_ _ | refine blk_drew ?_ | refine blk_alloc ?_ _)); refine blk_far ?_ NB261_277.out _; (with_reducible repeat (first | refine blk_drewN ?_ _ | refine blk_drew ?_ | refine blk_alloc ?_ _)); exact BK261.out) hb); have n5_ := mkA (blk_below (g := gb277) (o := .cells #[.int .i64 t272, .int .i64 t273, .slice Ao28 t274.length co28] 29 (0, 0)) (by (with_reducible repeat (first | refine blk_drewN ?_ _ | refine blk_drew ?_ | refine blk_alloc ?_ _)); refine blk_put (cs := #[.int .i64 t272, .int .i64 t273, .slice none 0 0]) ?_ 2 _ rfl; (with_reducible repeat (first | refine blk_drewN ?_ _ | refine blk_drew ?_ | refine blk_alloc ?_ _)); refine blk_put (cs := #[.int .i64 t272, .int .i64 0, .slice none 0 0]) ?_ 1 _ rfl; (with_reducible repeat (first | refine blk_drewN ?_ _ | refine blk_drew ?_ | refine blk_alloc ?_ _)); refine blk_put (cs := #[.int .i64 0, .int .i64 0, .slice none 0 0]) ?_ 0 _ rfl; (with_reducible repeat (first | refine blk_drewN ?_ _ | refine blk_drew ?_ | refine blk_alloc ?_ _)); exact BK277.out) hb); have n6_ := mkA (below_step (bs2_ HB.out GE261.out GE277.out) hb); clear HO267; clear HO270; clear HO276; clear BK261; clear BK277; clear HB; have HO267 := n0_; have HO270 := n1_; have HO276 := n2_; have HO280 := n3_; have BK261 := n4_; have BK277 := n5_; have HB := n6_; clear n0_ n1_ n2_ n3_ n4_ n5_ n6_; (try clear hb); (try clear hb2); (try clear hk); (try clear hi); (try clear ho0)))
   (try simp only [Act.put, sA, sB, sC])
   go_cut [56] (fun v56 wc => ∃ (kq : Nat) (x56_14 : Bool), v56 = .bool x56_14 ∧ Aside0 (laws_FnExactFloorOf.j0 kq a1 a2 a3 a4 t268 t271 t278 t281 x56_14 a0_0 a0_1 l0_2 t272 t273 t274 = some r) ∧ Aside0 (kq ≤ k) ∧ Aside0 (Kd.R (Kd.int .i64) 2 wc w.heap.size (fun k_ => some k_ ≠ (v279 : Value).ownBlock ∧ some k_ ≠ ((.slice Ao28 t274.length co28) : Value).ownBlock) v269 t268) ∧ Aside0 (Kd.R (Kd.int .i64) 2 wc w.heap.size (fun k_ => some k_ ≠ (v269 : Value).ownBlock ∧ some k_ ≠ ((.slice Ao28 t274.length co28) : Value).ownBlock) v279 t278) ∧ Aside0 (Kd.R (Kd.int .i64) 2 wc w.heap.size (fun k_ => some k_ ≠ (v269 : Value).ownBlock ∧ some k_ ≠ (v279 : Value).ownBlock) (.slice Ao28 t274.length co28) t274) ∧ Aside0 (wc.heap[gb261]? = some (.cells #[.int .i64 a0_0, .int .i64 a0_1, (.slice A0_2 l0_2.length c0_2)] 24 (0, 0))) ∧ Aside0 (wc.heap[gb277]? = some (.cells #[.int .i64 t272, .int .i64 t273, (.slice Ao28 t274.length co28)] 29 (0, 0))) ∧ Aside0 (Below w.heap.size w wc))
   case first =>
    have H := HC15.out
    clear HC15
    replace H := Option.bind_eq_some_iff.mp H
    obtain ⟨t282, A300, H⟩ := H
    replace H : (if t282 = true then (laws_FnExactFloorOf.j0 k a1 a2 a3 a4 t268 t271 t278 t281 (t281 != t271) a0_0 a0_1 l0_2 t272 t273 t274) else (laws_FnExactFloorOf.j0 k a1 a2 a3 a4 t268 t271 t278 t281 true a0_0 a0_1 l0_2 t272 t273 t274)) = some r := H
    have A30 := mkA A300
    clear A300
    by_cases c31 : t282 = true
    · subst c31
      have H1 : (laws_FnExactFloorOf.j0 k a1 a2 a3 a4 t268 t271 t278 t281 (t281 != t271) a0_0 a0_1 l0_2 t272 t273 t274) = some r := by rw [if_pos rfl] at H; exact H
      clear H
      have H := H1
      clear H1
      have H' := mkA H
      clear H
      obtain ⟨Ao32, co32, eo32⟩ := Kd.R_slice HO280.out
      subst eo32
      obtain ⟨Ao33, co33, eo33⟩ := Kd.R_slice HO270.out
      subst eo33
      go_wp2_with (first | ((with_reducible refine gate_callee (f := 25) rfl ?_); refine goesL_ (some 50) rfl rfl Try.func25 (by kernel_rfl) rfl #[.slice Ao32 t278.length co32, .slice Ao33 t268.length co33] rfl (by (try simp only [List.map_toArray, List.map_cons, List.map_nil]); first | done | rfl | (simp only [List.length_drop, List.length_take]; rfl)) ?_; (with_reducible refine (laws_eqInt64S.calls k _ _ t278 _ _ t268 true _ ?side1 ?side2 ?side3 ?side4 A30.out).mono ?_); (case side1 => repeat (first | exact (Kd.R_reads' HO280.out).2.2 | (with_reducible refine Kd.C_alloc ?_ _) | (with_reducible refine Kd.C_drewN ?_ _) | (with_reducible refine Kd.C_drew ?_))); (case side2 => exact (Kd.R_reads' HO280.out).2.1); (case side3 => repeat (first | exact (Kd.R_reads' HO270.out).2.2 | (with_reducible refine Kd.C_alloc ?_ _) | (with_reducible refine Kd.C_drewN ?_ _) | (with_reducible refine Kd.C_drew ?_))); (case side4 => exact (Kd.R_reads' HO270.out).2.1); rintro e w' ⟨rfl, ⟨nd, rfl⟩⟩; refine ⟨_, rfl, ?_⟩))
      go_meet
      case rel => exact ⟨_, ((t281 != t271)), (by first | rfl | (simp; done) | (simp [*]; done) | (simp [i64_w, i32_w]; done)), H', ⟨by first | omega | exact Nat.le_refl _⟩, ⟨by (with_reducible repeat (first | apply Kd.R_alloc | apply Kd.R_drewN | apply Kd.R_drew)); exact Kd.R_mono HO270.out (fun _ hk => ⟨hk.2, hk.1.2⟩)⟩, ⟨by (with_reducible repeat (first | apply Kd.R_alloc | apply Kd.R_drewN | apply Kd.R_drew)); exact Kd.R_mono HO280.out (fun _ hk => ⟨hk.1.2, hk.2⟩)⟩, ⟨by (with_reducible repeat (first | apply Kd.R_alloc | apply Kd.R_drewN | apply Kd.R_drew)); exact Kd.R_mono HO276.out (fun _ hk => ⟨hk.1.2, hk.2⟩)⟩, ⟨by (with_reducible repeat (first | refine blk_drewN ?_ _ | refine blk_drew ?_ | refine blk_alloc ?_ _)); exact BK261.out⟩, ⟨by (with_reducible repeat (first | refine blk_drewN ?_ _ | refine blk_drew ?_ | refine blk_alloc ?_ _)); exact BK277.out⟩, ⟨by repeat (first | (with_reducible first | exact HB.out | apply below_alloc | apply pw_below_drewN | apply below_drew1 | refine below_set ?_ GE261.out | refine below_set ?_ GE277.out) | exact HB.out)⟩⟩
    · replace c31 := Bool.eq_false_iff.mpr c31
      subst c31
      have H1 : (laws_FnExactFloorOf.j0 k a1 a2 a3 a4 t268 t271 t278 t281 true a0_0 a0_1 l0_2 t272 t273 t274) = some r := by rw [if_neg (show ¬ (false = true) by decide)] at H; exact H
      clear H
      have H := H1
      clear H1
      have H' := mkA H
      clear H
      obtain ⟨Ao34, co34, eo34⟩ := Kd.R_slice HO280.out
      subst eo34
      obtain ⟨Ao35, co35, eo35⟩ := Kd.R_slice HO270.out
      subst eo35
      go_wp2_with (first | ((with_reducible refine gate_callee (f := 25) rfl ?_); refine goesL_ (some 50) rfl rfl Try.func25 (by kernel_rfl) rfl #[.slice Ao34 t278.length co34, .slice Ao35 t268.length co35] rfl (by (try simp only [List.map_toArray, List.map_cons, List.map_nil]); first | done | rfl | (simp only [List.length_drop, List.length_take]; rfl)) ?_; (with_reducible refine (laws_eqInt64S.calls k _ _ t278 _ _ t268 false _ ?side1 ?side2 ?side3 ?side4 A30.out).mono ?_); (case side1 => repeat (first | exact (Kd.R_reads' HO280.out).2.2 | (with_reducible refine Kd.C_alloc ?_ _) | (with_reducible refine Kd.C_drewN ?_ _) | (with_reducible refine Kd.C_drew ?_))); (case side2 => exact (Kd.R_reads' HO280.out).2.1); (case side3 => repeat (first | exact (Kd.R_reads' HO270.out).2.2 | (with_reducible refine Kd.C_alloc ?_ _) | (with_reducible refine Kd.C_drewN ?_ _) | (with_reducible refine Kd.C_drew ?_))); (case side4 => exact (Kd.R_reads' HO270.out).2.1); rintro e w' ⟨rfl, ⟨nd, rfl⟩⟩; refine ⟨_, rfl, ?_⟩))
      go_meet
      case rel => exact ⟨_, (true), (by first | rfl | (simp; done) | (simp [*]; done) | (simp [i64_w, i32_w]; done)), H', ⟨by first | omega | exact Nat.le_refl _⟩, ⟨by (with_reducible repeat (first | apply Kd.R_alloc | apply Kd.R_drewN | apply Kd.R_drew)); exact Kd.R_mono HO270.out (fun _ hk => ⟨hk.2, hk.1.2⟩)⟩, ⟨by (with_reducible repeat (first | apply Kd.R_alloc | apply Kd.R_drewN | apply Kd.R_drew)); exact Kd.R_mono HO280.out (fun _ hk => ⟨hk.1.2, hk.2⟩)⟩, ⟨by (with_reducible repeat (first | apply Kd.R_alloc | apply Kd.R_drewN | apply Kd.R_drew)); exact Kd.R_mono HO276.out (fun _ hk => ⟨hk.1.2, hk.2⟩)⟩, ⟨by (with_reducible repeat (first | refine blk_drewN ?_ _ | refine blk_drew ?_ | refine blk_alloc ?_ _)); exact BK261.out⟩, ⟨by (with_reducible repeat (first | refine blk_drewN ?_ _ | refine blk_drew ?_ | refine blk_alloc ?_ _)); exact BK277.out⟩, ⟨by repeat (first | (with_reducible first | exact HB.out | apply below_alloc | apply pw_below_drewN | apply below_drew1 | refine below_set ?_ GE261.out | refine below_set ?_ GE277.out) | exact HB.out)⟩⟩
   case rest =>
    clear HC15
    try clear c1
    try clear c2
    try clear p2
    try clear c3
    try clear c5
    try clear c7
    try clear c7b0
    try clear c15
    try clear c17
    try clear c23
    try clear c24
    try clear c25
    try clear c26
    try clear c31
    try clear hcz17_0
    try clear hcz17_1
    try clear hcz17_2
    try clear hcz19_0
    try clear hcz19_1
    try clear hcz19_2
    try clear hcz23_0
    try clear hcz23_1
    try clear hcz23_2
    try clear hcz27_0
    try clear hcz27_1
    try clear hcz27_2
    try clear hcz9_0
    try clear hcz9_1
    try clear hcz9_2
    try clear hfz17_0
    try clear hfz17_1
    try clear hfz17_2
    try clear hfz19_0
    try clear hfz19_1
    try clear hfz19_2
    try clear hfz23_0
    try clear hfz23_1
    try clear hfz23_2
    try clear hfz27_0
    try clear hfz27_1
    try clear hfz27_2
    try clear hfz9_0
    try clear hfz9_1
    try clear hfz9_2
    obtain ⟨kq, x56_14, rfl, HA, HJ14, HO_12, HO_15, HO_278002, BK261, BK277, HB⟩ := hcut
    cases kq with
    | zero => exact absurd HA.out (by simp [laws_FnExactFloorOf.j0])
    | succ kj14 =>
     have H := HA.out
     clear HA
     simp only [laws_FnExactFloorOf.j0] at H
     by_cases c36 : x56_14 = true
     · subst c36
       have H1 : (some false) = some r := by rw [if_pos rfl] at H; exact H
       clear H
       have H := H1
       clear H1
       obtain rfl := Option.some.inj H
       go_wp2
       go_ret
       exact ⟨by first | rfl | (simp [errW_none, errW_some] <;> rfl) | (simp [*, errW_none, errW_some] <;> rfl), by repeat (first | (with_reducible first | exact HB.out | apply below_alloc | apply pw_below_drewN | apply below_drew1 | refine below_set ?_ GE261.out | refine below_set ?_ GE277.out) | exact HB.out)⟩
     · replace c36 := Bool.eq_false_iff.mpr c36
       subst c36
       have H1 : ((laws_toTiling.f kj14 a0_0 a0_1 l0_2).bind fun bt283 => ((laws_eqTiling.f kj14 t272 t273 t274 bt283.1 bt283.2.1 bt283.2.2).bind fun t288 => (if t288 = true then ((laws_markTiling.f kj14 t272 t273 t274 1).bind fun bt289 => (if bt289.1 < 0 then (laws_FnExactFloorOf.j1 kj14 a1 a2 a3 a4 t268 t271 t278 true a0_0 a0_1 l0_2) else ((laws_eqInt64S.f kj14 t278 t268).bind fun t291 => (if t291 = true then (laws_FnExactFloorOf.j1 kj14 a1 a2 a3 a4 t268 t271 t278 (t281 != t271) a0_0 a0_1 l0_2) else (laws_FnExactFloorOf.j1 kj14 a1 a2 a3 a4 t268 t271 t278 true a0_0 a0_1 l0_2))))) else (some false)))) = some r := by rw [if_neg (show ¬ (false = true) by decide)] at H; exact H
       clear H
       have H := H1
       clear H1
       replace H := Option.bind_eq_some_iff.mp H
       obtain ⟨⟨t283, t284, t285⟩, A370, H⟩ := H
       replace H : ((laws_eqTiling.f kj14 t272 t273 t274 t283 t284 t285).bind fun t288 => (if t288 = true then ((laws_markTiling.f kj14 t272 t273 t274 1).bind fun bt289 => (if bt289.1 < 0 then (laws_FnExactFloorOf.j1 kj14 a1 a2 a3 a4 t268 t271 t278 true a0_0 a0_1 l0_2) else ((laws_eqInt64S.f kj14 t278 t268).bind fun t291 => (if t291 = true then (laws_FnExactFloorOf.j1 kj14 a1 a2 a3 a4 t268 t271 t278 (t281 != t271) a0_0 a0_1 l0_2) else (laws_FnExactFloorOf.j1 kj14 a1 a2 a3 a4 t268 t271 t278 true a0_0 a0_1 l0_2))))) else (some false))) = some r := H
       have A37 := mkA A370
       clear A370
       replace H := Option.bind_eq_some_iff.mp H
       obtain ⟨t288, A380, H⟩ := H
       replace H : (if t288 = true then ((laws_markTiling.f kj14 t272 t273 t274 1).bind fun bt289 => (if bt289.1 < 0 then (laws_FnExactFloorOf.j1 kj14 a1 a2 a3 a4 t268 t271 t278 true a0_0 a0_1 l0_2) else ((laws_eqInt64S.f kj14 t278 t268).bind fun t291 => (if t291 = true then (laws_FnExactFloorOf.j1 kj14 a1 a2 a3 a4 t268 t271 t278 (t281 != t271) a0_0 a0_1 l0_2) else (laws_FnExactFloorOf.j1 kj14 a1 a2 a3 a4 t268 t271 t278 true a0_0 a0_1 l0_2))))) else (some false)) = some r := H
       have A38 := mkA A380
       clear A380
       by_cases c39 : t288 = true
       · subst c39
         have H1 : ((laws_markTiling.f kj14 t272 t273 t274 1).bind fun bt289 => (if bt289.1 < 0 then (laws_FnExactFloorOf.j1 kj14 a1 a2 a3 a4 t268 t271 t278 true a0_0 a0_1 l0_2) else ((laws_eqInt64S.f kj14 t278 t268).bind fun t291 => (if t291 = true then (laws_FnExactFloorOf.j1 kj14 a1 a2 a3 a4 t268 t271 t278 (t281 != t271) a0_0 a0_1 l0_2) else (laws_FnExactFloorOf.j1 kj14 a1 a2 a3 a4 t268 t271 t278 true a0_0 a0_1 l0_2))))) = some r := by rw [if_pos rfl] at H; exact H
         clear H
         have H := H1
         clear H1
         replace H := Option.bind_eq_some_iff.mp H
         obtain ⟨⟨t289, t290⟩, A400, H⟩ := H
         replace H : (if t289 < 0 then (laws_FnExactFloorOf.j1 kj14 a1 a2 a3 a4 t268 t271 t278 true a0_0 a0_1 l0_2) else ((laws_eqInt64S.f kj14 t278 t268).bind fun t291 => (if t291 = true then (laws_FnExactFloorOf.j1 kj14 a1 a2 a3 a4 t268 t271 t278 (t281 != t271) a0_0 a0_1 l0_2) else (laws_FnExactFloorOf.j1 kj14 a1 a2 a3 a4 t268 t271 t278 true a0_0 a0_1 l0_2)))) = some r := H
         have A40 := mkA A400
         clear A400
         have HC41 := mkA H
         clear H
         try go_wp2
         have n0_ := mkA (Kd.R_drew HO_12.out)
         have n1_ := mkA (Kd.R_drew HO_15.out)
         have n2_ := mkA (Kd.R_drew HO_278002.out)
         have n3_ := mkA (blk_drew BK261.out)
         have n4_ := mkA (blk_drew BK277.out)
         have n5_ := mkA (below_drew1 HB.out)
         clear HO_12
         clear HO_15
         clear HO_278002
         clear BK261
         clear BK277
         clear HB
         have HO_12 := n0_
         have HO_15 := n1_
         have HO_278002 := n2_
         have BK261 := n3_
         have BK277 := n4_
         have HB := n5_
         clear n0_ n1_ n2_ n3_ n4_ n5_
         refine start_ (n := 5) (S := fun w' => w'.cell? ⟨gb277, 0, none⟩ = some (.int .i64 t272) ∧ w'.cell? ⟨gb277, 1, none⟩ = some (.int .i64 t273) ∧ w'.cell? ⟨gb277, 2, none⟩ = some (.slice Ao28 t274.length co28) ∧ w'.cell? ⟨gb261, 0, none⟩ = some (.int .i64 a0_0) ∧ w'.cell? ⟨gb261, 1, none⟩ = some (.int .i64 a0_1) ∧ w'.cell? ⟨gb261, 2, none⟩ = some (.slice A0_2 l0_2.length c0_2)) (ds := []) #[false, false, false, false, false] (by kernel_rfl) rfl rfl ⟨(blk_cell BK277.out 0).trans rfl, (blk_cell BK277.out 1).trans rfl, (blk_cell BK277.out 2).trans rfl, (blk_cell BK261.out 0).trans rfl, (blk_cell BK261.out 1).trans rfl, (blk_cell BK261.out 2).trans rfl⟩ (fun hHeld => ?_)
         generalize wc.drew = w42 at HO_12 HO_15 HO_278002 BK261 BK277 HB hHeld ⊢
         refine take_ (i := 0) (N := some 57) (v := ?_) (a' := ?_) #[true, false, false, false, false] rfl rfl (by kernel_rfl) (fun _ _ _ h => h) (Or.inl ⟨by rfl, ?_⟩) hHeld ?_ ?_
         rotate_left
         · rintro w' ⟨s0, s1, s2, s3, s4, s5⟩
           go_simp
           with_reducible rfl
         rotate_left
         · simp only [Act.put, sA, sB, sC, i64_w, i32_w]
           rfl
         refine take_ (i := 1) (N := some 58) (v := ?_) (a' := ?_) #[true, true, false, false, false] rfl rfl (by kernel_rfl) (fun _ _ _ h => h) (Or.inl ⟨by rfl, ?_⟩) hHeld ?_ ?_
         rotate_left
         · rintro w' ⟨s0, s1, s2, s3, s4, s5⟩
           go_simp
           with_reducible rfl
         rotate_left
         · simp only [Act.put, sA, sB, sC, i64_w, i32_w]
           rfl
         refine one_ (i := 2) (N := some 59) #[true, true, true, false, false] rfl rfl (by kernel_rfl) (by decide) (fun K hK => ?_)
         refine goes_ Try.func17 (by kernel_rfl) rfl #[.agg #[.int .i64 a0_0, .int .i64 a0_1, .slice A0_2 l0_2.length c0_2]] (by rfl) rfl rfl (by (try simp only [List.map_toArray, List.map_cons, List.map_nil]); first | done | rfl | (simp only [List.length_drop, List.length_take]; rfl)) ?_
         with_reducible refine (laws_toTiling.calls kj14 a0_0 a0_1 _ _ l0_2 t283 t284 t285 _ ?side1 ?side2 A37.out).mono ?_
         (case side1 => exact cb_ HR0_2.out HB.out)
         (case side2 => exact HC0_2.out)
         rintro e w43 ⟨v286, rfl, ho0, hb⟩
         refine ⟨_, rfl, ?_⟩
         have n0_ := mkA (Kd.R_elder' (by (with_reducible repeat (first | apply Kd.R_alloc | apply Kd.R_drewN | apply Kd.R_drew)); exact HO_12.out) (Kd.R_base ho0) hb)
         have n1_ := mkA (Kd.R_elder' (by (with_reducible repeat (first | apply Kd.R_alloc | apply Kd.R_drewN | apply Kd.R_drew)); exact HO_15.out) (Kd.R_base ho0) hb)
         have n2_ := mkA (Kd.R_elder' (by (with_reducible repeat (first | apply Kd.R_alloc | apply Kd.R_drewN | apply Kd.R_drew)); exact HO_278002.out) (Kd.R_base ho0) hb)
         have n3_ := mkA (Kd.R_lower (Kd.R_new' (Kd.R_new' (Kd.R_new' ho0 (Kd.R_lt (by (with_reducible repeat (first | apply Kd.R_alloc | apply Kd.R_drewN | apply Kd.R_drew)); exact HO_12.out))) (Kd.R_lt (by (with_reducible repeat (first | apply Kd.R_alloc | apply Kd.R_drewN | apply Kd.R_drew)); exact HO_15.out))) (Kd.R_lt (by (with_reducible repeat (first | apply Kd.R_alloc | apply Kd.R_drewN | apply Kd.R_drew)); exact HO_278002.out))) (below_size (bs2_ HB.out GE261.out GE277.out)))
         have n4_ := mkA (blk_below (g := gb261) (o := .cells #[.int .i64 a0_0, .int .i64 a0_1, .slice A0_2 l0_2.length c0_2] 24 (0, 0)) (bl_ BK261.out) hb)
         have n5_ := mkA (blk_below (g := gb277) (o := .cells #[.int .i64 t272, .int .i64 t273, .slice Ao28 t274.length co28] 29 (0, 0)) (bl_ BK277.out) hb)
         have n6_ := mkA (below_step (bs2_ HB.out GE261.out GE277.out) hb)
         clear HO_12
         clear HO_15
         clear HO_278002
         clear BK261
         clear BK277
         clear HB
         have HO_12 := n0_
         have HO_15 := n1_
         have HO_278002 := n2_
         have HO287 := n3_
         have BK261 := n4_
         have BK277 := n5_
         have HB := n6_
         clear n0_ n1_ n2_ n3_ n4_ n5_ n6_
         (try clear hb)
         (try clear hb2)
         (try clear hk)
         (try clear hi)
         (try clear ho0)
         obtain ⟨Ao44, co44, eo44⟩ := Kd.R_slice HO287.out
         (first | subst eo44 | (injection eo44 with f1_ f2_ f3_; have f4_ := f1_.symm; have f5_ := f3_.symm; clear f1_ f2_ f3_; subst f4_; subst f5_))
         refine hK.out _ _ ⟨(blk_cell BK277.out 0).trans rfl, (blk_cell BK277.out 1).trans rfl, (blk_cell BK277.out 2).trans rfl, (blk_cell BK261.out 0).trans rfl, (blk_cell BK261.out 1).trans rfl, (blk_cell BK261.out 2).trans rfl⟩ (fun hHeld => ?_)
         clear hK K
         refine norm_ (a' := ?_) ?_ ?_
         rotate_left
         · show Act.put _ (some 59) _ = _
           simp only [Act.put, sA, sB, sC, i64_w, i32_w]
           rfl
         refine one_ (i := 3) (N := some 60) #[true, true, true, true, false] rfl rfl (by kernel_rfl) (by decide) (fun K hK => ?_)
         refine goes_ Try.func20 (by kernel_rfl) rfl #[.agg #[.int .i64 t272, .int .i64 t273, .slice Ao28 t274.length co28], .agg #[.int .i64 t283, .int .i64 t284, .slice Ao44 t285.length co44]] (by rfl) rfl rfl (by (try simp only [List.map_toArray, List.map_cons, List.map_nil]); first | done | rfl | (simp only [List.length_drop, List.length_take]; rfl)) ?_
         with_reducible refine (laws_eqTiling.calls kj14 t272 t273 _ _ t274 t283 t284 _ _ t285 true _ ?side1 ?side2 ?side3 ?side4 A38.out).mono ?_
         (case side1 => repeat (first | exact (Kd.R_reads' HO_278002.out).2.2 | (with_reducible refine Kd.C_alloc ?_ _) | (with_reducible refine Kd.C_drewN ?_ _) | (with_reducible refine Kd.C_drew ?_)))
         (case side2 => exact (Kd.R_reads' HO_278002.out).2.1)
         (case side3 => repeat (first | exact (Kd.R_reads' HO287.out).2.2 | (with_reducible refine Kd.C_alloc ?_ _) | (with_reducible refine Kd.C_drewN ?_ _) | (with_reducible refine Kd.C_drew ?_)))
         (case side4 => exact (Kd.R_reads' HO287.out).2.1)
         rintro e w45 ⟨rfl, hb⟩
         refine ⟨_, rfl, ?_⟩
         have n0_ := mkA (Kd.R_below (by (with_reducible repeat (first | apply Kd.R_alloc | apply Kd.R_drewN | apply Kd.R_drew)); exact HO_12.out) hb)
         have n1_ := mkA (Kd.R_below (by (with_reducible repeat (first | apply Kd.R_alloc | apply Kd.R_drewN | apply Kd.R_drew)); exact HO_15.out) hb)
         have n2_ := mkA (Kd.R_below (by (with_reducible repeat (first | apply Kd.R_alloc | apply Kd.R_drewN | apply Kd.R_drew)); exact HO_278002.out) hb)
         have n3_ := mkA (Kd.R_below (by (with_reducible repeat (first | apply Kd.R_alloc | apply Kd.R_drewN | apply Kd.R_drew)); exact HO287.out) hb)
         have n4_ := mkA (blk_below (g := gb261) (o := .cells #[.int .i64 a0_0, .int .i64 a0_1, .slice A0_2 l0_2.length c0_2] 24 (0, 0)) (bl_ BK261.out) hb)
         have n5_ := mkA (blk_below (g := gb277) (o := .cells #[.int .i64 t272, .int .i64 t273, .slice Ao28 t274.length co28] 29 (0, 0)) (bl_ BK277.out) hb)
         have n6_ := mkA (below_step (bs2_ HB.out GE261.out GE277.out) hb)
         clear HO_12
         clear HO_15
         clear HO_278002
         clear HO287
         clear BK261
         clear BK277
         clear HB
         have HO_12 := n0_
         have HO_15 := n1_
         have HO_278002 := n2_
         have HO287 := n3_
         have BK261 := n4_
         have BK277 := n5_
         have HB := n6_
         clear n0_ n1_ n2_ n3_ n4_ n5_ n6_
         (try clear hb)
         (try clear hb2)
         (try clear hk)
         (try clear hi)
         refine hK.out _ _ ⟨(blk_cell BK277.out 0).trans rfl, (blk_cell BK277.out 1).trans rfl, (blk_cell BK277.out 2).trans rfl, (blk_cell BK261.out 0).trans rfl, (blk_cell BK261.out 1).trans rfl, (blk_cell BK261.out 2).trans rfl⟩ (fun hHeld => ?_)
         clear hK K
         refine norm_ (a' := ?_) ?_ ?_
         rotate_left
         · show Act.put _ (some 60) _ = _
           simp only [Act.put, sA, sB, sC, i64_w, i32_w]
           rfl
         refine pure_ (i := 4) (N := some 61) (v := ?_) (a' := ?_) #[true, true, true, true, true] rfl rfl (by kernel_rfl) (fun _ _ _ h => h) (Or.inl ⟨by rfl, ?_⟩) ?_ ?_
         rotate_left
         · intro w'
           go_simp
           with_reducible rfl
         rotate_left
         · simp only [Act.put, sA, sB, sC, i64_w, i32_w]
           rfl
         refine done_ (by kernel_rfl) ?_
         have hnb46 := NB277_261.out
         have hnc46 := NB261_277.out
         have hcz47_0 : w45.cell? ⟨gb277, 0, none⟩ = some (.int .i64 t272) := (blk_cell BK277.out 0).trans rfl
         have hcz47_1 : w45.cell? ⟨gb277, 1, none⟩ = some (.int .i64 t273) := (blk_cell BK277.out 1).trans rfl
         have hcz47_2 : w45.cell? ⟨gb277, 2, none⟩ = some (.slice Ao28 t274.length co28) := (blk_cell BK277.out 2).trans rfl
         have hfz47_0 := blk_frozen BK277.out 0
         have hfz47_1 := blk_frozen BK277.out 1
         have hfz47_2 := blk_frozen BK277.out 2
         go_upto_region 14 with (first | ((with_reducible refine gate_callee (f := 26) rfl ?_); refine goesL_ (some 64) rfl rfl Try.func26 (by kernel_rfl) rfl #[.agg #[.int .i64 t272, .int .i64 t273, .slice Ao28 t274.length co28], .int .i64 1] rfl (by (try simp only [List.map_toArray, List.map_cons, List.map_nil]); first | done | rfl | (simp only [List.length_drop, List.length_take]; rfl)) ?_; (with_reducible refine (laws_markTiling.calls kj14 t272 t273 (fun k_ => some k_ = (.slice Ao28 t274.length co28 : Value).ownBlock) (.slice Ao28 t274.length co28) t274 1 t289 t290 w _ ?side1 ?side2 A40.out).mono ?_); (case side1 => repeat (first | (with_reducible first | exact HB.out | apply below_alloc | apply pw_below_drewN | apply below_drew1 | refine below_set ?_ GE261.out | refine below_set ?_ GE277.out) | exact HB.out)); (case side2 => exact Kd.R_tight rfl HO_278002.out); rintro e w48 ⟨rfl, hy0, hb, hkp⟩; refine ⟨_, rfl, ?_⟩; have n0_ := mkA (Kd.R_mono (ok' := fun k_ => some k_ ≠ (v279 : Value).ownBlock ∧ some k_ ≠ (.slice Ao28 t274.length co28 : Value).ownBlock ∧ some k_ ≠ (.slice Ao44 t285.length co44 : Value).ownBlock) (Kd.R_keptB (HO_12.out) hkp (fun k_ hk_ hs_ => (hk_.1.2) hs_)) (fun k_ hk_ => ⟨hk_.1.1.1, hk_.1.1.2, hk_.1.2⟩)); have n1_ := mkA (Kd.R_mono (ok' := fun k_ => some k_ ≠ (v269 : Value).ownBlock ∧ some k_ ≠ (.slice Ao28 t274.length co28 : Value).ownBlock ∧ some k_ ≠ (.slice Ao44 t285.length co44 : Value).ownBlock) (Kd.R_keptB (HO_15.out) hkp (fun k_ hk_ hs_ => (hk_.1.2) hs_)) (fun k_ hk_ => ⟨hk_.1.1.1, hk_.1.1.2, hk_.1.2⟩)); have n2_ := mkA (Kd.R_reok rfl hy0 (fun k_ e_ => HO_278002.out.1 k_ e_)); have n3_ := mkA (blk_kept (bl_ BK261.out) hkp (fun hs_ => (fun e_ => (Kd.R_ne HO_278002.out BK261.out (by decide)) e_) hs_)); have n4_ := mkA (blk_kept (bl_ BK277.out) hkp (fun hs_ => (fun e_ => (Kd.R_ne HO_278002.out BK277.out (by decide)) e_) hs_)); have n5_ := mkA (Kd.R_mono (ok' := fun k_ => some k_ ≠ (v269 : Value).ownBlock ∧ some k_ ≠ (v279 : Value).ownBlock ∧ some k_ ≠ (.slice Ao28 t274.length co28 : Value).ownBlock) (Kd.R_keptB (HO287.out) hkp (fun k_ hk_ hs_ => (hk_.2) hs_)) (fun k_ hk_ => ⟨hk_.1.1.1.2, hk_.1.1.2, hk_.1.2⟩)); have n6_ := mkA (hb); clear HO_12; clear HO_15; clear HO_278002; clear BK261; clear BK277; clear HO287; clear HB; have HO_12 := n0_; have HO_15 := n1_; have HO_278002 := n2_; have BK261 := n3_; have BK277 := n4_; have HO287 := n5_; have HB := n6_; clear n0_ n1_ n2_ n3_ n4_ n5_ n6_; (try clear hb); (try clear hkp); (try clear hy0)))
         (try simp only [Act.put, sA, sB, sC])
         go_cut [77] (fun v77 wc => ∃ (kq : Nat) (x77_40 : Bool), v77 = .bool x77_40 ∧ Aside0 (laws_FnExactFloorOf.j1 kq a1 a2 a3 a4 t268 t271 t278 x77_40 a0_0 a0_1 l0_2 = some r) ∧ Aside0 (kq ≤ kj14) ∧ Aside0 (Kd.R (Kd.int .i64) 2 wc w.heap.size (fun k_ => some k_ ≠ (v279 : Value).ownBlock ∧ some k_ ≠ ((.slice Ao28 t274.length co28) : Value).ownBlock) v269 t268) ∧ Aside0 (Kd.R (Kd.int .i64) 2 wc w.heap.size (fun k_ => some k_ ≠ (v269 : Value).ownBlock ∧ some k_ ≠ ((.slice Ao28 t274.length co28) : Value).ownBlock) v279 t278) ∧ Aside0 (Kd.R (Kd.int .i64) 2 wc w.heap.size (fun k_ => some k_ ≠ (v269 : Value).ownBlock ∧ some k_ ≠ (v279 : Value).ownBlock) (.slice Ao28 t274.length co28) t290) ∧ Aside0 (wc.heap[gb261]? = some (.cells #[.int .i64 a0_0, .int .i64 a0_1, (.slice A0_2 l0_2.length c0_2)] 24 (0, 0))) ∧ Aside0 (wc.heap[gb277]? = some (.cells #[.int .i64 t272, .int .i64 t273, (.slice Ao28 t274.length co28)] 29 (0, 0))) ∧ Aside0 (Below w.heap.size w wc))
         case first =>
          have H := HC41.out
          clear HC41
          by_cases c49 : t289 < 0
          · rw [if_pos c49] at H
            have c49b0 : decide (t289 < 0) = true := decide_eq_true c49
            clear c49
            (first | rw [c49b0] | (simp only [i64_w, i32_w]; rw [c49b0]) | skip)
            have H' := mkA H
            clear H
            go_wp2
            go_meet
            case rel => exact ⟨_, (true), (by first | rfl | (simp; done) | (simp [*]; done) | (simp [i64_w, i32_w]; done)), H', ⟨by have := HJ14.out; first | omega | exact Nat.le_refl _⟩, ⟨by (with_reducible repeat (first | apply Kd.R_alloc | apply Kd.R_drewN | apply Kd.R_drew)); exact Kd.R_mono HO_12.out (fun _ hk => ⟨hk.1, hk.2.1⟩)⟩, ⟨by (with_reducible repeat (first | apply Kd.R_alloc | apply Kd.R_drewN | apply Kd.R_drew)); exact Kd.R_mono HO_15.out (fun _ hk => ⟨hk.1, hk.2.1⟩)⟩, ⟨by (with_reducible repeat (first | apply Kd.R_alloc | apply Kd.R_drewN | apply Kd.R_drew)); exact Kd.R_mono HO_278002.out (fun _ hk => ⟨hk.1.1, hk.1.2⟩)⟩, ⟨by (with_reducible repeat (first | refine blk_drewN ?_ _ | refine blk_drew ?_ | refine blk_alloc ?_ _)); exact BK261.out⟩, ⟨by (with_reducible repeat (first | refine blk_drewN ?_ _ | refine blk_drew ?_ | refine blk_alloc ?_ _)); exact BK277.out⟩, ⟨by repeat (first | (with_reducible first | exact HB.out | apply below_alloc | apply pw_below_drewN | apply below_drew1 | refine below_set ?_ GE261.out | refine below_set ?_ GE277.out) | exact HB.out)⟩⟩
          · rw [if_neg c49] at H
            have c49b0 : decide (t289 < 0) = false := decide_eq_false c49
            clear c49
            (first | rw [c49b0] | (simp only [i64_w, i32_w]; rw [c49b0]) | skip)
            replace H := Option.bind_eq_some_iff.mp H
            obtain ⟨t291, A500, H⟩ := H
            replace H : (if t291 = true then (laws_FnExactFloorOf.j1 kj14 a1 a2 a3 a4 t268 t271 t278 (t281 != t271) a0_0 a0_1 l0_2) else (laws_FnExactFloorOf.j1 kj14 a1 a2 a3 a4 t268 t271 t278 true a0_0 a0_1 l0_2)) = some r := H
            have A50 := mkA A500
            clear A500
            by_cases c51 : t291 = true
            · subst c51
              have H1 : (laws_FnExactFloorOf.j1 kj14 a1 a2 a3 a4 t268 t271 t278 (t281 != t271) a0_0 a0_1 l0_2) = some r := by rw [if_pos rfl] at H; exact H
              clear H
              have H := H1
              clear H1
              have H' := mkA H
              clear H
              obtain ⟨Ao52, co52, eo52⟩ := Kd.R_slice HO_15.out
              subst eo52
              obtain ⟨Ao53, co53, eo53⟩ := Kd.R_slice HO_12.out
              subst eo53
              go_wp2_with (first | (go_at_call 25; (with_reducible refine (laws_eqInt64S.calls kj14 _ _ t278 _ _ t268 true _ ?side1 ?side2 ?side3 ?side4 A50.out).mono ?_); (case side1 => repeat (first | exact (Kd.R_reads' HO_15.out).2.2 | (with_reducible refine Kd.C_alloc ?_ _) | (with_reducible refine Kd.C_drewN ?_ _) | (with_reducible refine Kd.C_drew ?_))); (case side2 => exact (Kd.R_reads' HO_15.out).2.1); (case side3 => repeat (first | exact (Kd.R_reads' HO_12.out).2.2 | (with_reducible refine Kd.C_alloc ?_ _) | (with_reducible refine Kd.C_drewN ?_ _) | (with_reducible refine Kd.C_drew ?_))); (case side4 => exact (Kd.R_reads' HO_12.out).2.1); rintro e w' ⟨rfl, ⟨nd, rfl⟩⟩))
              go_meet
              case rel => exact ⟨_, ((t281 != t271)), (by first | rfl | (simp; done) | (simp [*]; done) | (simp [i64_w, i32_w]; done)), H', ⟨by have := HJ14.out; first | omega | exact Nat.le_refl _⟩, ⟨by (with_reducible repeat (first | apply Kd.R_alloc | apply Kd.R_drewN | apply Kd.R_drew)); exact Kd.R_mono HO_12.out (fun _ hk => ⟨hk.1, hk.2.1⟩)⟩, ⟨by (with_reducible repeat (first | apply Kd.R_alloc | apply Kd.R_drewN | apply Kd.R_drew)); exact Kd.R_mono HO_15.out (fun _ hk => ⟨hk.1, hk.2.1⟩)⟩, ⟨by (with_reducible repeat (first | apply Kd.R_alloc | apply Kd.R_drewN | apply Kd.R_drew)); exact Kd.R_mono HO_278002.out (fun _ hk => ⟨hk.1.1, hk.1.2⟩)⟩, ⟨by (with_reducible repeat (first | refine blk_drewN ?_ _ | refine blk_drew ?_ | refine blk_alloc ?_ _)); exact BK261.out⟩, ⟨by (with_reducible repeat (first | refine blk_drewN ?_ _ | refine blk_drew ?_ | refine blk_alloc ?_ _)); exact BK277.out⟩, ⟨by repeat (first | (with_reducible first | exact HB.out | apply below_alloc | apply pw_below_drewN | apply below_drew1 | refine below_set ?_ GE261.out | refine below_set ?_ GE277.out) | exact HB.out)⟩⟩
            · replace c51 := Bool.eq_false_iff.mpr c51
              subst c51
              have H1 : (laws_FnExactFloorOf.j1 kj14 a1 a2 a3 a4 t268 t271 t278 true a0_0 a0_1 l0_2) = some r := by rw [if_neg (show ¬ (false = true) by decide)] at H; exact H
              clear H
              have H := H1
              clear H1
              have H' := mkA H
              clear H
              obtain ⟨Ao54, co54, eo54⟩ := Kd.R_slice HO_15.out
              subst eo54
              obtain ⟨Ao55, co55, eo55⟩ := Kd.R_slice HO_12.out
              subst eo55
              go_wp2_with (first | (go_at_call 25; (with_reducible refine (laws_eqInt64S.calls kj14 _ _ t278 _ _ t268 false _ ?side1 ?side2 ?side3 ?side4 A50.out).mono ?_); (case side1 => repeat (first | exact (Kd.R_reads' HO_15.out).2.2 | (with_reducible refine Kd.C_alloc ?_ _) | (with_reducible refine Kd.C_drewN ?_ _) | (with_reducible refine Kd.C_drew ?_))); (case side2 => exact (Kd.R_reads' HO_15.out).2.1); (case side3 => repeat (first | exact (Kd.R_reads' HO_12.out).2.2 | (with_reducible refine Kd.C_alloc ?_ _) | (with_reducible refine Kd.C_drewN ?_ _) | (with_reducible refine Kd.C_drew ?_))); (case side4 => exact (Kd.R_reads' HO_12.out).2.1); rintro e w' ⟨rfl, ⟨nd, rfl⟩⟩))
              go_meet
              case rel => exact ⟨_, (true), (by first | rfl | (simp; done) | (simp [*]; done) | (simp [i64_w, i32_w]; done)), H', ⟨by have := HJ14.out; first | omega | exact Nat.le_refl _⟩, ⟨by (with_reducible repeat (first | apply Kd.R_alloc | apply Kd.R_drewN | apply Kd.R_drew)); exact Kd.R_mono HO_12.out (fun _ hk => ⟨hk.1, hk.2.1⟩)⟩, ⟨by (with_reducible repeat (first | apply Kd.R_alloc | apply Kd.R_drewN | apply Kd.R_drew)); exact Kd.R_mono HO_15.out (fun _ hk => ⟨hk.1, hk.2.1⟩)⟩, ⟨by (with_reducible repeat (first | apply Kd.R_alloc | apply Kd.R_drewN | apply Kd.R_drew)); exact Kd.R_mono HO_278002.out (fun _ hk => ⟨hk.1.1, hk.1.2⟩)⟩, ⟨by (with_reducible repeat (first | refine blk_drewN ?_ _ | refine blk_drew ?_ | refine blk_alloc ?_ _)); exact BK261.out⟩, ⟨by (with_reducible repeat (first | refine blk_drewN ?_ _ | refine blk_drew ?_ | refine blk_alloc ?_ _)); exact BK277.out⟩, ⟨by repeat (first | (with_reducible first | exact HB.out | apply below_alloc | apply pw_below_drewN | apply below_drew1 | refine below_set ?_ GE261.out | refine below_set ?_ GE277.out) | exact HB.out)⟩⟩
         case rest =>
          clear HC41
          try clear c1
          try clear c2
          try clear p2
          try clear c3
          try clear c4
          try clear c5
          try clear c7
          try clear c7b0
          try clear c15
          try clear c17
          try clear c20
          try clear c23
          try clear c24
          try clear c25
          try clear c26
          try clear c31
          try clear c36
          try clear c39
          try clear c46
          try clear c49
          try clear c49b0
          try clear c51
          try clear hcz17_0
          try clear hcz17_1
          try clear hcz17_2
          try clear hcz19_0
          try clear hcz19_1
          try clear hcz19_2
          try clear hcz23_0
          try clear hcz23_1
          try clear hcz23_2
          try clear hcz27_0
          try clear hcz27_1
          try clear hcz27_2
          try clear hcz47_0
          try clear hcz47_1
          try clear hcz47_2
          try clear hcz9_0
          try clear hcz9_1
          try clear hcz9_2
          try clear hfz17_0
          try clear hfz17_1
          try clear hfz17_2
          try clear hfz19_0
          try clear hfz19_1
          try clear hfz19_2
          try clear hfz23_0
          try clear hfz23_1
          try clear hfz23_2
          try clear hfz27_0
          try clear hfz27_1
          try clear hfz27_2
          try clear hfz47_0
          try clear hfz47_1
          try clear hfz47_2
          try clear hfz9_0
          try clear hfz9_1
          try clear hfz9_2
          try clear p2
          obtain ⟨kq, x77_40, rfl, HA, HJ40, HO_12, HO_15, HO_278002, BK261, BK277, HB⟩ := hcut
          have hl278002_40 := (Kd.R_reads' HO_278002.out).1
          rw [hl278002_40] at HO_278002
          (try simp only [hl278002_40])
          (try simp only [hl278002_40] at BK261)
          (try simp only [hl278002_40] at BK277)
          (try simp only [hl278002_40] at HO_12)
          (try simp only [hl278002_40] at HO_15)
          cases kq with
          | zero => exact absurd HA.out (by simp [laws_FnExactFloorOf.j1])
          | succ kj40 =>
           have H := HA.out
           clear HA
           simp only [laws_FnExactFloorOf.j1] at H
           by_cases c56 : x77_40 = true
           · subst c56
             have H1 : (some false) = some r := by rw [if_pos rfl] at H; exact H
             clear H
             have H := H1
             clear H1
             obtain rfl := Option.some.inj H
             go_wp2
             go_ret
             exact ⟨by first | rfl | (simp [errW_none, errW_some] <;> rfl) | (simp [*, errW_none, errW_some] <;> rfl), by repeat (first | (with_reducible first | exact HB.out | apply below_alloc | apply pw_below_drewN | apply below_drew1 | refine below_set ?_ GE261.out | refine below_set ?_ GE277.out) | exact HB.out)⟩
           · replace c56 := Bool.eq_false_iff.mpr c56
             subst c56
             have H1 : ((laws_markInt64S.f kj40 t278 1).bind fun bt292 => ((laws_heldInt64S.f kj40 bt292.2 1).bind fun t294 => (if t294 < 0 then (some false) else (if t294 = bt292.1 then ((laws_toTiling.f kj40 a0_0 a0_1 l0_2).bind fun bt295 => ((impl_FloorOf.f kj40 bt295.1 bt295.2.1 bt295.2.2 a1 a2 a3 a4).bind fun bt300 => ((laws_eqInt64S.f kj40 bt300.1 t268).bind fun t304 => (if t304 = true then (laws_FnExactFloorOf.j2 kj40 bt292.2 bt292.1 (bt300.2 != t271)) else (laws_FnExactFloorOf.j2 kj40 bt292.2 bt292.1 true))))) else (some false))))) = some r := by rw [if_neg (show ¬ (false = true) by decide)] at H; exact H
             clear H
             have H := H1
             clear H1
             replace H := Option.bind_eq_some_iff.mp H
             obtain ⟨⟨t292, t293⟩, A570, H⟩ := H
             replace H : ((laws_heldInt64S.f kj40 t293 1).bind fun t294 => (if t294 < 0 then (some false) else (if t294 = t292 then ((laws_toTiling.f kj40 a0_0 a0_1 l0_2).bind fun bt295 => ((impl_FloorOf.f kj40 bt295.1 bt295.2.1 bt295.2.2 a1 a2 a3 a4).bind fun bt300 => ((laws_eqInt64S.f kj40 bt300.1 t268).bind fun t304 => (if t304 = true then (laws_FnExactFloorOf.j2 kj40 t293 t292 (bt300.2 != t271)) else (laws_FnExactFloorOf.j2 kj40 t293 t292 true))))) else (some false)))) = some r := H
             have A57 := mkA A570
             clear A570
             replace H := Option.bind_eq_some_iff.mp H
             obtain ⟨t294, A580, H⟩ := H
             replace H : (if t294 < 0 then (some false) else (if t294 = t292 then ((laws_toTiling.f kj40 a0_0 a0_1 l0_2).bind fun bt295 => ((impl_FloorOf.f kj40 bt295.1 bt295.2.1 bt295.2.2 a1 a2 a3 a4).bind fun bt300 => ((laws_eqInt64S.f kj40 bt300.1 t268).bind fun t304 => (if t304 = true then (laws_FnExactFloorOf.j2 kj40 t293 t292 (bt300.2 != t271)) else (laws_FnExactFloorOf.j2 kj40 t293 t292 true))))) else (some false))) = some r := H
             have A58 := mkA A580
             clear A580
             by_cases c59 : t294 < 0
             · rw [if_pos c59] at H
               have c59b0 : decide (t294 < 0) = true := decide_eq_true c59
               clear c59
               obtain rfl := Option.some.inj H
               obtain ⟨Ao60, co60, eo60⟩ := Kd.R_slice HO_15.out
               subst eo60
               go_wp2_with (first | ((with_reducible refine gate_callee (f := 27) rfl ?_); refine goesL_ (some 80) rfl rfl Try.func27 (by kernel_rfl) rfl #[.slice Ao60 t278.length co60, .int .i64 1] rfl (by (try simp only [List.map_toArray, List.map_cons, List.map_nil]); first | done | rfl | (simp only [List.length_drop, List.length_take]; rfl)) ?_; (with_reducible refine (laws_markInt64S.calls kj40 (fun k_ => some k_ = (.slice Ao60 t278.length co60 : Value).ownBlock) (.slice Ao60 t278.length co60) t278 1 t292 t293 w _ ?side1 ?side2 A57.out).mono ?_); (case side1 => repeat (first | (with_reducible first | exact HB.out | apply below_alloc | apply pw_below_drewN | apply below_drew1 | refine below_set ?_ GE261.out | refine below_set ?_ GE277.out) | exact HB.out)); (case side2 => exact Kd.R_tight rfl HO_15.out); rintro e w61 ⟨rfl, hy0, hb, hkp⟩; refine ⟨_, rfl, ?_⟩; have n0_ := mkA (Kd.R_mono (ok' := fun k_ => some k_ ≠ (.slice Ao60 t278.length co60 : Value).ownBlock ∧ some k_ ≠ (.slice Ao28 t290.length co28 : Value).ownBlock) (Kd.R_keptB (HO_12.out) hkp (fun k_ hk_ hs_ => (hk_.1) hs_)) (fun k_ hk_ => ⟨hk_.1.1, hk_.1.2⟩)); have n1_ := mkA (Kd.R_reok rfl hy0 (fun k_ e_ => HO_15.out.1 k_ e_)); have n2_ := mkA (Kd.R_mono (ok' := fun k_ => some k_ ≠ (v269 : Value).ownBlock ∧ some k_ ≠ (.slice Ao60 t278.length co60 : Value).ownBlock) (Kd.R_keptB (HO_278002.out) hkp (fun k_ hk_ hs_ => (hk_.2) hs_)) (fun k_ hk_ => ⟨hk_.1.1, hk_.1.2⟩)); have n3_ := mkA (blk_kept (bl_ BK261.out) hkp (fun hs_ => (fun e_ => (Kd.R_ne HO_15.out BK261.out (by decide)) e_) hs_)); have n4_ := mkA (blk_kept (bl_ BK277.out) hkp (fun hs_ => (fun e_ => (Kd.R_ne HO_15.out BK277.out (by decide)) e_) hs_)); have n5_ := mkA (hb); clear HO_12; clear HO_15; clear HO_278002; clear BK261; clear BK277; clear HB; have HO_12 := n0_; have HO_15 := n1_; have HO_278002 := n2_; have BK261 := n3_; have BK277 := n4_; have HB := n5_; clear n0_ n1_ n2_ n3_ n4_ n5_; (try clear hb); (try clear hkp); (try clear hy0)) | ((with_reducible refine gate_callee (f := 28) rfl ?_); refine goesL_ (some 83) rfl rfl Try.func28 (by kernel_rfl) rfl #[.slice Ao60 t293.length co60, .int .i64 1] rfl (by (try simp only [List.map_toArray, List.map_cons, List.map_nil]); first | done | (rw [show t293.length = t278.length from (Kd.R_reads' HO_15.out).1.symm] <;> rfl) | rfl | (simp only [List.length_drop, List.length_take]; rfl)) ?_; (with_reducible refine (laws_heldInt64S.calls kj40 _ _ t293 1 t294 _ ?side1 ?side2 A58.out).mono ?_); (case side1 => repeat (first | exact (Kd.R_reads' HO_15.out).2.2 | (with_reducible refine Kd.C_alloc ?_ _) | (with_reducible refine Kd.C_drewN ?_ _) | (with_reducible refine Kd.C_drew ?_))); (case side2 => rw [show t293.length = t278.length from (Kd.R_reads' HO_15.out).1.symm]; exact (Kd.R_reads' HO_15.out).2.1); rintro e w' ⟨rfl, ⟨nd, rfl⟩⟩; refine ⟨_, rfl, ?_⟩))
               go_ret
               exact ⟨by first | rfl | (simp [errW_none, errW_some] <;> rfl) | (simp [*, errW_none, errW_some] <;> rfl), by repeat (first | (with_reducible first | exact HB.out | apply below_alloc | apply pw_below_drewN | apply below_drew1 | refine below_set ?_ GE261.out | refine below_set ?_ GE277.out) | exact HB.out)⟩
             · rw [if_neg c59] at H
               have c59b0 : decide (t294 < 0) = false := decide_eq_false c59
               clear c59
               by_cases c62 : t294 = t292
               · rw [if_pos c62] at H
                 have c62b0 : (t294 == t292) = true := beq_iff_eq.mpr c62
                 have c62b1 : (t294 != t292) = false := bne_eq_false_iff_eq.mpr c62
                 clear c62
                 replace H := Option.bind_eq_some_iff.mp H
                 obtain ⟨⟨t295, t296, t297⟩, A630, H⟩ := H
                 replace H : ((impl_FloorOf.f kj40 t295 t296 t297 a1 a2 a3 a4).bind fun bt300 => ((laws_eqInt64S.f kj40 bt300.1 t268).bind fun t304 => (if t304 = true then (laws_FnExactFloorOf.j2 kj40 t293 t292 (bt300.2 != t271)) else (laws_FnExactFloorOf.j2 kj40 t293 t292 true)))) = some r := H
                 have A63 := mkA A630
                 clear A630
                 replace H := Option.bind_eq_some_iff.mp H
                 obtain ⟨⟨t300, t303⟩, A640, H⟩ := H
                 replace H : ((laws_eqInt64S.f kj40 t300 t268).bind fun t304 => (if t304 = true then (laws_FnExactFloorOf.j2 kj40 t293 t292 (t303 != t271)) else (laws_FnExactFloorOf.j2 kj40 t293 t292 true))) = some r := H
                 have A64 := mkA A640
                 clear A640
                 have HC65 := mkA H
                 clear H
                 obtain ⟨Ao66, co66, eo66⟩ := Kd.R_slice HO_15.out
                 subst eo66
                 go_upto_region 25 with (first | ((with_reducible refine gate_callee (f := 27) rfl ?_); refine goesL_ (some 80) rfl rfl Try.func27 (by kernel_rfl) rfl #[.slice Ao66 t278.length co66, .int .i64 1] rfl (by (try simp only [List.map_toArray, List.map_cons, List.map_nil]); first | done | rfl | (simp only [List.length_drop, List.length_take]; rfl)) ?_; (with_reducible refine (laws_markInt64S.calls kj40 (fun k_ => some k_ = (.slice Ao66 t278.length co66 : Value).ownBlock) (.slice Ao66 t278.length co66) t278 1 t292 t293 w _ ?side1 ?side2 A57.out).mono ?_); (case side1 => repeat (first | (with_reducible first | exact HB.out | apply below_alloc | apply pw_below_drewN | apply below_drew1 | refine below_set ?_ GE261.out | refine below_set ?_ GE277.out) | exact HB.out)); (case side2 => exact Kd.R_tight rfl HO_15.out); rintro e w67 ⟨rfl, hy0, hb, hkp⟩; refine ⟨_, rfl, ?_⟩; have n0_ := mkA (Kd.R_mono (ok' := fun k_ => some k_ ≠ (.slice Ao66 t278.length co66 : Value).ownBlock ∧ some k_ ≠ (.slice Ao28 t290.length co28 : Value).ownBlock) (Kd.R_keptB (HO_12.out) hkp (fun k_ hk_ hs_ => (hk_.1) hs_)) (fun k_ hk_ => ⟨hk_.1.1, hk_.1.2⟩)); have n1_ := mkA (Kd.R_reok rfl hy0 (fun k_ e_ => HO_15.out.1 k_ e_)); have n2_ := mkA (Kd.R_mono (ok' := fun k_ => some k_ ≠ (v269 : Value).ownBlock ∧ some k_ ≠ (.slice Ao66 t278.length co66 : Value).ownBlock) (Kd.R_keptB (HO_278002.out) hkp (fun k_ hk_ hs_ => (hk_.2) hs_)) (fun k_ hk_ => ⟨hk_.1.1, hk_.1.2⟩)); have n3_ := mkA (blk_kept (bl_ BK261.out) hkp (fun hs_ => (fun e_ => (Kd.R_ne HO_15.out BK261.out (by decide)) e_) hs_)); have n4_ := mkA (blk_kept (bl_ BK277.out) hkp (fun hs_ => (fun e_ => (Kd.R_ne HO_15.out BK277.out (by decide)) e_) hs_)); have n5_ := mkA (hb); clear HO_12; clear HO_15; clear HO_278002; clear BK261; clear BK277; clear HB; have HO_12 := n0_; have HO_15 := n1_; have HO_278002 := n2_; have BK261 := n3_; have BK277 := n4_; have HB := n5_; clear n0_ n1_ n2_ n3_ n4_ n5_; (try clear hb); (try clear hkp); (try clear hy0)) | ((with_reducible refine gate_callee (f := 28) rfl ?_); refine goesL_ (some 83) rfl rfl Try.func28 (by kernel_rfl) rfl #[.slice Ao66 t293.length co66, .int .i64 1] rfl (by (try simp only [List.map_toArray, List.map_cons, List.map_nil]); first | done | (rw [show t293.length = t278.length from (Kd.R_reads' HO_15.out).1.symm] <;> rfl) | rfl | (simp only [List.length_drop, List.length_take]; rfl)) ?_; (with_reducible refine (laws_heldInt64S.calls kj40 _ _ t293 1 t294 _ ?side1 ?side2 A58.out).mono ?_); (case side1 => repeat (first | exact (Kd.R_reads' HO_15.out).2.2 | (with_reducible refine Kd.C_alloc ?_ _) | (with_reducible refine Kd.C_drewN ?_ _) | (with_reducible refine Kd.C_drew ?_))); (case side2 => rw [show t293.length = t278.length from (Kd.R_reads' HO_15.out).1.symm]; exact (Kd.R_reads' HO_15.out).2.1); rintro e w' ⟨rfl, ⟨nd, rfl⟩⟩; refine ⟨_, rfl, ?_⟩; have hnb68 := NB261_277.out; have hnc68 := NB277_261.out; have hcz69_0 : w67.cell? ⟨gb261, 0, none⟩ = some (.int .i64 a0_0) := (blk_cell BK261.out 0).trans rfl; have hcz69_1 : w67.cell? ⟨gb261, 1, none⟩ = some (.int .i64 a0_1) := (blk_cell BK261.out 1).trans rfl; have hcz69_2 : w67.cell? ⟨gb261, 2, none⟩ = some (.slice A0_2 l0_2.length c0_2) := (blk_cell BK261.out 2).trans rfl; have hfz69_0 := blk_frozen BK261.out 0; have hfz69_1 := blk_frozen BK261.out 1; have hfz69_2 := blk_frozen BK261.out 2) | ((with_reducible refine gate_callee (f := 17) rfl ?_); refine goesL_ (some 91) rfl rfl Try.func17 (by kernel_rfl) rfl #[.agg #[.int .i64 a0_0, .int .i64 a0_1, .slice A0_2 l0_2.length c0_2]] rfl (by (try simp only [List.map_toArray, List.map_cons, List.map_nil]); first | done | rfl | (simp only [List.length_drop, List.length_take]; rfl)) ?_; (with_reducible refine (laws_toTiling.calls kj40 a0_0 a0_1 _ _ l0_2 t295 t296 t297 _ ?side1 ?side2 A63.out).mono ?_); (case side1 => repeat (first | exact (Kd.C_below HR0_2.out (bs2_ HB.out GE261.out GE277.out)) | (with_reducible refine Kd.C_alloc ?_ _) | (with_reducible refine Kd.C_drewN ?_ _) | (with_reducible refine Kd.C_drew ?_))); (case side2 => exact HC0_2.out); rintro e w70 ⟨v298, rfl, ho0, hb⟩; refine ⟨_, rfl, ?_⟩; have n0_ := mkA (Kd.R_elder' (by (with_reducible repeat (first | apply Kd.R_alloc | apply Kd.R_drewN | apply Kd.R_drew)); exact HO_12.out) (Kd.R_base ho0) hb); have n1_ := mkA (Kd.R_elder' (by (with_reducible repeat (first | apply Kd.R_alloc | apply Kd.R_drewN | apply Kd.R_drew)); exact HO_15.out) (Kd.R_base ho0) hb); have n2_ := mkA (Kd.R_elder' (by (with_reducible repeat (first | apply Kd.R_alloc | apply Kd.R_drewN | apply Kd.R_drew)); exact HO_278002.out) (Kd.R_base ho0) hb); have n3_ := mkA (Kd.R_lower (Kd.R_new' (Kd.R_new' (Kd.R_new' ho0 (Kd.R_lt (by (with_reducible repeat (first | apply Kd.R_alloc | apply Kd.R_drewN | apply Kd.R_drew)); exact HO_12.out))) (Kd.R_lt (by (with_reducible repeat (first | apply Kd.R_alloc | apply Kd.R_drewN | apply Kd.R_drew)); exact HO_15.out))) (Kd.R_lt (by (with_reducible repeat (first | apply Kd.R_alloc | apply Kd.R_drewN | apply Kd.R_drew)); exact HO_278002.out))) (below_size (bs2_ HB.out GE261.out GE277.out))); have n4_ := mkA (blk_below (g := gb261) (o := .cells #[.int .i64 a0_0, .int .i64 a0_1, .slice A0_2 l0_2.length c0_2] 24 (0, 0)) (bl_ BK261.out) hb); have n5_ := mkA (blk_below (g := gb277) (o := .cells #[.int .i64 t272, .int .i64 t273, .slice Ao28 t290.length co28] 29 (0, 0)) (bl_ BK277.out) hb); have n6_ := mkA (below_step (bs2_ HB.out GE261.out GE277.out) hb); clear HO_12; clear HO_15; clear HO_278002; clear BK261; clear BK277; clear HB; have HO_12 := n0_; have HO_15 := n1_; have HO_278002 := n2_; have HO299 := n3_; have BK261 := n4_; have BK277 := n5_; have HB := n6_; clear n0_ n1_ n2_ n3_ n4_ n5_ n6_; (try clear hb); (try clear hb2); (try clear hk); (try clear hi); (try clear ho0); obtain ⟨Ao71, co71, eo71⟩ := Kd.R_slice HO299.out; subst eo71) | ((with_reducible refine gate_callee (f := 24) rfl ?_); refine goesL_ (some 96) rfl rfl Try.func24 (by kernel_rfl) rfl #[.agg #[.int .i64 t295, .int .i64 t296, .slice Ao71 t297.length co71], .int .i64 a1, .int .i64 a2, .int .i64 a3, .int .i64 a4] rfl (by (try simp only [List.map_toArray, List.map_cons, List.map_nil]); first | done | rfl | (simp only [List.length_drop, List.length_take]; rfl)) ?_; (with_reducible refine (impl_FloorOf.calls kj40 t295 t296 _ _ t297 a1 a2 a3 a4 t300 t303 _ ?side1 ?side2 A64.out).mono ?_); (case side1 => repeat (first | exact (Kd.R_reads' HO299.out).2.2 | (with_reducible refine Kd.C_alloc ?_ _) | (with_reducible refine Kd.C_drewN ?_ _) | (with_reducible refine Kd.C_drew ?_))); (case side2 => exact (Kd.R_reads' HO299.out).2.1); rintro e w72 ⟨v301, rfl, ho0, hb⟩; refine ⟨_, rfl, ?_⟩; have n0_ := mkA (Kd.R_elder' (by (with_reducible repeat (first | apply Kd.R_alloc | apply Kd.R_drewN | apply Kd.R_drew)); exact HO_12.out) (Kd.R_base ho0) hb); have n1_ := mkA (Kd.R_elder' (by (with_reducible repeat (first | apply Kd.R_alloc | apply Kd.R_drewN | apply Kd.R_drew)); exact HO_15.out) (Kd.R_base ho0) hb); have n2_ := mkA (Kd.R_elder' (by (with_reducible repeat (first | apply Kd.R_alloc | apply Kd.R_drewN | apply Kd.R_drew)); exact HO_278002.out) (Kd.R_base ho0) hb); have n3_ := mkA (Kd.R_elder' (by (with_reducible repeat (first | apply Kd.R_alloc | apply Kd.R_drewN | apply Kd.R_drew)); exact HO299.out) (Kd.R_base ho0) hb); have n4_ := mkA (Kd.R_lower (Kd.R_new' (Kd.R_new' (Kd.R_new' (Kd.R_new' ho0 (Kd.R_lt (by (with_reducible repeat (first | apply Kd.R_alloc | apply Kd.R_drewN | apply Kd.R_drew)); exact HO_12.out))) (Kd.R_lt (by (with_reducible repeat (first | apply Kd.R_alloc | apply Kd.R_drewN | apply Kd.R_drew)); exact HO_15.out))) (Kd.R_lt (by (with_reducible repeat (first | apply Kd.R_alloc | apply Kd.R_drewN | apply Kd.R_drew)); exact HO_278002.out))) (Kd.R_lt (by (with_reducible repeat (first | apply Kd.R_alloc | apply Kd.R_drewN | apply Kd.R_drew)); exact HO299.out))) (below_size (bs2_ HB.out GE261.out GE277.out))); have n5_ := mkA (blk_below (g := gb261) (o := .cells #[.int .i64 a0_0, .int .i64 a0_1, .slice A0_2 l0_2.length c0_2] 24 (0, 0)) (bl_ BK261.out) hb); have n6_ := mkA (blk_below (g := gb277) (o := .cells #[.int .i64 t272, .int .i64 t273, .slice Ao28 t290.length co28] 29 (0, 0)) (bl_ BK277.out) hb); have n7_ := mkA (below_step (bs2_ HB.out GE261.out GE277.out) hb); clear HO_12; clear HO_15; clear HO_278002; clear HO299; clear BK261; clear BK277; clear HB; have HO_12 := n0_; have HO_15 := n1_; have HO_278002 := n2_; have HO299 := n3_; have HO302 := n4_; have BK261 := n5_; have BK277 := n6_; have HB := n7_; clear n0_ n1_ n2_ n3_ n4_ n5_ n6_ n7_; (try clear hb); (try clear hb2); (try clear hk); (try clear hi); (try clear ho0)))
                 (try simp only [Act.put, sA, sB, sC])
                 go_cut [107] (fun v107 wc => ∃ (kq : Nat) (x107_64 : Bool), v107 = .bool x107_64 ∧ Aside0 (laws_FnExactFloorOf.j2 kq t293 t292 x107_64 = some r) ∧ Aside0 (kq ≤ kj40) ∧ Aside0 (Kd.R (Kd.int .i64) 2 wc w.heap.size (fun k_ => some k_ ≠ ((.slice Ao28 t290.length co28) : Value).ownBlock) (.slice Ao66 t278.length co66) t293) ∧ Aside0 (Kd.R (Kd.int .i64) 2 wc w.heap.size (fun k_ => some k_ ≠ ((.slice Ao66 t278.length co66) : Value).ownBlock) (.slice Ao28 t290.length co28) t290) ∧ Aside0 (wc.heap[gb261]? = some (.cells #[.int .i64 a0_0, .int .i64 a0_1, (.slice A0_2 l0_2.length c0_2)] 24 (0, 0))) ∧ Aside0 (wc.heap[gb277]? = some (.cells #[.int .i64 t272, .int .i64 t273, (.slice Ao28 t290.length co28)] 29 (0, 0))) ∧ Aside0 (Below w.heap.size w wc))
                 case first =>
                  have H := HC65.out
                  clear HC65
                  replace H := Option.bind_eq_some_iff.mp H
                  obtain ⟨t304, A730, H⟩ := H
                  replace H : (if t304 = true then (laws_FnExactFloorOf.j2 kj40 t293 t292 (t303 != t271)) else (laws_FnExactFloorOf.j2 kj40 t293 t292 true)) = some r := H
                  have A73 := mkA A730
                  clear A730
                  by_cases c74 : t304 = true
                  · subst c74
                    have H1 : (laws_FnExactFloorOf.j2 kj40 t293 t292 (t303 != t271)) = some r := by rw [if_pos rfl] at H; exact H
                    clear H
                    have H := H1
                    clear H1
                    have H' := mkA H
                    clear H
                    obtain ⟨Ao75, co75, eo75⟩ := Kd.R_slice HO302.out
                    subst eo75
                    obtain ⟨Ao76, co76, eo76⟩ := Kd.R_slice HO_12.out
                    subst eo76
                    go_wp2_with (first | ((with_reducible refine gate_callee (f := 25) rfl ?_); refine goesL_ (some 101) rfl rfl Try.func25 (by kernel_rfl) rfl #[.slice Ao75 t300.length co75, .slice Ao76 t268.length co76] rfl (by (try simp only [List.map_toArray, List.map_cons, List.map_nil]); first | done | rfl | (simp only [List.length_drop, List.length_take]; rfl)) ?_; (with_reducible refine (laws_eqInt64S.calls kj40 _ _ t300 _ _ t268 true _ ?side1 ?side2 ?side3 ?side4 A73.out).mono ?_); (case side1 => repeat (first | exact (Kd.R_reads' HO302.out).2.2 | (with_reducible refine Kd.C_alloc ?_ _) | (with_reducible refine Kd.C_drewN ?_ _) | (with_reducible refine Kd.C_drew ?_))); (case side2 => exact (Kd.R_reads' HO302.out).2.1); (case side3 => repeat (first | exact (Kd.R_reads' HO_12.out).2.2 | (with_reducible refine Kd.C_alloc ?_ _) | (with_reducible refine Kd.C_drewN ?_ _) | (with_reducible refine Kd.C_drew ?_))); (case side4 => exact (Kd.R_reads' HO_12.out).2.1); rintro e w' ⟨rfl, ⟨nd, rfl⟩⟩; refine ⟨_, rfl, ?_⟩))
                    go_meet
                    case rel => exact ⟨_, ((t303 != t271)), (by first | rfl | (simp; done) | (simp [*]; done) | (simp [i64_w, i32_w]; done)), H', ⟨by have := HJ14.out; have := HJ40.out; first | omega | exact Nat.le_refl _⟩, ⟨by (try simp only [hl278002_40]); (with_reducible repeat (first | apply Kd.R_alloc | apply Kd.R_drewN | apply Kd.R_drew)); exact Kd.R_mono HO_15.out (fun _ hk => hk.1.1.2)⟩, ⟨by (try simp only [hl278002_40]); (with_reducible repeat (first | apply Kd.R_alloc | apply Kd.R_drewN | apply Kd.R_drew)); exact Kd.R_mono HO_278002.out (fun _ hk => hk.1.1.2)⟩, ⟨by (try simp only [hl278002_40]); (with_reducible repeat (first | refine blk_drewN ?_ _ | refine blk_drew ?_ | refine blk_alloc ?_ _)); exact BK261.out⟩, ⟨by (try simp only [hl278002_40]); (with_reducible repeat (first | refine blk_drewN ?_ _ | refine blk_drew ?_ | refine blk_alloc ?_ _)); exact BK277.out⟩, ⟨by repeat (first | (with_reducible first | exact HB.out | apply below_alloc | apply pw_below_drewN | apply below_drew1 | refine below_set ?_ GE261.out | refine below_set ?_ GE277.out) | exact HB.out)⟩⟩
                  · replace c74 := Bool.eq_false_iff.mpr c74
                    subst c74
                    have H1 : (laws_FnExactFloorOf.j2 kj40 t293 t292 true) = some r := by rw [if_neg (show ¬ (false = true) by decide)] at H; exact H
                    clear H
                    have H := H1
                    clear H1
                    have H' := mkA H
                    clear H
                    obtain ⟨Ao77, co77, eo77⟩ := Kd.R_slice HO302.out
                    subst eo77
                    obtain ⟨Ao78, co78, eo78⟩ := Kd.R_slice HO_12.out
                    subst eo78
                    go_wp2_with (first | ((with_reducible refine gate_callee (f := 25) rfl ?_); refine goesL_ (some 101) rfl rfl Try.func25 (by kernel_rfl) rfl #[.slice Ao77 t300.length co77, .slice Ao78 t268.length co78] rfl (by (try simp only [List.map_toArray, List.map_cons, List.map_nil]); first | done | rfl | (simp only [List.length_drop, List.length_take]; rfl)) ?_; (with_reducible refine (laws_eqInt64S.calls kj40 _ _ t300 _ _ t268 false _ ?side1 ?side2 ?side3 ?side4 A73.out).mono ?_); (case side1 => repeat (first | exact (Kd.R_reads' HO302.out).2.2 | (with_reducible refine Kd.C_alloc ?_ _) | (with_reducible refine Kd.C_drewN ?_ _) | (with_reducible refine Kd.C_drew ?_))); (case side2 => exact (Kd.R_reads' HO302.out).2.1); (case side3 => repeat (first | exact (Kd.R_reads' HO_12.out).2.2 | (with_reducible refine Kd.C_alloc ?_ _) | (with_reducible refine Kd.C_drewN ?_ _) | (with_reducible refine Kd.C_drew ?_))); (case side4 => exact (Kd.R_reads' HO_12.out).2.1); rintro e w' ⟨rfl, ⟨nd, rfl⟩⟩; refine ⟨_, rfl, ?_⟩))
                    go_meet
                    case rel => exact ⟨_, (true), (by first | rfl | (simp; done) | (simp [*]; done) | (simp [i64_w, i32_w]; done)), H', ⟨by have := HJ14.out; have := HJ40.out; first | omega | exact Nat.le_refl _⟩, ⟨by (try simp only [hl278002_40]); (with_reducible repeat (first | apply Kd.R_alloc | apply Kd.R_drewN | apply Kd.R_drew)); exact Kd.R_mono HO_15.out (fun _ hk => hk.1.1.2)⟩, ⟨by (try simp only [hl278002_40]); (with_reducible repeat (first | apply Kd.R_alloc | apply Kd.R_drewN | apply Kd.R_drew)); exact Kd.R_mono HO_278002.out (fun _ hk => hk.1.1.2)⟩, ⟨by (try simp only [hl278002_40]); (with_reducible repeat (first | refine blk_drewN ?_ _ | refine blk_drew ?_ | refine blk_alloc ?_ _)); exact BK261.out⟩, ⟨by (try simp only [hl278002_40]); (with_reducible repeat (first | refine blk_drewN ?_ _ | refine blk_drew ?_ | refine blk_alloc ?_ _)); exact BK277.out⟩, ⟨by repeat (first | (with_reducible first | exact HB.out | apply below_alloc | apply pw_below_drewN | apply below_drew1 | refine below_set ?_ GE261.out | refine below_set ?_ GE277.out) | exact HB.out)⟩⟩
                 case rest =>
                  clear HC65
                  try clear c1
                  try clear c2
                  try clear p2
                  try clear c3
                  try clear c4
                  try clear c5
                  try clear c6
                  try clear c7
                  try clear c7b0
                  try clear c15
                  try clear c17
                  try clear c20
                  try clear c23
                  try clear c24
                  try clear c25
                  try clear c26
                  try clear c27
                  try clear c28
                  try clear c31
                  try clear c36
                  try clear c39
                  try clear c46
                  try clear c49
                  try clear c49b0
                  try clear c51
                  try clear c56
                  try clear c59
                  try clear c59b0
                  try clear c62
                  try clear c62b0
                  try clear c62b1
                  try clear c68
                  try clear c74
                  try clear hcz17_0
                  try clear hcz17_1
                  try clear hcz17_2
                  try clear hcz19_0
                  try clear hcz19_1
                  try clear hcz19_2
                  try clear hcz23_0
                  try clear hcz23_1
                  try clear hcz23_2
                  try clear hcz27_0
                  try clear hcz27_1
                  try clear hcz27_2
                  try clear hcz47_0
                  try clear hcz47_1
                  try clear hcz47_2
                  try clear hcz69_0
                  try clear hcz69_1
                  try clear hcz69_2
                  try clear hcz9_0
                  try clear hcz9_1
                  try clear hcz9_2
                  try clear hfz17_0
                  try clear hfz17_1
                  try clear hfz17_2
                  try clear hfz19_0
                  try clear hfz19_1
                  try clear hfz19_2
                  try clear hfz23_0
                  try clear hfz23_1
                  try clear hfz23_2
                  try clear hfz27_0
                  try clear hfz27_1
                  try clear hfz27_2
                  try clear hfz47_0
                  try clear hfz47_1
                  try clear hfz47_2
                  try clear hfz69_0
                  try clear hfz69_1
                  try clear hfz69_2
                  try clear hfz9_0
                  try clear hfz9_1
                  try clear hfz9_2
                  try clear p2
                  obtain ⟨kq, x107_64, rfl, HA, HJ64, HO_15, HO_278002, BK261, BK277, HB⟩ := hcut
                  have hl15_64 := (Kd.R_reads' HO_15.out).1
                  rw [hl15_64] at HO_15
                  (try simp only [hl15_64])
                  (try simp only [hl15_64] at BK261)
                  (try simp only [hl15_64] at BK277)
                  (try simp only [hl15_64] at HO_278002)
                  cases kq with
                  | zero => exact absurd HA.out (by simp [laws_FnExactFloorOf.j2])
                  | succ kj64 =>
                   have H := HA.out
                   clear HA
                   simp only [laws_FnExactFloorOf.j2] at H
                   by_cases c79 : x107_64 = true
                   · subst c79
                     have H1 : (some false) = some r := by rw [if_pos rfl] at H; exact H
                     clear H
                     have H := H1
                     clear H1
                     obtain rfl := Option.some.inj H
                     go_wp2
                     go_ret
                     exact ⟨by first | rfl | (simp [errW_none, errW_some] <;> rfl) | (simp [*, errW_none, errW_some] <;> rfl), by repeat (first | (with_reducible first | exact HB.out | apply below_alloc | apply pw_below_drewN | apply below_drew1 | refine below_set ?_ GE261.out | refine below_set ?_ GE277.out) | exact HB.out)⟩
                   · replace c79 := Bool.eq_false_iff.mpr c79
                     subst c79
                     have H1 : ((laws_heldInt64S.f kj64 t293 1).bind fun t305 => (if t305 < 0 then (some false) else (if t305 = t292 then (some true) else (some false)))) = some r := by rw [if_neg (show ¬ (false = true) by decide)] at H; exact H
                     clear H
                     have H := H1
                     clear H1
                     replace H := Option.bind_eq_some_iff.mp H
                     obtain ⟨t305, A800, H⟩ := H
                     replace H : (if t305 < 0 then (some false) else (if t305 = t292 then (some true) else (some false))) = some r := H
                     have A80 := mkA A800
                     clear A800
                     by_cases c81 : t305 < 0
                     · rw [if_pos c81] at H
                       have c81b0 : decide (t305 < 0) = true := decide_eq_true c81
                       clear c81
                       obtain rfl := Option.some.inj H
                       go_wp2_with (first | ((with_reducible refine gate_callee (f := 28) rfl ?_); refine goesL_ (some 110) rfl rfl Try.func28 (by kernel_rfl) rfl #[.slice Ao66 t293.length co66, .int .i64 1] rfl (by (try simp only [List.map_toArray, List.map_cons, List.map_nil]); first | done | rfl | (simp only [List.length_drop, List.length_take]; rfl)) ?_; (with_reducible refine (laws_heldInt64S.calls kj64 _ _ t293 1 t305 _ ?side1 ?side2 A80.out).mono ?_); (case side1 => repeat (first | exact (Kd.R_reads' HO_15.out).2.2 | (with_reducible refine Kd.C_alloc ?_ _) | (with_reducible refine Kd.C_drewN ?_ _) | (with_reducible refine Kd.C_drew ?_))); (case side2 => exact (Kd.R_reads' HO_15.out).2.1); rintro e w' ⟨rfl, ⟨nd, rfl⟩⟩; refine ⟨_, rfl, ?_⟩))
                       go_ret
                       exact ⟨by first | rfl | (simp [errW_none, errW_some] <;> rfl) | (simp [*, errW_none, errW_some] <;> rfl), by repeat (first | (with_reducible first | exact HB.out | apply below_alloc | apply pw_below_drewN | apply below_drew1 | refine below_set ?_ GE261.out | refine below_set ?_ GE277.out) | exact HB.out)⟩
                     · rw [if_neg c81] at H
                       have c81b0 : decide (t305 < 0) = false := decide_eq_false c81
                       clear c81
                       by_cases c82 : t305 = t292
                       · rw [if_pos c82] at H
                         have c82b0 : (t305 == t292) = true := beq_iff_eq.mpr c82
                         have c82b1 : (t305 != t292) = false := bne_eq_false_iff_eq.mpr c82
                         clear c82
                         obtain rfl := Option.some.inj H
                         go_wp2_with (first | ((with_reducible refine gate_callee (f := 28) rfl ?_); refine goesL_ (some 110) rfl rfl Try.func28 (by kernel_rfl) rfl #[.slice Ao66 t293.length co66, .int .i64 1] rfl (by (try simp only [List.map_toArray, List.map_cons, List.map_nil]); first | done | rfl | (simp only [List.length_drop, List.length_take]; rfl)) ?_; (with_reducible refine (laws_heldInt64S.calls kj64 _ _ t293 1 t305 _ ?side1 ?side2 A80.out).mono ?_); (case side1 => repeat (first | exact (Kd.R_reads' HO_15.out).2.2 | (with_reducible refine Kd.C_alloc ?_ _) | (with_reducible refine Kd.C_drewN ?_ _) | (with_reducible refine Kd.C_drew ?_))); (case side2 => exact (Kd.R_reads' HO_15.out).2.1); rintro e w' ⟨rfl, ⟨nd, rfl⟩⟩; refine ⟨_, rfl, ?_⟩))
                         go_ret
                         exact ⟨by first | rfl | (simp [errW_none, errW_some] <;> rfl) | (simp [*, errW_none, errW_some] <;> rfl), by repeat (first | (with_reducible first | exact HB.out | apply below_alloc | apply pw_below_drewN | apply below_drew1 | refine below_set ?_ GE261.out | refine below_set ?_ GE277.out) | exact HB.out)⟩
                       · rw [if_neg c82] at H
                         have c82b0 : (t305 == t292) = false := beq_eq_false_iff_ne.mpr c82
                         have c82b1 : (t305 != t292) = true := bne_iff_ne.mpr c82
                         obtain rfl := Option.some.inj H
                         go_wp2_with (first | ((with_reducible refine gate_callee (f := 28) rfl ?_); refine goesL_ (some 110) rfl rfl Try.func28 (by kernel_rfl) rfl #[.slice Ao66 t293.length co66, .int .i64 1] rfl (by (try simp only [List.map_toArray, List.map_cons, List.map_nil]); first | done | rfl | (simp only [List.length_drop, List.length_take]; rfl)) ?_; (with_reducible refine (laws_heldInt64S.calls kj64 _ _ t293 1 t305 _ ?side1 ?side2 A80.out).mono ?_); (case side1 => repeat (first | exact (Kd.R_reads' HO_15.out).2.2 | (with_reducible refine Kd.C_alloc ?_ _) | (with_reducible refine Kd.C_drewN ?_ _) | (with_reducible refine Kd.C_drew ?_))); (case side2 => exact (Kd.R_reads' HO_15.out).2.1); rintro e w' ⟨rfl, ⟨nd, rfl⟩⟩; refine ⟨_, rfl, ?_⟩))
                         go_ret
                         exact ⟨by first | rfl | (simp [errW_none, errW_some] <;> rfl) | (simp [*, errW_none, errW_some] <;> rfl), by repeat (first | (with_reducible first | exact HB.out | apply below_alloc | apply pw_below_drewN | apply below_drew1 | refine below_set ?_ GE261.out | refine below_set ?_ GE277.out) | exact HB.out)⟩
               · rw [if_neg c62] at H
                 have c62b0 : (t294 == t292) = false := beq_eq_false_iff_ne.mpr c62
                 have c62b1 : (t294 != t292) = true := bne_iff_ne.mpr c62
                 obtain rfl := Option.some.inj H
                 obtain ⟨Ao83, co83, eo83⟩ := Kd.R_slice HO_15.out
                 subst eo83
                 go_wp2_with (first | ((with_reducible refine gate_callee (f := 27) rfl ?_); refine goesL_ (some 80) rfl rfl Try.func27 (by kernel_rfl) rfl #[.slice Ao83 t278.length co83, .int .i64 1] rfl (by (try simp only [List.map_toArray, List.map_cons, List.map_nil]); first | done | rfl | (simp only [List.length_drop, List.length_take]; rfl)) ?_; (with_reducible refine (laws_markInt64S.calls kj40 (fun k_ => some k_ = (.slice Ao83 t278.length co83 : Value).ownBlock) (.slice Ao83 t278.length co83) t278 1 t292 t293 w _ ?side1 ?side2 A57.out).mono ?_); (case side1 => repeat (first | (with_reducible first | exact HB.out | apply below_alloc | apply pw_below_drewN | apply below_drew1 | refine below_set ?_ GE261.out | refine below_set ?_ GE277.out) | exact HB.out)); (case side2 => exact Kd.R_tight rfl HO_15.out); rintro e w84 ⟨rfl, hy0, hb, hkp⟩; refine ⟨_, rfl, ?_⟩; have n0_ := mkA (Kd.R_mono (ok' := fun k_ => some k_ ≠ (.slice Ao83 t278.length co83 : Value).ownBlock ∧ some k_ ≠ (.slice Ao28 t290.length co28 : Value).ownBlock) (Kd.R_keptB (HO_12.out) hkp (fun k_ hk_ hs_ => (hk_.1) hs_)) (fun k_ hk_ => ⟨hk_.1.1, hk_.1.2⟩)); have n1_ := mkA (Kd.R_reok rfl hy0 (fun k_ e_ => HO_15.out.1 k_ e_)); have n2_ := mkA (Kd.R_mono (ok' := fun k_ => some k_ ≠ (v269 : Value).ownBlock ∧ some k_ ≠ (.slice Ao83 t278.length co83 : Value).ownBlock) (Kd.R_keptB (HO_278002.out) hkp (fun k_ hk_ hs_ => (hk_.2) hs_)) (fun k_ hk_ => ⟨hk_.1.1, hk_.1.2⟩)); have n3_ := mkA (blk_kept (bl_ BK261.out) hkp (fun hs_ => (fun e_ => (Kd.R_ne HO_15.out BK261.out (by decide)) e_) hs_)); have n4_ := mkA (blk_kept (bl_ BK277.out) hkp (fun hs_ => (fun e_ => (Kd.R_ne HO_15.out BK277.out (by decide)) e_) hs_)); have n5_ := mkA (hb); clear HO_12; clear HO_15; clear HO_278002; clear BK261; clear BK277; clear HB; have HO_12 := n0_; have HO_15 := n1_; have HO_278002 := n2_; have BK261 := n3_; have BK277 := n4_; have HB := n5_; clear n0_ n1_ n2_ n3_ n4_ n5_; (try clear hb); (try clear hkp); (try clear hy0)) | ((with_reducible refine gate_callee (f := 28) rfl ?_); refine goesL_ (some 83) rfl rfl Try.func28 (by kernel_rfl) rfl #[.slice Ao83 t293.length co83, .int .i64 1] rfl (by (try simp only [List.map_toArray, List.map_cons, List.map_nil]); first | done | (rw [show t293.length = t278.length from (Kd.R_reads' HO_15.out).1.symm] <;> rfl) | rfl | (simp only [List.length_drop, List.length_take]; rfl)) ?_; (with_reducible refine (laws_heldInt64S.calls kj40 _ _ t293 1 t294 _ ?side1 ?side2 A58.out).mono ?_); (case side1 => repeat (first | exact (Kd.R_reads' HO_15.out).2.2 | (with_reducible refine Kd.C_alloc ?_ _) | (with_reducible refine Kd.C_drewN ?_ _) | (with_reducible refine Kd.C_drew ?_))); (case side2 => rw [show t293.length = t278.length from (Kd.R_reads' HO_15.out).1.symm]; exact (Kd.R_reads' HO_15.out).2.1); rintro e w' ⟨rfl, ⟨nd, rfl⟩⟩; refine ⟨_, rfl, ?_⟩))
                 go_ret
                 exact ⟨by first | rfl | (simp [errW_none, errW_some] <;> rfl) | (simp [*, errW_none, errW_some] <;> rfl), by repeat (first | (with_reducible first | exact HB.out | apply below_alloc | apply pw_below_drewN | apply below_drew1 | refine below_set ?_ GE261.out | refine below_set ?_ GE277.out) | exact HB.out)⟩
       · replace c39 := Bool.eq_false_iff.mpr c39
         subst c39
         have H1 : (some false) = some r := by rw [if_neg (show ¬ (false = true) by decide)] at H; exact H
         clear H
         have H := H1
         clear H1
         obtain rfl := Option.some.inj H
         try go_wp2
         have n0_ := mkA (Kd.R_drew HO_12.out)
         have n1_ := mkA (Kd.R_drew HO_15.out)
         have n2_ := mkA (Kd.R_drew HO_278002.out)
         have n3_ := mkA (blk_drew BK261.out)
         have n4_ := mkA (blk_drew BK277.out)
         have n5_ := mkA (below_drew1 HB.out)
         clear HO_12
         clear HO_15
         clear HO_278002
         clear BK261
         clear BK277
         clear HB
         have HO_12 := n0_
         have HO_15 := n1_
         have HO_278002 := n2_
         have BK261 := n3_
         have BK277 := n4_
         have HB := n5_
         clear n0_ n1_ n2_ n3_ n4_ n5_
         refine start_ (n := 5) (S := fun w' => w'.cell? ⟨gb277, 0, none⟩ = some (.int .i64 t272) ∧ w'.cell? ⟨gb277, 1, none⟩ = some (.int .i64 t273) ∧ w'.cell? ⟨gb277, 2, none⟩ = some (.slice Ao28 t274.length co28) ∧ w'.cell? ⟨gb261, 0, none⟩ = some (.int .i64 a0_0) ∧ w'.cell? ⟨gb261, 1, none⟩ = some (.int .i64 a0_1) ∧ w'.cell? ⟨gb261, 2, none⟩ = some (.slice A0_2 l0_2.length c0_2)) (ds := []) #[false, false, false, false, false] (by kernel_rfl) rfl rfl ⟨(blk_cell BK277.out 0).trans rfl, (blk_cell BK277.out 1).trans rfl, (blk_cell BK277.out 2).trans rfl, (blk_cell BK261.out 0).trans rfl, (blk_cell BK261.out 1).trans rfl, (blk_cell BK261.out 2).trans rfl⟩ (fun hHeld => ?_)
         generalize wc.drew = w85 at HO_12 HO_15 HO_278002 BK261 BK277 HB hHeld ⊢
         refine take_ (i := 0) (N := some 57) (v := ?_) (a' := ?_) #[true, false, false, false, false] rfl rfl (by kernel_rfl) (fun _ _ _ h => h) (Or.inl ⟨by rfl, ?_⟩) hHeld ?_ ?_
         rotate_left
         · rintro w' ⟨s0, s1, s2, s3, s4, s5⟩
           go_simp
           with_reducible rfl
         rotate_left
         · simp only [Act.put, sA, sB, sC, i64_w, i32_w]
           rfl
         refine take_ (i := 1) (N := some 58) (v := ?_) (a' := ?_) #[true, true, false, false, false] rfl rfl (by kernel_rfl) (fun _ _ _ h => h) (Or.inl ⟨by rfl, ?_⟩) hHeld ?_ ?_
         rotate_left
         · rintro w' ⟨s0, s1, s2, s3, s4, s5⟩
           go_simp
           with_reducible rfl
         rotate_left
         · simp only [Act.put, sA, sB, sC, i64_w, i32_w]
           rfl
         refine one_ (i := 2) (N := some 59) #[true, true, true, false, false] rfl rfl (by kernel_rfl) (by decide) (fun K hK => ?_)
         refine goes_ Try.func17 (by kernel_rfl) rfl #[.agg #[.int .i64 a0_0, .int .i64 a0_1, .slice A0_2 l0_2.length c0_2]] (by rfl) rfl rfl (by (try simp only [List.map_toArray, List.map_cons, List.map_nil]); first | done | rfl | (simp only [List.length_drop, List.length_take]; rfl)) ?_
         with_reducible refine (laws_toTiling.calls kj14 a0_0 a0_1 _ _ l0_2 t283 t284 t285 _ ?side1 ?side2 A37.out).mono ?_
         (case side1 => exact cb_ HR0_2.out HB.out)
         (case side2 => exact HC0_2.out)
         rintro e w86 ⟨v286, rfl, ho0, hb⟩
         refine ⟨_, rfl, ?_⟩
         have n0_ := mkA (Kd.R_elder' (by (with_reducible repeat (first | apply Kd.R_alloc | apply Kd.R_drewN | apply Kd.R_drew)); exact HO_12.out) (Kd.R_base ho0) hb)
         have n1_ := mkA (Kd.R_elder' (by (with_reducible repeat (first | apply Kd.R_alloc | apply Kd.R_drewN | apply Kd.R_drew)); exact HO_15.out) (Kd.R_base ho0) hb)
         have n2_ := mkA (Kd.R_elder' (by (with_reducible repeat (first | apply Kd.R_alloc | apply Kd.R_drewN | apply Kd.R_drew)); exact HO_278002.out) (Kd.R_base ho0) hb)
         have n3_ := mkA (Kd.R_lower (Kd.R_new' (Kd.R_new' (Kd.R_new' ho0 (Kd.R_lt (by (with_reducible repeat (first | apply Kd.R_alloc | apply Kd.R_drewN | apply Kd.R_drew)); exact HO_12.out))) (Kd.R_lt (by (with_reducible repeat (first | apply Kd.R_alloc | apply Kd.R_drewN | apply Kd.R_drew)); exact HO_15.out))) (Kd.R_lt (by (with_reducible repeat (first | apply Kd.R_alloc | apply Kd.R_drewN | apply Kd.R_drew)); exact HO_278002.out))) (below_size (bs2_ HB.out GE261.out GE277.out)))
         have n4_ := mkA (blk_below (g := gb261) (o := .cells #[.int .i64 a0_0, .int .i64 a0_1, .slice A0_2 l0_2.length c0_2] 24 (0, 0)) (bl_ BK261.out) hb)
         have n5_ := mkA (blk_below (g := gb277) (o := .cells #[.int .i64 t272, .int .i64 t273, .slice Ao28 t274.length co28] 29 (0, 0)) (bl_ BK277.out) hb)
         have n6_ := mkA (below_step (bs2_ HB.out GE261.out GE277.out) hb)
         clear HO_12
         clear HO_15
         clear HO_278002
         clear BK261
         clear BK277
         clear HB
         have HO_12 := n0_
         have HO_15 := n1_
         have HO_278002 := n2_
         have HO287 := n3_
         have BK261 := n4_
         have BK277 := n5_
         have HB := n6_
         clear n0_ n1_ n2_ n3_ n4_ n5_ n6_
         (try clear hb)
         (try clear hb2)
         (try clear hk)
         (try clear hi)
         (try clear ho0)
         obtain ⟨Ao87, co87, eo87⟩ := Kd.R_slice HO287.out
         (first | subst eo87 | (injection eo87 with f1_ f2_ f3_; have f4_ := f1_.symm; have f5_ := f3_.symm; clear f1_ f2_ f3_; subst f4_; subst f5_))
         refine hK.out _ _ ⟨(blk_cell BK277.out 0).trans rfl, (blk_cell BK277.out 1).trans rfl, (blk_cell BK277.out 2).trans rfl, (blk_cell BK261.out 0).trans rfl, (blk_cell BK261.out 1).trans rfl, (blk_cell BK261.out 2).trans rfl⟩ (fun hHeld => ?_)
         clear hK K
         refine norm_ (a' := ?_) ?_ ?_
         rotate_left
         · show Act.put _ (some 59) _ = _
           simp only [Act.put, sA, sB, sC, i64_w, i32_w]
           rfl
         refine one_ (i := 3) (N := some 60) #[true, true, true, true, false] rfl rfl (by kernel_rfl) (by decide) (fun K hK => ?_)
         refine goes_ Try.func20 (by kernel_rfl) rfl #[.agg #[.int .i64 t272, .int .i64 t273, .slice Ao28 t274.length co28], .agg #[.int .i64 t283, .int .i64 t284, .slice Ao87 t285.length co87]] (by rfl) rfl rfl (by (try simp only [List.map_toArray, List.map_cons, List.map_nil]); first | done | rfl | (simp only [List.length_drop, List.length_take]; rfl)) ?_
         with_reducible refine (laws_eqTiling.calls kj14 t272 t273 _ _ t274 t283 t284 _ _ t285 false _ ?side1 ?side2 ?side3 ?side4 A38.out).mono ?_
         (case side1 => repeat (first | exact (Kd.R_reads' HO_278002.out).2.2 | (with_reducible refine Kd.C_alloc ?_ _) | (with_reducible refine Kd.C_drewN ?_ _) | (with_reducible refine Kd.C_drew ?_)))
         (case side2 => exact (Kd.R_reads' HO_278002.out).2.1)
         (case side3 => repeat (first | exact (Kd.R_reads' HO287.out).2.2 | (with_reducible refine Kd.C_alloc ?_ _) | (with_reducible refine Kd.C_drewN ?_ _) | (with_reducible refine Kd.C_drew ?_)))
         (case side4 => exact (Kd.R_reads' HO287.out).2.1)
         rintro e w88 ⟨rfl, hb⟩
         refine ⟨_, rfl, ?_⟩
         have n0_ := mkA (Kd.R_below (by (with_reducible repeat (first | apply Kd.R_alloc | apply Kd.R_drewN | apply Kd.R_drew)); exact HO_12.out) hb)
         have n1_ := mkA (Kd.R_below (by (with_reducible repeat (first | apply Kd.R_alloc | apply Kd.R_drewN | apply Kd.R_drew)); exact HO_15.out) hb)
         have n2_ := mkA (Kd.R_below (by (with_reducible repeat (first | apply Kd.R_alloc | apply Kd.R_drewN | apply Kd.R_drew)); exact HO_278002.out) hb)
         have n3_ := mkA (Kd.R_below (by (with_reducible repeat (first | apply Kd.R_alloc | apply Kd.R_drewN | apply Kd.R_drew)); exact HO287.out) hb)
         have n4_ := mkA (blk_below (g := gb261) (o := .cells #[.int .i64 a0_0, .int .i64 a0_1, .slice A0_2 l0_2.length c0_2] 24 (0, 0)) (bl_ BK261.out) hb)
         have n5_ := mkA (blk_below (g := gb277) (o := .cells #[.int .i64 t272, .int .i64 t273, .slice Ao28 t274.length co28] 29 (0, 0)) (bl_ BK277.out) hb)
         have n6_ := mkA (below_step (bs2_ HB.out GE261.out GE277.out) hb)
         clear HO_12
         clear HO_15
         clear HO_278002
         clear HO287
         clear BK261
         clear BK277
         clear HB
         have HO_12 := n0_
         have HO_15 := n1_
         have HO_278002 := n2_
         have HO287 := n3_
         have BK261 := n4_
         have BK277 := n5_
         have HB := n6_
         clear n0_ n1_ n2_ n3_ n4_ n5_ n6_
         (try clear hb)
         (try clear hb2)
         (try clear hk)
         (try clear hi)
         refine hK.out _ _ ⟨(blk_cell BK277.out 0).trans rfl, (blk_cell BK277.out 1).trans rfl, (blk_cell BK277.out 2).trans rfl, (blk_cell BK261.out 0).trans rfl, (blk_cell BK261.out 1).trans rfl, (blk_cell BK261.out 2).trans rfl⟩ (fun hHeld => ?_)
         clear hK K
         refine norm_ (a' := ?_) ?_ ?_
         rotate_left
         · show Act.put _ (some 60) _ = _
           simp only [Act.put, sA, sB, sC, i64_w, i32_w]
           rfl
         refine pure_ (i := 4) (N := some 61) (v := ?_) (a' := ?_) #[true, true, true, true, true] rfl rfl (by kernel_rfl) (fun _ _ _ h => h) (Or.inl ⟨by rfl, ?_⟩) ?_ ?_
         rotate_left
         · intro w'
           go_simp
           with_reducible rfl
         rotate_left
         · simp only [Act.put, sA, sB, sC, i64_w, i32_w]
           rfl
         refine done_ (by kernel_rfl) ?_
         try go_wp2
         go_ret
         exact ⟨by first | rfl | (simp [errW_none, errW_some] <;> rfl) | (simp [*, errW_none, errW_some] <;> rfl), by repeat (first | (with_reducible first | exact HB.out | apply below_alloc | apply pw_below_drewN | apply below_drew1 | refine below_set ?_ GE261.out | refine below_set ?_ GE277.out) | exact HB.out)⟩
def G24 (x : S24) : Prop := (Lit.int .i64 x.f0).wf = true ∧ (Lit.int .i64 x.f1).wf = true ∧ (x.f2.length ≤ maxLen ∧ ∀ y0 ∈ x.f2, (Lit.int .i64 y0).wf = true)

/-- THE ONE PURE STATEMENT of laws_FnExactFloorOf. -/
def laws_FnExactFloorOf.Pure : Prop := ∀ (a0_0 : Int) (a0_1 : Int) (l0_2 : List Int) (a1 : Int) (a2 : Int) (a3 : Int) (a4 : Int), G24 (⟨a0_0, a0_1, l0_2⟩ : S24) → (Lit.int .i64 a1).wf = true → (Lit.int .i64 a2).wf = true → (Lit.int .i64 a3).wf = true → (Lit.int .i64 a4).wf = true → ∃ k, laws_FnExactFloorOf.f k a0_0 a0_1 l0_2 a1 a2 a3 a4 = some true

end Go.Proofs.Ytnidibnhojedoaa.GFnExactFloorOf

-- Written by the session's own program (gen.py) out of the translation's print. Lean checks it.
import Derived.Test.YtnidibnhojedoaaGFnExactShiftTilingx0
import Derived.Test.YtnidibnhojedoaaGFnExactShiftTilingx1
import Derived.Test.YtnidibnhojedoaaGFnExactShiftTilingx5
import Derived.Test.YtnidibnhojedoaaGFnExactShiftTilingx8
import Derived.Test.YtnidibnhojedoaaGFnExactShiftTilingx9
namespace Go.Proofs.Ytnidibnhojedoaa.GFnExactShiftTiling
open Go.RowKit Go.Proofs.YtnidibnhojedoaaW.PrintWords Go.Proofs.YtnidibnhojedoaaW.PrintLast Go.Proofs.YtnidibnhojedoaaW.PrintMore
attribute [local go_sem] max2_int min2_int max_two min_two max_three min_three max_four min_four   -- for this text's walks alone
set_option linter.unusedVariables false
set_option linter.unusedSimpArgs false

/-! ### laws_FnExactShiftTiling: function 6 -/
mutual
def laws_FnExactShiftTiling.j0 : Nat → Int → Int → Int → Int → Bool → Int → Int → List Int → Int → Int → List Int → Int → Int → List Int → Int → Int → List Int → Option (Bool)
  | 0, _, _, _, _, _, _, _, _, _, _, _, _, _, _, _, _, _ => none
  | k + 1, x1, x2, x9, x12, x48, x269000, x269001, x269002, x282000, x282001, x282002, x288000, x288001, x288002, x295000, x295001, x295002 => if x48 = true then (some false) else ((laws_toTiling.f k x269000 x269001 x269002).bind fun bt296 => ((laws_eqTiling.f k x288000 x288001 x288002 bt296.1 bt296.2.1 bt296.2.2).bind fun t301 => (if t301 = true then ((laws_markTiling.f k x288000 x288001 x288002 1).bind fun bt302 => (if bt302.1 < 0 then (laws_FnExactShiftTiling.j1 k x1 x2 x9 true x269000 x269001 x269002 x282000 x282001 x282002 x295000 x295001 x295002) else ((laws_eqTiling.f k x295000 x295001 x295002 x282000 x282001 x282002).bind fun t304 => (if t304 = true then (laws_FnExactShiftTiling.j1 k x1 x2 x9 (x12 != x9) x269000 x269001 x269002 x282000 x282001 x282002 x295000 x295001 x295002) else (laws_FnExactShiftTiling.j1 k x1 x2 x9 true x269000 x269001 x269002 x282000 x282001 x282002 x295000 x295001 x295002))))) else (some false))))
def laws_FnExactShiftTiling.j1 : Nat → Int → Int → Int → Bool → Int → Int → List Int → Int → Int → List Int → Int → Int → List Int → Option (Bool)
  | 0, _, _, _, _, _, _, _, _, _, _, _, _, _ => none
  | k + 1, x1, x2, x9, x69, x269000, x269001, x269002, x282000, x282001, x282002, x295000, x295001, x295002 => if x69 = true then (some false) else ((laws_markTiling.f k x295000 x295001 x295002 1).bind fun bt305 => ((laws_heldTiling.f k x295000 x295001 bt305.2 1).bind fun t307 => (if t307 < 0 then (some false) else (if t307 = bt305.1 then ((laws_toTiling.f k x269000 x269001 x269002).bind fun bt308 => ((impl_ShiftTiling.f k bt308.1 bt308.2.1 bt308.2.2 x1 x2).bind fun bt313 => ((laws_eqTiling.f k bt313.1 bt313.2.1 bt313.2.2.1 x282000 x282001 x282002).bind fun t320 => (if t320 = true then (laws_FnExactShiftTiling.j2 k bt305.1 (bt313.2.2.2 != x9) x295000 x295001 bt305.2) else (laws_FnExactShiftTiling.j2 k bt305.1 true x295000 x295001 bt305.2))))) else (some false)))))
def laws_FnExactShiftTiling.j2 : Nat → Int → Bool → Int → Int → List Int → Option (Bool)
  | 0, _, _, _, _, _ => none
  | k + 1, x14, x97, x295000, x295001, x295002 => if x97 = true then (some false) else ((laws_heldTiling.f k x295000 x295001 x295002 1).bind fun t321 => (if t321 < 0 then (some false) else (if t321 = x14 then (some true) else (some false))))
end
def laws_FnExactShiftTiling.f (k : Nat) (a0_0 : Int) (a0_1 : Int) (l0_2 : List Int) (a1 : Int) (a2 : Int) : Option (Bool) := (laws_szTiling.f a0_0 a0_1 l0_2 1048576).bind fun t269 => (if t269 < 0 then (some true) else ((laws_toTiling.f k a0_0 a0_1 l0_2).bind fun bt270 => ((spec_ShiftTiling.f k bt270.1 bt270.2.1 bt270.2.2 a1 a2).bind fun bt275 => ((laws_toTiling.f k a0_0 a0_1 l0_2).bind fun bt282 => ((impl_ShiftTiling.f k bt282.1 bt282.2.1 bt282.2.2 a1 a2).bind fun bt288 => ((laws_eqTiling.f k bt288.1 bt288.2.1 bt288.2.2.1 bt275.1 bt275.2.1 bt275.2.2.1).bind fun t295 => (if t295 = true then (laws_FnExactShiftTiling.j0 k a1 a2 bt275.2.2.2 bt288.2.2.2 (bt288.2.2.2 != bt275.2.2.2) a0_0 a0_1 l0_2 bt275.1 bt275.2.1 bt275.2.2.1 bt282.1 bt282.2.1 bt282.2.2 bt288.1 bt288.2.1 bt288.2.2.1) else (laws_FnExactShiftTiling.j0 k a1 a2 bt275.2.2.2 bt288.2.2.2 true a0_0 a0_1 l0_2 bt275.1 bt275.2.1 bt275.2.2.1 bt282.1 bt282.2.1 bt282.2.2 bt288.1 bt288.2.1 bt288.2.2.1))))))))
theorem laws_FnExactShiftTiling.mono_l : ∀ k, (∀ y0 y1 y2 y3 y4 y5 y6 y7 y8 y9 y10 y11 y12 y13 y14 y15 y16, LeO (laws_FnExactShiftTiling.j0 k y0 y1 y2 y3 y4 y5 y6 y7 y8 y9 y10 y11 y12 y13 y14 y15 y16) (laws_FnExactShiftTiling.j0 (k + 1) y0 y1 y2 y3 y4 y5 y6 y7 y8 y9 y10 y11 y12 y13 y14 y15 y16)) ∧ (∀ y0 y1 y2 y3 y4 y5 y6 y7 y8 y9 y10 y11 y12, LeO (laws_FnExactShiftTiling.j1 k y0 y1 y2 y3 y4 y5 y6 y7 y8 y9 y10 y11 y12) (laws_FnExactShiftTiling.j1 (k + 1) y0 y1 y2 y3 y4 y5 y6 y7 y8 y9 y10 y11 y12)) ∧ (∀ y0 y1 y2 y3 y4, LeO (laws_FnExactShiftTiling.j2 k y0 y1 y2 y3 y4) (laws_FnExactShiftTiling.j2 (k + 1) y0 y1 y2 y3 y4))
  | 0 => ⟨fun _ _ _ _ _ _ _ _ _ _ _ _ _ _ _ _ _ r h => by simp [laws_FnExactShiftTiling.j0] at h, fun _ _ _ _ _ _ _ _ _ _ _ _ _ r h => by simp [laws_FnExactShiftTiling.j1] at h, fun _ _ _ _ _ r h => by simp [laws_FnExactShiftTiling.j2] at h⟩
  | k + 1 => by
    obtain ⟨ih0, ih1, ih2⟩ := laws_FnExactShiftTiling.mono_l k
    refine ⟨?_, ?_, ?_⟩
    · intro y0 y1 y2 y3 y4 y5 y6 y7 y8 y9 y10 y11 y12 y13 y14 y15 y16
      unfold laws_FnExactShiftTiling.j0
      repeat' first
      | (with_reducible exact ih0 _ _ _ _ _ _ _ _ _ _ _ _ _ _ _ _ _)
      | (with_reducible exact ih1 _ _ _ _ _ _ _ _ _ _ _ _ _)
      | (with_reducible exact ih2 _ _ _ _ _)
      | (with_reducible exact impl_ShiftTiling.mono _ _ _ _ _ _)
      | (with_reducible exact laws_eqTiling.mono _ _ _ _ _ _ _)
      | (with_reducible exact laws_heldTiling.mono _ _ _ _ _)
      | (with_reducible exact laws_markTiling.mono _ _ _ _ _)
      | (with_reducible exact laws_toTiling.mono _ _ _ _)
      | (with_reducible exact spec_ShiftTiling.mono _ _ _ _ _ _)
      | (with_reducible exact LeO.refl _)
      | (with_reducible exact LeO.none _)
      | (with_reducible refine LeO.ite ?_ ?_)
      | (with_reducible refine LeO.bind ?_ (fun _ => ?_))
      | exact ih0 _ _ _ _ _ _ _ _ _ _ _ _ _ _ _ _ _
      | exact ih1 _ _ _ _ _ _ _ _ _ _ _ _ _
      | exact ih2 _ _ _ _ _
      | exact impl_ShiftTiling.mono _ _ _ _ _ _
      | exact laws_eqTiling.mono _ _ _ _ _ _ _
      | exact laws_heldTiling.mono _ _ _ _ _
      | exact laws_markTiling.mono _ _ _ _ _
      | exact laws_toTiling.mono _ _ _ _
      | exact spec_ShiftTiling.mono _ _ _ _ _ _
      | exact LeO.none _
      | refine LeO.ite ?_ ?_
      | refine LeO.bind ?_ (fun _ => ?_)
    · intro y0 y1 y2 y3 y4 y5 y6 y7 y8 y9 y10 y11 y12
      unfold laws_FnExactShiftTiling.j1
      repeat' first
      | (with_reducible exact ih0 _ _ _ _ _ _ _ _ _ _ _ _ _ _ _ _ _)
      | (with_reducible exact ih1 _ _ _ _ _ _ _ _ _ _ _ _ _)
      | (with_reducible exact ih2 _ _ _ _ _)
      | (with_reducible exact impl_ShiftTiling.mono _ _ _ _ _ _)
      | (with_reducible exact laws_eqTiling.mono _ _ _ _ _ _ _)
      | (with_reducible exact laws_heldTiling.mono _ _ _ _ _)
      | (with_reducible exact laws_markTiling.mono _ _ _ _ _)
      | (with_reducible exact laws_toTiling.mono _ _ _ _)
      | (with_reducible exact spec_ShiftTiling.mono _ _ _ _ _ _)
      | (with_reducible exact LeO.refl _)
      | (with_reducible exact LeO.none _)
      | (with_reducible refine LeO.ite ?_ ?_)
      | (with_reducible refine LeO.bind ?_ (fun _ => ?_))
      | exact ih0 _ _ _ _ _ _ _ _ _ _ _ _ _ _ _ _ _
      | exact ih1 _ _ _ _ _ _ _ _ _ _ _ _ _
      | exact ih2 _ _ _ _ _
      | exact impl_ShiftTiling.mono _ _ _ _ _ _
      | exact laws_eqTiling.mono _ _ _ _ _ _ _
      | exact laws_heldTiling.mono _ _ _ _ _
      | exact laws_markTiling.mono _ _ _ _ _
      | exact laws_toTiling.mono _ _ _ _
      | exact spec_ShiftTiling.mono _ _ _ _ _ _
      | exact LeO.none _
      | refine LeO.ite ?_ ?_
      | refine LeO.bind ?_ (fun _ => ?_)
    · intro y0 y1 y2 y3 y4
      unfold laws_FnExactShiftTiling.j2
      repeat' first
      | (with_reducible exact ih0 _ _ _ _ _ _ _ _ _ _ _ _ _ _ _ _ _)
      | (with_reducible exact ih1 _ _ _ _ _ _ _ _ _ _ _ _ _)
      | (with_reducible exact ih2 _ _ _ _ _)
      | (with_reducible exact impl_ShiftTiling.mono _ _ _ _ _ _)
      | (with_reducible exact laws_eqTiling.mono _ _ _ _ _ _ _)
      | (with_reducible exact laws_heldTiling.mono _ _ _ _ _)
      | (with_reducible exact laws_markTiling.mono _ _ _ _ _)
      | (with_reducible exact laws_toTiling.mono _ _ _ _)
      | (with_reducible exact spec_ShiftTiling.mono _ _ _ _ _ _)
      | (with_reducible exact LeO.refl _)
      | (with_reducible exact LeO.none _)
      | (with_reducible refine LeO.ite ?_ ?_)
      | (with_reducible refine LeO.bind ?_ (fun _ => ?_))
      | exact ih0 _ _ _ _ _ _ _ _ _ _ _ _ _ _ _ _ _
      | exact ih1 _ _ _ _ _ _ _ _ _ _ _ _ _
      | exact ih2 _ _ _ _ _
      | exact impl_ShiftTiling.mono _ _ _ _ _ _
      | exact laws_eqTiling.mono _ _ _ _ _ _ _
      | exact laws_heldTiling.mono _ _ _ _ _
      | exact laws_markTiling.mono _ _ _ _ _
      | exact laws_toTiling.mono _ _ _ _
      | exact spec_ShiftTiling.mono _ _ _ _ _ _
      | exact LeO.none _
      | refine LeO.ite ?_ ?_
      | refine LeO.bind ?_ (fun _ => ?_)
theorem laws_FnExactShiftTiling.mono : ∀ a0 a1 a2 a3 a4 k, LeO (laws_FnExactShiftTiling.f k a0 a1 a2 a3 a4) (laws_FnExactShiftTiling.f (k + 1) a0 a1 a2 a3 a4) := by
  intro a0 a1 a2 a3 a4 k
  obtain ⟨ih0, ih1, ih2⟩ := laws_FnExactShiftTiling.mono_l k
  unfold laws_FnExactShiftTiling.f
  repeat' first
      | (with_reducible exact ih0 _ _ _ _ _ _ _ _ _ _ _ _ _ _ _ _ _)
      | (with_reducible exact ih1 _ _ _ _ _ _ _ _ _ _ _ _ _)
      | (with_reducible exact ih2 _ _ _ _ _)
      | (with_reducible exact impl_ShiftTiling.mono _ _ _ _ _ _)
      | (with_reducible exact laws_eqTiling.mono _ _ _ _ _ _ _)
      | (with_reducible exact laws_heldTiling.mono _ _ _ _ _)
      | (with_reducible exact laws_markTiling.mono _ _ _ _ _)
      | (with_reducible exact laws_toTiling.mono _ _ _ _)
      | (with_reducible exact spec_ShiftTiling.mono _ _ _ _ _ _)
      | (with_reducible exact LeO.refl _)
      | (with_reducible exact LeO.none _)
      | (with_reducible refine LeO.ite ?_ ?_)
      | (with_reducible refine LeO.bind ?_ (fun _ => ?_))
      | exact ih0 _ _ _ _ _ _ _ _ _ _ _ _ _ _ _ _ _
      | exact ih1 _ _ _ _ _ _ _ _ _ _ _ _ _
      | exact ih2 _ _ _ _ _
      | exact impl_ShiftTiling.mono _ _ _ _ _ _
      | exact laws_eqTiling.mono _ _ _ _ _ _ _
      | exact laws_heldTiling.mono _ _ _ _ _
      | exact laws_markTiling.mono _ _ _ _ _
      | exact laws_toTiling.mono _ _ _ _
      | exact spec_ShiftTiling.mono _ _ _ _ _ _
      | exact LeO.none _
      | refine LeO.ite ?_ ?_
      | refine LeO.bind ?_ (fun _ => ?_)
open List renaming setIfInBounds_toArray → sA, set_cons_zero → sB, set_cons_succ → sC
open Go.Proofs.YtnidibnhojedoaaW.PrintWords.Aside0 renaming mk → mkA
open Go.Proofs.YtnidibnhojedoaaX (bc_ p0_ p1_ bl_ cb_ bs0_ bs1_ bs2_ bs3_ bs4_ bs5_ bs6_ bs7_ bs8_ bs9_ bs10_ bs11_ bs12_)
set_option maxHeartbeats 8000000 in
set_option maxRecDepth 100000 in
theorem laws_FnExactShiftTiling.calls (k : Nat) (a0_0 : Int) (a0_1 : Int) (A0_2 : Option Addr) (c0_2 : Nat) (l0_2 : List Int) (a1 : Int) (a2 : Int) (r : Bool) (w : World) (hr0_2 : Kd.C (Kd.int .i64) w A0_2 l0_2.length l0_2) (hc0_2 : l0_2.length ≤ c0_2) (h : laws_FnExactShiftTiling.f k a0_0 a0_1 l0_2 a1 a2 = some r) :
 Calls Try.prog 6 #[.agg #[.int .i64 a0_0, .int .i64 a0_1, .slice A0_2 l0_2.length c0_2], .int .i64 a1, .int .i64 a2] w fun e w' => e = .returned (.bool r) ∧ Below w.heap.size w w' := by
 have hu24 := Try.underlying24
 have hu29 := Try.underlying29
 have HR0_2 := mkA hr0_2
 have HC0_2 := mkA hc0_2
 clear hr0_2 hc0_2
 have HB := mkA (Below.refl w.heap.size w)
 have H : ((laws_szTiling.f a0_0 a0_1 l0_2 1048576).bind fun t269 => (if t269 < 0 then (some true) else ((laws_toTiling.f k a0_0 a0_1 l0_2).bind fun bt270 => ((spec_ShiftTiling.f k bt270.1 bt270.2.1 bt270.2.2 a1 a2).bind fun bt275 => ((laws_toTiling.f k a0_0 a0_1 l0_2).bind fun bt282 => ((impl_ShiftTiling.f k bt282.1 bt282.2.1 bt282.2.2 a1 a2).bind fun bt288 => ((laws_eqTiling.f k bt288.1 bt288.2.1 bt288.2.2.1 bt275.1 bt275.2.1 bt275.2.2.1).bind fun t295 => (if t295 = true then (laws_FnExactShiftTiling.j0 k a1 a2 bt275.2.2.2 bt288.2.2.2 (bt288.2.2.2 != bt275.2.2.2) a0_0 a0_1 l0_2 bt275.1 bt275.2.1 bt275.2.2.1 bt282.1 bt282.2.1 bt282.2.2 bt288.1 bt288.2.1 bt288.2.2.1) else (laws_FnExactShiftTiling.j0 k a1 a2 bt275.2.2.2 bt288.2.2.2 true a0_0 a0_1 l0_2 bt275.1 bt275.2.1 bt275.2.2.1 bt282.1 bt282.2.1 bt282.2.2 bt288.1 bt288.2.1 bt288.2.2.1))))))))) = some r := h
 clear h
 replace H := Option.bind_eq_some_iff.mp H
 obtain ⟨t269, A40, H⟩ := H
 replace H : (if t269 < 0 then (some true) else ((laws_toTiling.f k a0_0 a0_1 l0_2).bind fun bt270 => ((spec_ShiftTiling.f k bt270.1 bt270.2.1 bt270.2.2 a1 a2).bind fun bt275 => ((laws_toTiling.f k a0_0 a0_1 l0_2).bind fun bt282 => ((impl_ShiftTiling.f k bt282.1 bt282.2.1 bt282.2.2 a1 a2).bind fun bt288 => ((laws_eqTiling.f k bt288.1 bt288.2.1 bt288.2.2.1 bt275.1 bt275.2.1 bt275.2.2.1).bind fun t295 => (if t295 = true then (laws_FnExactShiftTiling.j0 k a1 a2 bt275.2.2.2 bt288.2.2.2 (bt288.2.2.2 != bt275.2.2.2) a0_0 a0_1 l0_2 bt275.1 bt275.2.1 bt275.2.2.1 bt282.1 bt282.2.1 bt282.2.2 bt288.1 bt288.2.1 bt288.2.2.1) else (laws_FnExactShiftTiling.j0 k a1 a2 bt275.2.2.2 bt288.2.2.2 true a0_0 a0_1 l0_2 bt275.1 bt275.2.1 bt275.2.2.1 bt282.1 bt282.2.1 bt282.2.2 bt288.1 bt288.2.1 bt288.2.2.1)))))))) = some r := H
 have A4 := mkA A40
 clear A40
 by_cases c5 : t269 < 0
 · rw [if_pos c5] at H
   have c5b0 : decide (t269 < 0) = true := decide_eq_true c5
   clear c5
   obtain rfl := Option.some.inj H
   go_enter Try.func6, Try.ntmps6
   go_wp2_with (first | ((with_reducible refine gate_dst (N := 3) rfl ?_); refine box_event ?hg (N := 3) ?hd (cs := #[.int .i64 a0_0, .int .i64 a0_1, .slice A0_2 l0_2.length c0_2]) (t := 24) ?hr ?_; (case hd => rfl); (case hg => rfl); (case hr => first | (go_simp; done) | (go_simp; rfl)); intro gb268 hg w6 hbox hb; have n0_ := mkA (below_step (bs0_ HB.out) hb); have n1_ := mkA (hbox); have n2_ := mkA ((by rw [hg]; exact (below_size (bs0_ HB.out)) : w.heap.size ≤ gb268)); have n3_ := mkA ((by rw [hg]; exact (below_size (bs0_ HB.out)) : w.heap.size ≤ gb268)); clear HB; have HB := n0_; have BK268 := n1_; have GW268 := n2_; have GE268 := n3_; clear n0_ n1_ n2_ n3_; clear hb hbox hg; have hcz7_0 : w6.cell? ⟨gb268, 0, none⟩ = some (.int .i64 a0_0) := (blk_cell BK268.out 0).trans rfl; have hcz7_1 : w6.cell? ⟨gb268, 1, none⟩ = some (.int .i64 a0_1) := (blk_cell BK268.out 1).trans rfl; have hcz7_2 : w6.cell? ⟨gb268, 2, none⟩ = some (.slice A0_2 l0_2.length c0_2) := (blk_cell BK268.out 2).trans rfl; have hfz7_0 := blk_frozen BK268.out 0; have hfz7_1 := blk_frozen BK268.out 1; have hfz7_2 := blk_frozen BK268.out 2) | ((with_reducible refine gate_callee (f := 15) rfl ?_); refine goesL_ (some 20) rfl rfl Try.func15 (by kernel_rfl) rfl #[.agg #[.int .i64 a0_0, .int .i64 a0_1, .slice A0_2 l0_2.length c0_2], .int .i64 1048576] rfl (by (try simp only [List.map_toArray, List.map_cons, List.map_nil]); first | done | rfl | (simp only [List.length_drop, List.length_take]; rfl)) ?_; (with_reducible refine (laws_szTiling.calls a0_0 a0_1 _ _ l0_2 1048576 t269 _ ?side1 ?side2 A4.out).mono ?_); (case side1 => exact cb_ HR0_2.out HB.out); (case side2 => exact HC0_2.out); rintro e w8 ⟨rfl, hb⟩; refine ⟨_, rfl, ?_⟩; have n0_ := mkA (blk_below (g := gb268) (o := .cells #[.int .i64 a0_0, .int .i64 a0_1, .slice A0_2 l0_2.length c0_2] 24 (0, 0)) (bl_ BK268.out) hb); have n1_ := mkA (below_step (bs1_ HB.out GE268.out) hb); clear BK268; clear HB; have BK268 := n0_; have HB := n1_; clear n0_ n1_; (try clear hb); (try clear hb2); (try clear hk); (try clear hi)))
   go_ret
   exact ⟨by first | rfl | (simp [errW_none, errW_some] <;> rfl) | (simp [*, errW_none, errW_some] <;> rfl), by repeat (first | (with_reducible first | exact HB.out | apply below_alloc | apply pw_below_drewN | apply below_drew1 | refine below_set ?_ GE268.out) | exact HB.out)⟩
 · rw [if_neg c5] at H
   have c5b0 : decide (t269 < 0) = false := decide_eq_false c5
   clear c5
   replace H := Option.bind_eq_some_iff.mp H
   obtain ⟨⟨t270, t271, t272⟩, A90, H⟩ := H
   replace H : ((spec_ShiftTiling.f k t270 t271 t272 a1 a2).bind fun bt275 => ((laws_toTiling.f k a0_0 a0_1 l0_2).bind fun bt282 => ((impl_ShiftTiling.f k bt282.1 bt282.2.1 bt282.2.2 a1 a2).bind fun bt288 => ((laws_eqTiling.f k bt288.1 bt288.2.1 bt288.2.2.1 bt275.1 bt275.2.1 bt275.2.2.1).bind fun t295 => (if t295 = true then (laws_FnExactShiftTiling.j0 k a1 a2 bt275.2.2.2 bt288.2.2.2 (bt288.2.2.2 != bt275.2.2.2) a0_0 a0_1 l0_2 bt275.1 bt275.2.1 bt275.2.2.1 bt282.1 bt282.2.1 bt282.2.2 bt288.1 bt288.2.1 bt288.2.2.1) else (laws_FnExactShiftTiling.j0 k a1 a2 bt275.2.2.2 bt288.2.2.2 true a0_0 a0_1 l0_2 bt275.1 bt275.2.1 bt275.2.2.1 bt282.1 bt282.2.1 bt282.2.2 bt288.1 bt288.2.1 bt288.2.2.1)))))) = some r := H
   have A9 := mkA A90
   clear A90
   replace H := Option.bind_eq_some_iff.mp H
   obtain ⟨⟨t275, t276, t277, t280⟩, A100, H⟩ := H
   replace H : ((laws_toTiling.f k a0_0 a0_1 l0_2).bind fun bt282 => ((impl_ShiftTiling.f k bt282.1 bt282.2.1 bt282.2.2 a1 a2).bind fun bt288 => ((laws_eqTiling.f k bt288.1 bt288.2.1 bt288.2.2.1 t275 t276 t277).bind fun t295 => (if t295 = true then (laws_FnExactShiftTiling.j0 k a1 a2 t280 bt288.2.2.2 (bt288.2.2.2 != t280) a0_0 a0_1 l0_2 t275 t276 t277 bt282.1 bt282.2.1 bt282.2.2 bt288.1 bt288.2.1 bt288.2.2.1) else (laws_FnExactShiftTiling.j0 k a1 a2 t280 bt288.2.2.2 true a0_0 a0_1 l0_2 t275 t276 t277 bt282.1 bt282.2.1 bt282.2.2 bt288.1 bt288.2.1 bt288.2.2.1))))) = some r := H
   have A10 := mkA A100
   clear A100
   replace H := Option.bind_eq_some_iff.mp H
   obtain ⟨⟨t282, t283, t284⟩, A110, H⟩ := H
   replace H : ((impl_ShiftTiling.f k t282 t283 t284 a1 a2).bind fun bt288 => ((laws_eqTiling.f k bt288.1 bt288.2.1 bt288.2.2.1 t275 t276 t277).bind fun t295 => (if t295 = true then (laws_FnExactShiftTiling.j0 k a1 a2 t280 bt288.2.2.2 (bt288.2.2.2 != t280) a0_0 a0_1 l0_2 t275 t276 t277 t282 t283 t284 bt288.1 bt288.2.1 bt288.2.2.1) else (laws_FnExactShiftTiling.j0 k a1 a2 t280 bt288.2.2.2 true a0_0 a0_1 l0_2 t275 t276 t277 t282 t283 t284 bt288.1 bt288.2.1 bt288.2.2.1)))) = some r := H
   have A11 := mkA A110
   clear A110
   replace H := Option.bind_eq_some_iff.mp H
   obtain ⟨⟨t288, t289, t290, t293⟩, A120, H⟩ := H
   replace H : ((laws_eqTiling.f k t288 t289 t290 t275 t276 t277).bind fun t295 => (if t295 = true then (laws_FnExactShiftTiling.j0 k a1 a2 t280 t293 (t293 != t280) a0_0 a0_1 l0_2 t275 t276 t277 t282 t283 t284 t288 t289 t290) else (laws_FnExactShiftTiling.j0 k a1 a2 t280 t293 true a0_0 a0_1 l0_2 t275 t276 t277 t282 t283 t284 t288 t289 t290))) = some r := H
   have A12 := mkA A120
   clear A120
   have HC13 := mkA H
   clear H
   go_enter Try.func6, Try.ntmps6
   go_upto_region 8 with (first | ((with_reducible refine gate_dst (N := 3) rfl ?_); refine box_event ?hg (N := 3) ?hd (cs := #[.int .i64 a0_0, .int .i64 a0_1, .slice A0_2 l0_2.length c0_2]) (t := 24) ?hr ?_; (case hd => rfl); (case hg => rfl); (case hr => first | (go_simp; done) | (go_simp; rfl)); intro gb268 hg w14 hbox hb; have n0_ := mkA (below_step (bs0_ HB.out) hb); have n1_ := mkA (hbox); have n2_ := mkA ((by rw [hg]; exact (below_size (bs0_ HB.out)) : w.heap.size ≤ gb268)); have n3_ := mkA ((by rw [hg]; exact (below_size (bs0_ HB.out)) : w.heap.size ≤ gb268)); clear HB; have HB := n0_; have BK268 := n1_; have GW268 := n2_; have GE268 := n3_; clear n0_ n1_ n2_ n3_; clear hb hbox hg; have hcz15_0 : w14.cell? ⟨gb268, 0, none⟩ = some (.int .i64 a0_0) := (blk_cell BK268.out 0).trans rfl; have hcz15_1 : w14.cell? ⟨gb268, 1, none⟩ = some (.int .i64 a0_1) := (blk_cell BK268.out 1).trans rfl; have hcz15_2 : w14.cell? ⟨gb268, 2, none⟩ = some (.slice A0_2 l0_2.length c0_2) := (blk_cell BK268.out 2).trans rfl; have hfz15_0 := blk_frozen BK268.out 0; have hfz15_1 := blk_frozen BK268.out 1; have hfz15_2 := blk_frozen BK268.out 2) | ((with_reducible refine gate_callee (f := 15) rfl ?_); refine goesL_ (some 20) rfl rfl Try.func15 (by kernel_rfl) rfl #[.agg #[.int .i64 a0_0, .int .i64 a0_1, .slice A0_2 l0_2.length c0_2], .int .i64 1048576] rfl (by (try simp only [List.map_toArray, List.map_cons, List.map_nil]); first | done | rfl | (simp only [List.length_drop, List.length_take]; rfl)) ?_; (with_reducible refine (laws_szTiling.calls a0_0 a0_1 _ _ l0_2 1048576 t269 _ ?side1 ?side2 A4.out).mono ?_); (case side1 => exact cb_ HR0_2.out HB.out); (case side2 => exact HC0_2.out); rintro e w16 ⟨rfl, hb⟩; refine ⟨_, rfl, ?_⟩; have n0_ := mkA (blk_below (g := gb268) (o := .cells #[.int .i64 a0_0, .int .i64 a0_1, .slice A0_2 l0_2.length c0_2] 24 (0, 0)) (bl_ BK268.out) hb); have n1_ := mkA (below_step (bs1_ HB.out GE268.out) hb); clear BK268; clear HB; have BK268 := n0_; have HB := n1_; clear n0_ n1_; (try clear hb); (try clear hb2); (try clear hk); (try clear hi); have hcz17_0 : w16.cell? ⟨gb268, 0, none⟩ = some (.int .i64 a0_0) := (blk_cell BK268.out 0).trans rfl; have hcz17_1 : w16.cell? ⟨gb268, 1, none⟩ = some (.int .i64 a0_1) := (blk_cell BK268.out 1).trans rfl; have hcz17_2 : w16.cell? ⟨gb268, 2, none⟩ = some (.slice A0_2 l0_2.length c0_2) := (blk_cell BK268.out 2).trans rfl; have hfz17_0 := blk_frozen BK268.out 0; have hfz17_1 := blk_frozen BK268.out 1; have hfz17_2 := blk_frozen BK268.out 2) | ((with_reducible refine gate_callee (f := 17) rfl ?_); refine goesL_ (some 25) rfl rfl Try.func17 (by kernel_rfl) rfl #[.agg #[.int .i64 a0_0, .int .i64 a0_1, .slice A0_2 l0_2.length c0_2]] rfl (by (try simp only [List.map_toArray, List.map_cons, List.map_nil]); first | done | rfl | (simp only [List.length_drop, List.length_take]; rfl)) ?_; (with_reducible refine (laws_toTiling.calls k a0_0 a0_1 _ _ l0_2 t270 t271 t272 _ ?side1 ?side2 A9.out).mono ?_); (case side1 => exact cb_ HR0_2.out HB.out); (case side2 => exact HC0_2.out); rintro e w18 ⟨v273, rfl, ho0, hb⟩; refine ⟨_, rfl, ?_⟩; have n0_ := mkA (Kd.R_lower ho0 (below_size (bs1_ HB.out GE268.out))); have n1_ := mkA (blk_below (g := gb268) (o := .cells #[.int .i64 a0_0, .int .i64 a0_1, .slice A0_2 l0_2.length c0_2] 24 (0, 0)) (bl_ BK268.out) hb); have n2_ := mkA (below_step (bs1_ HB.out GE268.out) hb); clear BK268; clear HB; have HO274 := n0_; have BK268 := n1_; have HB := n2_; clear n0_ n1_ n2_; (try clear hb); (try clear hb2); (try clear hk); (try clear hi); (try clear ho0); obtain ⟨Ao19, co19, eo19⟩ := Kd.R_slice HO274.out; subst eo19) | ((with_reducible refine gate_callee (f := 29) rfl ?_); refine goesL_ (some 28) rfl rfl Try.func29 (by kernel_rfl) rfl #[.agg #[.int .i64 t270, .int .i64 t271, .slice Ao19 t272.length co19], .int .i64 a1, .int .i64 a2] rfl (by (try simp only [List.map_toArray, List.map_cons, List.map_nil]); first | done | rfl | (simp only [List.length_drop, List.length_take]; rfl)) ?_; (with_reducible refine (spec_ShiftTiling.calls k t270 t271 _ _ t272 a1 a2 t275 t276 t277 t280 _ ?side1 ?side2 A10.out).mono ?_); (case side1 => repeat (first | exact (Kd.R_reads' HO274.out).2.2 | (with_reducible refine Kd.C_alloc ?_ _) | (with_reducible refine Kd.C_drewN ?_ _) | (with_reducible refine Kd.C_drew ?_))); (case side2 => exact (Kd.R_reads' HO274.out).2.1); rintro e w20 ⟨v278, rfl, ho0, hb⟩; refine ⟨_, rfl, ?_⟩; have n0_ := mkA (Kd.R_elder' (by (with_reducible repeat (first | apply Kd.R_alloc | apply Kd.R_drewN | apply Kd.R_drew)); exact HO274.out) (Kd.R_base ho0) hb); have n1_ := mkA (Kd.R_lower (Kd.R_new' ho0 (Kd.R_lt (by (with_reducible repeat (first | apply Kd.R_alloc | apply Kd.R_drewN | apply Kd.R_drew)); exact HO274.out))) (below_size (bs1_ HB.out GE268.out))); have n2_ := mkA (blk_below (g := gb268) (o := .cells #[.int .i64 a0_0, .int .i64 a0_1, .slice A0_2 l0_2.length c0_2] 24 (0, 0)) (bl_ BK268.out) hb); have n3_ := mkA (below_step (bs1_ HB.out GE268.out) hb); clear HO274; clear BK268; clear HB; have HO274 := n0_; have HO279 := n1_; have BK268 := n2_; have HB := n3_; clear n0_ n1_ n2_ n3_; (try clear hb); (try clear hb2); (try clear hk); (try clear hi); (try clear ho0)) | ((with_reducible refine gate_dst (N := 8) rfl ?_); refine box_event ?hg (N := 8) ?hd (cs := #[.int .i64 0, .int .i64 0, .slice none 0 0]) (t := 29) ?hr ?_; (case hd => rfl); (case hg => rfl); (case hr => first | (go_simp; done) | (go_simp; rfl)); intro gb281 hg w21 hbox hb; have n0_ := mkA (Kd.R_below (by (with_reducible repeat (first | apply Kd.R_alloc | apply Kd.R_drewN | apply Kd.R_drew)); exact HO274.out) hb); have n1_ := mkA (Kd.R_below (by (with_reducible repeat (first | apply Kd.R_alloc | apply Kd.R_drewN | apply Kd.R_drew)); exact HO279.out) hb); have n2_ := mkA (blk_below (g := gb268) (o := .cells #[.int .i64 a0_0, .int .i64 a0_1, .slice A0_2 l0_2.length c0_2] 24 (0, 0)) (bl_ BK268.out) hb); have n3_ := mkA (below_step (bs1_ HB.out GE268.out) hb); have n4_ := mkA (hbox); have n5_ := mkA ((by rw [hg]; exact (below_size (bs1_ HB.out GE268.out)) : w.heap.size ≤ gb281)); have n6_ := mkA ((by rw [hg]; exact (below_size (bs1_ HB.out GE268.out)) : w.heap.size ≤ gb281)); have n7_ := mkA ((by rw [hg]; exact Nat.ne_of_lt (blk_lt (g := gb268) (o := .cells #[.int .i64 a0_0, .int .i64 a0_1, .slice A0_2 l0_2.length c0_2] 24 (0, 0)) (bl_ BK268.out)) : gb268 ≠ gb281)); have n8_ := mkA ((by rw [hg]; exact Nat.ne_of_gt (blk_lt (g := gb268) (o := .cells #[.int .i64 a0_0, .int .i64 a0_1, .slice A0_2 l0_2.length c0_2] 24 (0, 0)) (bl_ BK268.out)) : gb281 ≠ gb268)); clear HO274; clear HO279; clear BK268; clear HB; have HO274 := n0_; have HO279 := n1_; have BK268 := n2_; have HB := n3_; have BK281 := n4_; have GW281 := n5_; have GE281 := n6_; have NB268_281 := n7_; have NB281_268 := n8_; clear n0_ n1_ n2_ n3_ n4_ n5_ n6_ n7_ n8_; clear hb hbox hg; have hnb22 := NB281_268.out; have hnc22 := NB268_281.out; have hcz23_0 : w21.cell? ⟨gb281, 0, none⟩ = some (.int .i64 0) := (blk_cell BK281.out 0).trans rfl; have hcz23_1 : w21.cell? ⟨gb281, 1, none⟩ = some (.int .i64 0) := (blk_cell BK281.out 1).trans rfl; have hcz23_2 : w21.cell? ⟨gb281, 2, none⟩ = some (.slice none 0 0) := (blk_cell BK281.out 2).trans rfl; have hfz23_0 := blk_frozen BK281.out 0; have hfz23_1 := blk_frozen BK281.out 1; have hfz23_2 := blk_frozen BK281.out 2; obtain ⟨Ao24, co24, eo24⟩ := Kd.R_slice HO279.out; subst eo24; have hcz25_0 : w21.cell? ⟨gb268, 0, none⟩ = some (.int .i64 a0_0) := (blk_cell BK268.out 0).trans rfl; have hcz25_1 : w21.cell? ⟨gb268, 1, none⟩ = some (.int .i64 a0_1) := (blk_cell BK268.out 1).trans rfl; have hcz25_2 : w21.cell? ⟨gb268, 2, none⟩ = some (.slice A0_2 l0_2.length c0_2) := (blk_cell BK268.out 2).trans rfl; have hfz25_0 := blk_frozen BK268.out 0; have hfz25_1 := blk_frozen BK268.out 1; have hfz25_2 := blk_frozen BK268.out 2) | ((with_reducible refine gate_callee (f := 17) rfl ?_); refine goesL_ (some 32) rfl rfl Try.func17 (by kernel_rfl) rfl #[.agg #[.int .i64 a0_0, .int .i64 a0_1, .slice A0_2 l0_2.length c0_2]] rfl (by (try simp only [List.map_toArray, List.map_cons, List.map_nil]); first | done | rfl | (simp only [List.length_drop, List.length_take]; rfl)) ?_; (with_reducible refine (laws_toTiling.calls k a0_0 a0_1 _ _ l0_2 t282 t283 t284 _ ?side1 ?side2 A11.out).mono ?_); (case side1 => exact Kd.C_below HR0_2.out (bs2_ HB.out GE268.out GE281.out)); (case side2 => exact HC0_2.out); rintro e w26 ⟨v285, rfl, ho0, hb⟩; refine ⟨_, rfl, ?_⟩; have n0_ := mkA (Kd.R_elder' (by (with_reducible repeat (first | apply Kd.R_alloc | apply Kd.R_drewN | apply Kd.R_drew)); exact (Kd.R_mono (Kd.R_far (p := ⟨gb281, 2, none⟩) (Kd.R_far (p := ⟨gb281, 1, none⟩) (Kd.R_far (p := ⟨gb281, 0, none⟩) (Kd.R_types HO274.out BK281.out (by decide)) (fun _ hk => hk.2) (.int .i64 t275)) (fun _ hk => hk.2) (.int .i64 t276)) (fun _ hk => hk.2) (.slice Ao24 t277.length co24)) (fun _ h_ => h_.1))) (Kd.R_base ho0) hb); have n1_ := mkA (Kd.R_elder' (by (with_reducible repeat (first | apply Kd.R_alloc | apply Kd.R_drewN | apply Kd.R_drew)); exact (Kd.R_mono (Kd.R_far (p := ⟨gb281, 2, none⟩) (Kd.R_far (p := ⟨gb281, 1, none⟩) (Kd.R_far (p := ⟨gb281, 0, none⟩) (Kd.R_types HO279.out BK281.out (by decide)) (fun _ hk => hk.2) (.int .i64 t275)) (fun _ hk => hk.2) (.int .i64 t276)) (fun _ hk => hk.2) (.slice Ao24 t277.length co24)) (fun _ h_ => h_.1))) (Kd.R_base ho0) hb); have n2_ := mkA (Kd.R_lower (Kd.R_new' (Kd.R_new' ho0 (Kd.R_lt (by (with_reducible repeat (first | apply Kd.R_alloc | apply Kd.R_drewN | apply Kd.R_drew)); exact (Kd.R_mono (Kd.R_far (p := ⟨gb281, 2, none⟩) (Kd.R_far (p := ⟨gb281, 1, none⟩) (Kd.R_far (p := ⟨gb281, 0, none⟩) (Kd.R_types HO274.out BK281.out (by decide)) (fun _ hk => hk.2) (.int .i64 t275)) (fun _ hk => hk.2) (.int .i64 t276)) (fun _ hk => hk.2) (.slice Ao24 t277.length co24)) (fun _ h_ => h_.1))))) (Kd.R_lt (by (with_reducible repeat (first | apply Kd.R_alloc | apply Kd.R_drewN | apply Kd.R_drew)); exact (Kd.R_mono (Kd.R_far (p := ⟨gb281, 2, none⟩) (Kd.R_far (p := ⟨gb281, 1, none⟩) (Kd.R_far (p := ⟨gb281, 0, none⟩) (Kd.R_types HO279.out BK281.out (by decide)) (fun _ hk => hk.2) (.int .i64 t275)) (fun _ hk => hk.2) (.int .i64 t276)) (fun _ hk => hk.2) (.slice Ao24 t277.length co24)) (fun _ h_ => h_.1))))) (below_size (bs2_ HB.out GE268.out GE281.out))); have n3_ := mkA (blk_below (g := gb268) (o := .cells #[.int .i64 a0_0, .int .i64 a0_1, .slice A0_2 l0_2.length c0_2] 24 (0, 0)) (by (with_reducible repeat (first | refine blk_drewN ?_ _ | refine blk_drew ?_ | refine blk_alloc ?_ _)); refine blk_far ?_ NB268_281.out _; (with_reducible repeat (first | refine blk_drewN ?_ _ | refine blk_drew ?_ | refine blk_alloc ?_ _)); refine blk_far ?_ NB268_281.out _; (with_reducible repeat (first | refine blk_drewN ?_ _ | refine blk_drew ?_ | refine blk_alloc ?_ _)); refine blk_far ?_ NB268_281.out _; (with_reducible repeat (first | refine blk_drewN ?_ _ | refine blk_drew ?_ | refine blk_alloc ?_ _)); exact BK268.out) hb); have n4_ := mkA (blk_below (g := gb281) (o := .cells #[.int .i64 t275, .int .i64 t276, .slice Ao24 t277.length co24] 29 (0, 0)) (by (with_reducible repeat (first | refine blk_drewN ?_ _ | refine blk_drew ?_ | refine blk_alloc ?_ _)); refine blk_put (cs := #[.int .i64 t275, .int .i64 t276, .slice none 0 0]) ?_ 2 _ rfl; (with_reducible repeat (first | refine blk_drewN ?_ _ | refine blk_drew ?_ | refine blk_alloc ?_ _)); refine blk_put (cs := #[.int .i64 t275, .int .i64 0, .slice none 0 0]) ?_ 1 _ rfl; (with_reducible repeat (first | refine blk_drewN ?_ _ | refine blk_drew ?_ | refine blk_alloc ?_ _)); refine blk_put (cs := #[.int .i64 0, .int .i64 0, .slice none 0 0]) ?_ 0 _ rfl; (with_reducible repeat (first | refine blk_drewN ?_ _ | refine blk_drew ?_ | refine blk_alloc ?_ _)); exact BK281.out) hb); have n5_ := mkA (below_step (bs2_ HB.out GE268.out GE281.out) hb); clear HO274; clear HO279; clear BK268; clear BK281; clear HB; have HO274 := n0_; have HO279 := n1_; have HO286 := n2_; have BK268 := n3_; have BK281 := n4_; have HB := n5_; clear n0_ n1_ n2_ n3_ n4_ n5_; (try clear hb); (try clear hb2); (try clear hk); (try clear hi); (try clear ho0)) | ((with_reducible refine gate_dst (N := 10) rfl ?_); refine box_event ?hg (N := 10) ?hd (cs := #[.int .i64 0, .int .i64 0, .slice none 0 0]) (t := 29) ?hr ?_; (case hd => rfl); (case hg => rfl); (case hr => first | (go_simp; done) | (go_simp; rfl)); intro gb287 hg w27 hbox hb; have n0_ := mkA (Kd.R_below (by (with_reducible repeat (first | apply Kd.R_alloc | apply Kd.R_drewN | apply Kd.R_drew)); exact HO274.out) hb); have n1_ := mkA (Kd.R_below (by (with_reducible repeat (first | apply Kd.R_alloc | apply Kd.R_drewN | apply Kd.R_drew)); exact HO279.out) hb); have n2_ := mkA (Kd.R_below (by (with_reducible repeat (first | apply Kd.R_alloc | apply Kd.R_drewN | apply Kd.R_drew)); exact HO286.out) hb); have n3_ := mkA (blk_below (g := gb268) (o := .cells #[.int .i64 a0_0, .int .i64 a0_1, .slice A0_2 l0_2.length c0_2] 24 (0, 0)) (bl_ BK268.out) hb); have n4_ := mkA (blk_below (g := gb281) (o := .cells #[.int .i64 t275, .int .i64 t276, .slice Ao24 t277.length co24] 29 (0, 0)) (bl_ BK281.out) hb); have n5_ := mkA (below_step (bs2_ HB.out GE268.out GE281.out) hb); have n6_ := mkA (hbox); have n7_ := mkA ((by rw [hg]; exact (below_size (bs2_ HB.out GE268.out GE281.out)) : w.heap.size ≤ gb287)); have n8_ := mkA ((by rw [hg]; exact (below_size (bs2_ HB.out GE268.out GE281.out)) : w.heap.size ≤ gb287)); have n9_ := mkA ((by rw [hg]; exact Nat.ne_of_lt (blk_lt (g := gb268) (o := .cells #[.int .i64 a0_0, .int .i64 a0_1, .slice A0_2 l0_2.length c0_2] 24 (0, 0)) (bl_ BK268.out)) : gb268 ≠ gb287)); have n10_ := mkA ((by rw [hg]; exact Nat.ne_of_gt (blk_lt (g := gb268) (o := .cells #[.int .i64 a0_0, .int .i64 a0_1, .slice A0_2 l0_2.length c0_2] 24 (0, 0)) (bl_ BK268.out)) : gb287 ≠ gb268)); have n11_ := mkA ((by rw [hg]; exact Nat.ne_of_lt (blk_lt (g := gb281) (o := .cells #[.int .i64 t275, .int .i64 t276, .slice Ao24 t277.length co24] 29 (0, 0)) (bl_ BK281.out)) : gb281 ≠ gb287)); have n12_ := mkA ((by rw [hg]; exact Nat.ne_of_gt (blk_lt (g := gb281) (o := .cells #[.int .i64 t275, .int .i64 t276, .slice Ao24 t277.length co24] 29 (0, 0)) (bl_ BK281.out)) : gb287 ≠ gb281)); clear HO274; clear HO279; clear HO286; clear BK268; clear BK281; clear HB; have HO274 := n0_; have HO279 := n1_; have HO286 := n2_; have BK268 := n3_; have BK281 := n4_; have HB := n5_; have BK287 := n6_; have GW287 := n7_; have GE287 := n8_; have NB268_287 := n9_; have NB287_268 := n10_; have NB281_287 := n11_; have NB287_281 := n12_; clear n0_ n1_ n2_ n3_ n4_ n5_ n6_ n7_ n8_ n9_ n10_ n11_ n12_; clear hb hbox hg; have hnb28 := NB287_268.out; have hnc28 := NB268_287.out; have hnb29 := NB287_281.out; have hnc29 := NB281_287.out; have hcz30_0 : w27.cell? ⟨gb287, 0, none⟩ = some (.int .i64 0) := (blk_cell BK287.out 0).trans rfl; have hcz30_1 : w27.cell? ⟨gb287, 1, none⟩ = some (.int .i64 0) := (blk_cell BK287.out 1).trans rfl; have hcz30_2 : w27.cell? ⟨gb287, 2, none⟩ = some (.slice none 0 0) := (blk_cell BK287.out 2).trans rfl; have hfz30_0 := blk_frozen BK287.out 0; have hfz30_1 := blk_frozen BK287.out 1; have hfz30_2 := blk_frozen BK287.out 2; obtain ⟨Ao31, co31, eo31⟩ := Kd.R_slice HO286.out; subst eo31) | ((with_reducible refine gate_callee (f := 30) rfl ?_); refine goesL_ (some 37) rfl rfl Try.func30 (by kernel_rfl) rfl #[.agg #[.int .i64 t282, .int .i64 t283, .slice Ao31 t284.length co31], .int .i64 a1, .int .i64 a2] rfl (by (try simp only [List.map_toArray, List.map_cons, List.map_nil]); first | done | rfl | (simp only [List.length_drop, List.length_take]; rfl)) ?_; (with_reducible refine (impl_ShiftTiling.calls k t282 t283 _ _ t284 a1 a2 t288 t289 t290 t293 _ ?side1 ?side2 A12.out).mono ?_); (case side1 => refine (Kd.R_reads' (e := 2) (base := w.heap.size) (ok := fun k_ => ((True ∧ some k_ ≠ (.slice Ao19 t272.length co19 : Value).ownBlock) ∧ some k_ ≠ (.slice Ao24 t277.length co24 : Value).ownBlock)) (n := t284.length) (c := co31) ?_).2.2; exact (by (with_reducible repeat (first | apply Kd.R_alloc | apply Kd.R_drewN | apply Kd.R_drew)); exact (Kd.R_mono (Kd.R_far (p := ⟨gb287, 2, none⟩) (Kd.R_far (p := ⟨gb287, 1, none⟩) (Kd.R_far (p := ⟨gb287, 0, none⟩) (Kd.R_types HO286.out BK287.out (by decide)) (fun _ hk => hk.2) (.int .i64 t282)) (fun _ hk => hk.2) (.int .i64 t283)) (fun _ hk => hk.2) (.slice Ao31 t284.length co31)) (fun _ h_ => h_.1)))); (case side2 => exact (Kd.R_reads' HO286.out).2.1); rintro e w32 ⟨v291, rfl, ho0, hb⟩; refine ⟨_, rfl, ?_⟩; have n0_ := mkA (Kd.R_elder' (by (with_reducible repeat (first | apply Kd.R_alloc | apply Kd.R_drewN | apply Kd.R_drew)); exact (Kd.R_mono (Kd.R_far (p := ⟨gb287, 2, none⟩) (Kd.R_far (p := ⟨gb287, 1, none⟩) (Kd.R_far (p := ⟨gb287, 0, none⟩) (Kd.R_types HO274.out BK287.out (by decide)) (fun _ hk => hk.2) (.int .i64 t282)) (fun _ hk => hk.2) (.int .i64 t283)) (fun _ hk => hk.2) (.slice Ao31 t284.length co31)) (fun _ h_ => h_.1))) (Kd.R_base ho0) hb); have n1_ := mkA (Kd.R_elder' (by (with_reducible repeat (first | apply Kd.R_alloc | apply Kd.R_drewN | apply Kd.R_drew)); exact (Kd.R_mono (Kd.R_far (p := ⟨gb287, 2, none⟩) (Kd.R_far (p := ⟨gb287, 1, none⟩) (Kd.R_far (p := ⟨gb287, 0, none⟩) (Kd.R_types HO279.out BK287.out (by decide)) (fun _ hk => hk.2) (.int .i64 t282)) (fun _ hk => hk.2) (.int .i64 t283)) (fun _ hk => hk.2) (.slice Ao31 t284.length co31)) (fun _ h_ => h_.1))) (Kd.R_base ho0) hb); have n2_ := mkA (Kd.R_elder' (by (with_reducible repeat (first | apply Kd.R_alloc | apply Kd.R_drewN | apply Kd.R_drew)); exact (Kd.R_mono (Kd.R_far (p := ⟨gb287, 2, none⟩) (Kd.R_far (p := ⟨gb287, 1, none⟩) (Kd.R_far (p := ⟨gb287, 0, none⟩) (Kd.R_types HO286.out BK287.out (by decide)) (fun _ hk => hk.2) (.int .i64 t282)) (fun _ hk => hk.2) (.int .i64 t283)) (fun _ hk => hk.2) (.slice Ao31 t284.length co31)) (fun _ h_ => h_.1))) (Kd.R_base ho0) hb); have n3_ := mkA (Kd.R_lower (Kd.R_new' (Kd.R_new' (Kd.R_new' ho0 (Kd.R_lt (by (with_reducible repeat (first | apply Kd.R_alloc | apply Kd.R_drewN | apply Kd.R_drew)); exact (Kd.R_mono (Kd.R_far (p := ⟨gb287, 2, none⟩) (Kd.R_far (p := ⟨gb287, 1, none⟩) (Kd.R_far (p := ⟨gb287, 0, none⟩) (Kd.R_types HO274.out BK287.out (by decide)) (fun _ hk => hk.2) (.int .i64 t282)) (fun _ hk => hk.2) (.int .i64 t283)) (fun _ hk => hk.2) (.slice Ao31 t284.length co31)) (fun _ h_ => h_.1))))) (Kd.R_lt (by (with_reducible repeat (first | apply Kd.R_alloc | apply Kd.R_drewN | apply Kd.R_drew)); exact (Kd.R_mono (Kd.R_far (p := ⟨gb287, 2, none⟩) (Kd.R_far (p := ⟨gb287, 1, none⟩) (Kd.R_far (p := ⟨gb287, 0, none⟩) (Kd.R_types HO279.out BK287.out (by decide)) (fun _ hk => hk.2) (.int .i64 t282)) (fun _ hk => hk.2) (.int .i64 t283)) (fun _ hk => hk.2) (.slice Ao31 t284.length co31)) (fun _ h_ => h_.1))))) (Kd.R_lt (by (with_reducible repeat (first | apply Kd.R_alloc | apply Kd.R_drewN | apply Kd.R_drew)); exact (Kd.R_mono (Kd.R_far (p := ⟨gb287, 2, none⟩) (Kd.R_far (p := ⟨gb287, 1, none⟩) (Kd.R_far (p := ⟨gb287, 0, none⟩) (Kd.R_types HO286.out BK287.out (by decide)) (fun _ hk => hk.2) (.int .i64 t282)) (fun _ hk => hk.2) (.int .i64 t283)) (fun _ hk => hk.2) (.slice Ao31 t284.length co31)) (fun _ h_ => h_.1))))) (below_size (bs3_ HB.out GE268.out GE281.out GE287.out))); have n4_ := mkA (blk_below (g := gb268) (o := .cells #[.int .i64 a0_0, .int .i64 a0_1, .slice A0_2 l0_2.length c0_2] 24 (0, 0)) (by (with_reducible repeat (first | refine blk_drewN ?_ _ | refine blk_drew ?_ | refine blk_alloc ?_ _)); refine blk_far ?_ NB268_287.out _; (with_reducible repeat (first | refine blk_drewN ?_ _ | refine blk_drew ?_ | refine blk_alloc ?_ _)); refine blk_far ?_ NB268_287.out _; (with_reducible repeat (first | refine blk_drewN ?_ _ | refine blk_drew ?_ | refine blk_alloc ?_ _)); refine blk_far ?_ NB268_287.out _; (with_reducible repeat (first | refine blk_drewN ?_ _ | refine blk_drew ?_ | refine blk_alloc ?_ _)); exact BK268.out) hb); have n5_ := mkA (blk_below (g := gb281) (o := .cells #[.int .i64 t275, .int .i64 t276, .slice Ao24 t277.length co24] 29 (0, 0)) (by (with_reducible repeat (first | refine blk_drewN ?_ _ | refine blk_drew ?_ | refine blk_alloc ?_ _)); refine blk_far ?_ NB281_287.out _; (with_reducible repeat (first | refine blk_drewN ?_ _ | refine blk_drew ?_ | refine blk_alloc ?_ _)); refine blk_far ?_ NB281_287.out _; (with_reducible repeat (first | refine blk_drewN ?_ _ | refine blk_drew ?_ | refine blk_alloc ?_ _)); refine blk_far ?_ NB281_287.out _; (with_reducible repeat (first | refine blk_drewN ?_ _ | refine blk_drew ?_ | refine blk_alloc ?_ _)); exact BK281.out) hb); have n6_ := mkA (blk_below (g := gb287) (o := .cells #[.int .i64 t282, .int .i64 t283, .slice Ao31 t284.length co31] 29 (0, 0)) (by (with_reducible repeat (first | refine blk_drewN ?_ _ | refine blk_drew ?_ | refine blk_alloc ?_ _)); refine blk_put (cs := #[.int .i64 t282, .int .i64 t283, .slice none 0 0]) ?_ 2 _ rfl; (with_reducible repeat (first | refine blk_drewN ?_ _ | refine blk_drew ?_ | refine blk_alloc ?_ _)); refine blk_put (cs := #[.int .i64 t282, .int .i64 0, .slice none 0 0]) ?_ 1 _ rfl; (with_reducible repeat (first | refine blk_drewN ?_ _ | refine blk_drew ?_ | refine blk_alloc ?_ _)); refine blk_put (cs := #[.int .i64 0, .int .i64 0, .slice none 0 0]) ?_ 0 _ rfl; (with_reducible repeat (first | refine blk_drewN ?_ _ | refine blk_drew ?_ | refine blk_alloc ?_ _)); exact BK287.out) hb); have n7_ := mkA (below_step (bs3_ HB.out GE268.out GE281.out GE287.out) hb); clear HO274; clear HO279; clear HO286; clear BK268; clear BK281; clear BK287; clear HB; have HO274 := n0_; have HO279 := n1_; have HO286 := n2_; have HO292 := n3_; have BK268 := n4_; have BK281 := n5_; have BK287 := n6_; have HB := n7_; clear n0_ n1_ n2_ n3_ n4_ n5_ n6_ n7_; (try clear hb); (try clear hb2); (try clear hk); (try clear hi); (try clear ho0)) | ((with_reducible refine gate_dst (N := 11) rfl ?_); refine box_event ?hg (N := 11) ?hd (cs := #[.int .i64 0, .int .i64 0, .slice none 0 0]) (t := 29) ?hr ?_; (case hd => rfl); (case hg => rfl); (case hr => first | (go_simp; done) | (go_simp; rfl)); intro gb294 hg w33 hbox hb; have n0_ := mkA (Kd.R_below (by (with_reducible repeat (first | apply Kd.R_alloc | apply Kd.R_drewN | apply Kd.R_drew)); exact HO274.out) hb); have n1_ := mkA (Kd.R_below (by (with_reducible repeat (first | apply Kd.R_alloc | apply Kd.R_drewN | apply Kd.R_drew)); exact HO279.out) hb); have n2_ := mkA (Kd.R_below (by (with_reducible repeat (first | apply Kd.R_alloc | apply Kd.R_drewN | apply Kd.R_drew)); exact HO286.out) hb); have n3_ := mkA (Kd.R_below (by (with_reducible repeat (first | apply Kd.R_alloc | apply Kd.R_drewN | apply Kd.R_drew)); exact HO292.out) hb); have n4_ := mkA (blk_below (g := gb268) (o := .cells #[.int .i64 a0_0, .int .i64 a0_1, .slice A0_2 l0_2.length c0_2] 24 (0, 0)) (bl_ BK268.out) hb); have n5_ := mkA (blk_below (g := gb281) (o := .cells #[.int .i64 t275, .int .i64 t276, .slice Ao24 t277.length co24] 29 (0, 0)) (bl_ BK281.out) hb); have n6_ := mkA (blk_below (g := gb287) (o := .cells #[.int .i64 t282, .int .i64 t283, .slice Ao31 t284.length co31] 29 (0, 0)) (bl_ BK287.out) hb); have n7_ := mkA (below_step (bs3_ HB.out GE268.out GE281.out GE287.out) hb); have n8_ := mkA (hbox); have n9_ := mkA ((by rw [hg]; exact (below_size (bs3_ HB.out GE268.out GE281.out GE287.out)) : w.heap.size ≤ gb294)); have n10_ := mkA ((by rw [hg]; exact (below_size (bs3_ HB.out GE268.out GE281.out GE287.out)) : w.heap.size ≤ gb294)); have n11_ := mkA ((by rw [hg]; exact Nat.ne_of_lt (blk_lt (g := gb268) (o := .cells #[.int .i64 a0_0, .int .i64 a0_1, .slice A0_2 l0_2.length c0_2] 24 (0, 0)) (bl_ BK268.out)) : gb268 ≠ gb294)); have n12_ := mkA ((by rw [hg]; exact Nat.ne_of_gt (blk_lt (g := gb268) (o := .cells #[.int .i64 a0_0, .int .i64 a0_1, .slice A0_2 l0_2.length c0_2] 24 (0, 0)) (bl_ BK268.out)) : gb294 ≠ gb268)); have n13_ := mkA ((by rw [hg]; exact Nat.ne_of_lt (blk_lt (g := gb281) (o := .cells #[.int .i64 t275, .int .i64 t276, .slice Ao24 t277.length co24] 29 (0, 0)) (bl_ BK281.out)) : gb281 ≠ gb294)); have n14_ := mkA ((by rw [hg]; exact Nat.ne_of_gt (blk_lt (g := gb281) (o := .cells #[.int .i64 t275, .int .i64 t276, .slice Ao24 t277.length co24] 29 (0, 0)) (bl_ BK281.out)) : gb294 ≠ gb281)); have n15_ := mkA ((by rw [hg]; exact Nat.ne_of_lt (blk_lt (g := gb287) (o := .cells #[.int .i64 t282, .int .i64 t283, .slice Ao31 t284.length co31] 29 (0, 0)) (bl_ BK287.out)) : gb287 ≠ gb294)); have n16_ := mkA ((by rw [hg]; exact Nat.ne_of_gt (blk_lt (g := gb287) (o := .cells #[.int .i64 t282, .int .i64 t283, .slice Ao31 t284.length co31] 29 (0, 0)) (bl_ BK287.out)) : gb294 ≠ gb287)); clear HO274; clear HO279; clear HO286; clear HO292; clear BK268; clear BK281; clear BK287; clear HB; have HO274 := n0_; have HO279 := n1_; have HO286 := n2_; have HO292 := n3_; have BK268 := n4_; have BK281 := n5_; have BK287 := n6_; have HB := n7_; have BK294 := n8_; have GW294 := n9_; have GE294 := n10_; have NB268_294 := n11_; have NB294_268 := n12_; have NB281_294 := n13_; have NB294_281 := n14_; have NB287_294 := n15_; have NB294_287 := n16_; clear n0_ n1_ n2_ n3_ n4_ n5_ n6_ n7_ n8_ n9_ n10_ n11_ n12_ n13_ n14_ n15_ n16_; clear hb hbox hg; have hnb34 := NB294_268.out; have hnc34 := NB268_294.out; have hnb35 := NB294_281.out; have hnc35 := NB281_294.out; have hnb36 := NB294_287.out; have hnc36 := NB287_294.out; have hcz37_0 : w33.cell? ⟨gb294, 0, none⟩ = some (.int .i64 0) := (blk_cell BK294.out 0).trans rfl; have hcz37_1 : w33.cell? ⟨gb294, 1, none⟩ = some (.int .i64 0) := (blk_cell BK294.out 1).trans rfl; have hcz37_2 : w33.cell? ⟨gb294, 2, none⟩ = some (.slice none 0 0) := (blk_cell BK294.out 2).trans rfl; have hfz37_0 := blk_frozen BK294.out 0; have hfz37_1 := blk_frozen BK294.out 1; have hfz37_2 := blk_frozen BK294.out 2; obtain ⟨Ao38, co38, eo38⟩ := Kd.R_slice HO292.out; subst eo38))
   (try simp only [Act.put, sA, sB, sC])
   go_cut [48] (fun v48 wc => ∃ (kq : Nat) (x48_12 : Bool), v48 = .bool x48_12 ∧ Aside0 (laws_FnExactShiftTiling.j0 kq a1 a2 t280 t293 x48_12 a0_0 a0_1 l0_2 t275 t276 t277 t282 t283 t284 t288 t289 t290 = some r) ∧ Aside0 (kq ≤ k) ∧ Aside0 (Kd.R (Kd.int .i64) 2 wc w.heap.size (fun k_ => some k_ ≠ ((.slice Ao31 t284.length co31) : Value).ownBlock ∧ some k_ ≠ ((.slice Ao38 t290.length co38) : Value).ownBlock) (.slice Ao24 t277.length co24) t277) ∧ Aside0 (Kd.R (Kd.int .i64) 2 wc w.heap.size (fun k_ => some k_ ≠ ((.slice Ao24 t277.length co24) : Value).ownBlock ∧ some k_ ≠ ((.slice Ao38 t290.length co38) : Value).ownBlock) (.slice Ao31 t284.length co31) t284) ∧ Aside0 (Kd.R (Kd.int .i64) 2 wc w.heap.size (fun k_ => some k_ ≠ ((.slice Ao24 t277.length co24) : Value).ownBlock ∧ some k_ ≠ ((.slice Ao31 t284.length co31) : Value).ownBlock) (.slice Ao38 t290.length co38) t290) ∧ Aside0 (wc.heap[gb268]? = some (.cells #[.int .i64 a0_0, .int .i64 a0_1, (.slice A0_2 l0_2.length c0_2)] 24 (0, 0))) ∧ Aside0 (wc.heap[gb281]? = some (.cells #[.int .i64 t275, .int .i64 t276, (.slice Ao24 t277.length co24)] 29 (0, 0))) ∧ Aside0 (wc.heap[gb287]? = some (.cells #[.int .i64 t282, .int .i64 t283, (.slice Ao31 t284.length co31)] 29 (0, 0))) ∧ Aside0 (wc.heap[gb294]? = some (.cells #[.int .i64 t288, .int .i64 t289, (.slice Ao38 t290.length co38)] 29 (0, 0))) ∧ Aside0 (Below w.heap.size w wc))
   case first =>
    have H := HC13.out
    clear HC13
    replace H := Option.bind_eq_some_iff.mp H
    obtain ⟨t295, A390, H⟩ := H
    replace H : (if t295 = true then (laws_FnExactShiftTiling.j0 k a1 a2 t280 t293 (t293 != t280) a0_0 a0_1 l0_2 t275 t276 t277 t282 t283 t284 t288 t289 t290) else (laws_FnExactShiftTiling.j0 k a1 a2 t280 t293 true a0_0 a0_1 l0_2 t275 t276 t277 t282 t283 t284 t288 t289 t290)) = some r := H
    have A39 := mkA A390
    clear A390
    by_cases c40 : t295 = true
    · subst c40
      have H1 : (laws_FnExactShiftTiling.j0 k a1 a2 t280 t293 (t293 != t280) a0_0 a0_1 l0_2 t275 t276 t277 t282 t283 t284 t288 t289 t290) = some r := by rw [if_pos rfl] at H; exact H
      clear H
      have H := H1
      clear H1
      have H' := mkA H
      clear H
      have hnb41 := NB294_268.out
      have hnc41 := NB268_294.out
      have hnb42 := NB294_281.out
      have hnc42 := NB281_294.out
      have hnb43 := NB294_287.out
      have hnc43 := NB287_294.out
      have hcz44_0 : w33.cell? ⟨gb294, 0, none⟩ = some (.int .i64 0) := (blk_cell BK294.out 0).trans rfl
      have hcz44_1 : w33.cell? ⟨gb294, 1, none⟩ = some (.int .i64 0) := (blk_cell BK294.out 1).trans rfl
      have hcz44_2 : w33.cell? ⟨gb294, 2, none⟩ = some (.slice none 0 0) := (blk_cell BK294.out 2).trans rfl
      have hfz44_0 := blk_frozen BK294.out 0
      have hfz44_1 := blk_frozen BK294.out 1
      have hfz44_2 := blk_frozen BK294.out 2
      have hnb45 := NB281_268.out
      have hnc45 := NB268_281.out
      have hnb46 := NB281_287.out
      have hnc46 := NB287_281.out
      have hcz47_0 : w33.cell? ⟨gb281, 0, none⟩ = some (.int .i64 t275) := (blk_cell BK281.out 0).trans rfl
      have hcz47_1 : w33.cell? ⟨gb281, 1, none⟩ = some (.int .i64 t276) := (blk_cell BK281.out 1).trans rfl
      have hcz47_2 : w33.cell? ⟨gb281, 2, none⟩ = some (.slice Ao24 t277.length co24) := (blk_cell BK281.out 2).trans rfl
      have hfz47_0 := blk_frozen BK281.out 0
      have hfz47_1 := blk_frozen BK281.out 1
      have hfz47_2 := blk_frozen BK281.out 2
      go_wp2_with (first | ((with_reducible refine gate_callee (f := 20) rfl ?_); refine goesL_ (some 42) rfl rfl Try.func20 (by kernel_rfl) rfl #[.agg #[.int .i64 t288, .int .i64 t289, .slice Ao38 t290.length co38], .agg #[.int .i64 t275, .int .i64 t276, .slice Ao24 t277.length co24]] rfl (by (try simp only [List.map_toArray, List.map_cons, List.map_nil]); first | done | rfl | (simp only [List.length_drop, List.length_take]; rfl)) ?_; (with_reducible refine (laws_eqTiling.calls k t288 t289 _ _ t290 t275 t276 _ _ t277 true _ ?side1 ?side2 ?side3 ?side4 A39.out).mono ?_); (case side1 => refine (Kd.R_reads' (e := 2) (base := w.heap.size) (ok := fun k_ => (((True ∧ some k_ ≠ (.slice Ao19 t272.length co19 : Value).ownBlock) ∧ some k_ ≠ (.slice Ao24 t277.length co24 : Value).ownBlock) ∧ some k_ ≠ (.slice Ao31 t284.length co31 : Value).ownBlock)) (n := t290.length) (c := co38) ?_).2.2; exact (by (with_reducible repeat (first | apply Kd.R_alloc | apply Kd.R_drewN | apply Kd.R_drew)); exact (Kd.R_mono (Kd.R_far (p := ⟨gb294, 2, none⟩) (Kd.R_far (p := ⟨gb294, 1, none⟩) (Kd.R_far (p := ⟨gb294, 0, none⟩) (Kd.R_types HO292.out BK294.out (by decide)) (fun _ hk => hk.2) (.int .i64 t288)) (fun _ hk => hk.2) (.int .i64 t289)) (fun _ hk => hk.2) (.slice Ao38 t290.length co38)) (fun _ h_ => h_.1)))); (case side2 => exact (Kd.R_reads' HO292.out).2.1); (case side3 => refine (Kd.R_reads' (e := 2) (base := w.heap.size) (ok := fun k_ => (((True ∧ some k_ ≠ (.slice Ao19 t272.length co19 : Value).ownBlock) ∧ some k_ ≠ (.slice Ao31 t284.length co31 : Value).ownBlock) ∧ some k_ ≠ (.slice Ao38 t290.length co38 : Value).ownBlock)) (n := t277.length) (c := co24) ?_).2.2; exact (by (with_reducible repeat (first | apply Kd.R_alloc | apply Kd.R_drewN | apply Kd.R_drew)); exact (Kd.R_mono (Kd.R_far (p := ⟨gb294, 2, none⟩) (Kd.R_far (p := ⟨gb294, 1, none⟩) (Kd.R_far (p := ⟨gb294, 0, none⟩) (Kd.R_types HO279.out BK294.out (by decide)) (fun _ hk => hk.2) (.int .i64 t288)) (fun _ hk => hk.2) (.int .i64 t289)) (fun _ hk => hk.2) (.slice Ao38 t290.length co38)) (fun _ h_ => h_.1)))); (case side4 => exact (Kd.R_reads' HO279.out).2.1); rintro e w48 ⟨rfl, hb⟩; refine ⟨_, rfl, ?_⟩; have n0_ := mkA (Kd.R_below (by (with_reducible repeat (first | apply Kd.R_alloc | apply Kd.R_drewN | apply Kd.R_drew)); exact (Kd.R_mono (Kd.R_far (p := ⟨gb294, 2, none⟩) (Kd.R_far (p := ⟨gb294, 1, none⟩) (Kd.R_far (p := ⟨gb294, 0, none⟩) (Kd.R_types HO274.out BK294.out (by decide)) (fun _ hk => hk.2) (.int .i64 t288)) (fun _ hk => hk.2) (.int .i64 t289)) (fun _ hk => hk.2) (.slice Ao38 t290.length co38)) (fun _ h_ => h_.1))) hb); have n1_ := mkA (Kd.R_below (by (with_reducible repeat (first | apply Kd.R_alloc | apply Kd.R_drewN | apply Kd.R_drew)); exact (Kd.R_mono (Kd.R_far (p := ⟨gb294, 2, none⟩) (Kd.R_far (p := ⟨gb294, 1, none⟩) (Kd.R_far (p := ⟨gb294, 0, none⟩) (Kd.R_types HO279.out BK294.out (by decide)) (fun _ hk => hk.2) (.int .i64 t288)) (fun _ hk => hk.2) (.int .i64 t289)) (fun _ hk => hk.2) (.slice Ao38 t290.length co38)) (fun _ h_ => h_.1))) hb); have n2_ := mkA (Kd.R_below (by (with_reducible repeat (first | apply Kd.R_alloc | apply Kd.R_drewN | apply Kd.R_drew)); exact (Kd.R_mono (Kd.R_far (p := ⟨gb294, 2, none⟩) (Kd.R_far (p := ⟨gb294, 1, none⟩) (Kd.R_far (p := ⟨gb294, 0, none⟩) (Kd.R_types HO286.out BK294.out (by decide)) (fun _ hk => hk.2) (.int .i64 t288)) (fun _ hk => hk.2) (.int .i64 t289)) (fun _ hk => hk.2) (.slice Ao38 t290.length co38)) (fun _ h_ => h_.1))) hb); have n3_ := mkA (Kd.R_below (by (with_reducible repeat (first | apply Kd.R_alloc | apply Kd.R_drewN | apply Kd.R_drew)); exact (Kd.R_mono (Kd.R_far (p := ⟨gb294, 2, none⟩) (Kd.R_far (p := ⟨gb294, 1, none⟩) (Kd.R_far (p := ⟨gb294, 0, none⟩) (Kd.R_types HO292.out BK294.out (by decide)) (fun _ hk => hk.2) (.int .i64 t288)) (fun _ hk => hk.2) (.int .i64 t289)) (fun _ hk => hk.2) (.slice Ao38 t290.length co38)) (fun _ h_ => h_.1))) hb); have n4_ := mkA (blk_below (g := gb268) (o := .cells #[.int .i64 a0_0, .int .i64 a0_1, .slice A0_2 l0_2.length c0_2] 24 (0, 0)) (by (with_reducible repeat (first | refine blk_drewN ?_ _ | refine blk_drew ?_ | refine blk_alloc ?_ _)); refine blk_far ?_ NB268_294.out _; (with_reducible repeat (first | refine blk_drewN ?_ _ | refine blk_drew ?_ | refine blk_alloc ?_ _)); refine blk_far ?_ NB268_294.out _; (with_reducible repeat (first | refine blk_drewN ?_ _ | refine blk_drew ?_ | refine blk_alloc ?_ _)); refine blk_far ?_ NB268_294.out _; (with_reducible repeat (first | refine blk_drewN ?_ _ | refine blk_drew ?_ | refine blk_alloc ?_ _)); exact BK268.out) hb); have n5_ := mkA (blk_below (g := gb281) (o := .cells #[.int .i64 t275, .int .i64 t276, .slice Ao24 t277.length co24] 29 (0, 0)) (by (with_reducible repeat (first | refine blk_drewN ?_ _ | refine blk_drew ?_ | refine blk_alloc ?_ _)); refine blk_far ?_ NB281_294.out _; (with_reducible repeat (first | refine blk_drewN ?_ _ | refine blk_drew ?_ | refine blk_alloc ?_ _)); refine blk_far ?_ NB281_294.out _; (with_reducible repeat (first | refine blk_drewN ?_ _ | refine blk_drew ?_ | refine blk_alloc ?_ _)); refine blk_far ?_ NB281_294.out _; (with_reducible repeat (first | refine blk_drewN ?_ _ | refine blk_drew ?_ | refine blk_alloc ?_ _)); exact BK281.out) hb); have n6_ := mkA (blk_below (g := gb287) (o := .cells #[.int .i64 t282, .int .i64 t283, .slice Ao31 t284.length co31] 29 (0, 0)) (by (with_reducible repeat (first | refine blk_drewN ?_ _ | refine blk_drew ?_ | refine blk_alloc ?_ _)); refine blk_far ?_ NB287_294.out _; (with_reducible repeat (first | refine blk_drewN ?_ _ | refine blk_drew ?_ | refine blk_alloc ?_ _)); refine blk_far ?_ NB287_294.out _; (with_reducible repeat (first | refine blk_drewN ?_ _ | refine blk_drew ?_ | refine blk_alloc ?_ _)); refine blk_far ?_ NB287_294.out _; (with_reducible repeat (first | refine blk_drewN ?_ _ | refine blk_drew ?_ | refine blk_alloc ?_ _)); exact BK287.out) hb); have n7_ := mkA (blk_below (g := gb294) (o := .cells #[.int .i64 t288, .int .i64 t289, .slice Ao38 t290.length co38] 29 (0, 0)) (by (with_reducible repeat (first | refine blk_drewN ?_ _ | refine blk_drew ?_ | refine blk_alloc ?_ _)); refine blk_put (cs := #[.int .i64 t288, .int .i64 t289, .slice none 0 0]) ?_ 2 _ rfl; (with_reducible repeat (first | refine blk_drewN ?_ _ | refine blk_drew ?_ | refine blk_alloc ?_ _)); refine blk_put (cs := #[.int .i64 t288, .int .i64 0, .slice none 0 0]) ?_ 1 _ rfl; (with_reducible repeat (first | refine blk_drewN ?_ _ | refine blk_drew ?_ | refine blk_alloc ?_ _)); refine blk_put (cs := #[.int .i64 0, .int .i64 0, .slice none 0 0]) ?_ 0 _ rfl; (with_reducible repeat (first | refine blk_drewN ?_ _ | refine blk_drew ?_ | refine blk_alloc ?_ _)); exact BK294.out) hb); have n8_ := mkA (below_step (bs4_ HB.out GE268.out GE281.out GE287.out GE294.out) hb); clear HO274; clear HO279; clear HO286; clear HO292; clear BK268; clear BK281; clear BK287; clear BK294; clear HB; have HO274 := n0_; have HO279 := n1_; have HO286 := n2_; have HO292 := n3_; have BK268 := n4_; have BK281 := n5_; have BK287 := n6_; have BK294 := n7_; have HB := n8_; clear n0_ n1_ n2_ n3_ n4_ n5_ n6_ n7_ n8_; (try clear hb); (try clear hb2); (try clear hk); (try clear hi)))
      go_meet
      case rel => exact ⟨_, ((t293 != t280)), (by first | rfl | (simp; done) | (simp [*]; done) | (simp [i64_w, i32_w]; done)), H', ⟨by first | omega | exact Nat.le_refl _⟩, ⟨by (with_reducible repeat (first | apply Kd.R_alloc | apply Kd.R_drewN | apply Kd.R_drew)); exact Kd.R_mono HO279.out (fun _ hk => ⟨hk.1.2, hk.2⟩)⟩, ⟨by (with_reducible repeat (first | apply Kd.R_alloc | apply Kd.R_drewN | apply Kd.R_drew)); exact Kd.R_mono HO286.out (fun _ hk => ⟨hk.1.2, hk.2⟩)⟩, ⟨by (with_reducible repeat (first | apply Kd.R_alloc | apply Kd.R_drewN | apply Kd.R_drew)); exact Kd.R_mono HO292.out (fun _ hk => ⟨hk.1.2, hk.2⟩)⟩, ⟨by (with_reducible repeat (first | refine blk_drewN ?_ _ | refine blk_drew ?_ | refine blk_alloc ?_ _)); exact BK268.out⟩, ⟨by (with_reducible repeat (first | refine blk_drewN ?_ _ | refine blk_drew ?_ | refine blk_alloc ?_ _)); exact BK281.out⟩, ⟨by (with_reducible repeat (first | refine blk_drewN ?_ _ | refine blk_drew ?_ | refine blk_alloc ?_ _)); exact BK287.out⟩, ⟨by (with_reducible repeat (first | refine blk_drewN ?_ _ | refine blk_drew ?_ | refine blk_alloc ?_ _)); exact BK294.out⟩, ⟨by repeat (first | (with_reducible first | exact HB.out | apply below_alloc | apply pw_below_drewN | apply below_drew1 | refine below_set ?_ GE268.out | refine below_set ?_ GE281.out | refine below_set ?_ GE287.out | refine below_set ?_ GE294.out) | exact HB.out)⟩⟩
    · replace c40 := Bool.eq_false_iff.mpr c40
      subst c40
      have H1 : (laws_FnExactShiftTiling.j0 k a1 a2 t280 t293 true a0_0 a0_1 l0_2 t275 t276 t277 t282 t283 t284 t288 t289 t290) = some r := by rw [if_neg (show ¬ (false = true) by decide)] at H; exact H
      clear H
      have H := H1
      clear H1
      have H' := mkA H
      clear H
      have hnb49 := NB294_268.out
      have hnc49 := NB268_294.out
      have hnb50 := NB294_281.out
      have hnc50 := NB281_294.out
      have hnb51 := NB294_287.out
      have hnc51 := NB287_294.out
      have hcz52_0 : w33.cell? ⟨gb294, 0, none⟩ = some (.int .i64 0) := (blk_cell BK294.out 0).trans rfl
      have hcz52_1 : w33.cell? ⟨gb294, 1, none⟩ = some (.int .i64 0) := (blk_cell BK294.out 1).trans rfl
      have hcz52_2 : w33.cell? ⟨gb294, 2, none⟩ = some (.slice none 0 0) := (blk_cell BK294.out 2).trans rfl
      have hfz52_0 := blk_frozen BK294.out 0
      have hfz52_1 := blk_frozen BK294.out 1
      have hfz52_2 := blk_frozen BK294.out 2
      have hnb53 := NB281_268.out
      have hnc53 := NB268_281.out
      have hnb54 := NB281_287.out
      have hnc54 := NB287_281.out
      have hcz55_0 : w33.cell? ⟨gb281, 0, none⟩ = some (.int .i64 t275) := (blk_cell BK281.out 0).trans rfl
      have hcz55_1 : w33.cell? ⟨gb281, 1, none⟩ = some (.int .i64 t276) := (blk_cell BK281.out 1).trans rfl
      have hcz55_2 : w33.cell? ⟨gb281, 2, none⟩ = some (.slice Ao24 t277.length co24) := (blk_cell BK281.out 2).trans rfl
      have hfz55_0 := blk_frozen BK281.out 0
      have hfz55_1 := blk_frozen BK281.out 1
      have hfz55_2 := blk_frozen BK281.out 2
      go_wp2_with (first | ((with_reducible refine gate_callee (f := 20) rfl ?_); refine goesL_ (some 42) rfl rfl Try.func20 (by kernel_rfl) rfl #[.agg #[.int .i64 t288, .int .i64 t289, .slice Ao38 t290.length co38], .agg #[.int .i64 t275, .int .i64 t276, .slice Ao24 t277.length co24]] rfl (by (try simp only [List.map_toArray, List.map_cons, List.map_nil]); first | done | rfl | (simp only [List.length_drop, List.length_take]; rfl)) ?_; (with_reducible refine (laws_eqTiling.calls k t288 t289 _ _ t290 t275 t276 _ _ t277 false _ ?side1 ?side2 ?side3 ?side4 A39.out).mono ?_); (case side1 => refine (Kd.R_reads' (e := 2) (base := w.heap.size) (ok := fun k_ => (((True ∧ some k_ ≠ (.slice Ao19 t272.length co19 : Value).ownBlock) ∧ some k_ ≠ (.slice Ao24 t277.length co24 : Value).ownBlock) ∧ some k_ ≠ (.slice Ao31 t284.length co31 : Value).ownBlock)) (n := t290.length) (c := co38) ?_).2.2; exact (by (with_reducible repeat (first | apply Kd.R_alloc | apply Kd.R_drewN | apply Kd.R_drew)); exact (Kd.R_mono (Kd.R_far (p := ⟨gb294, 2, none⟩) (Kd.R_far (p := ⟨gb294, 1, none⟩) (Kd.R_far (p := ⟨gb294, 0, none⟩) (Kd.R_types HO292.out BK294.out (by decide)) (fun _ hk => hk.2) (.int .i64 t288)) (fun _ hk => hk.2) (.int .i64 t289)) (fun _ hk => hk.2) (.slice Ao38 t290.length co38)) (fun _ h_ => h_.1)))); (case side2 => exact (Kd.R_reads' HO292.out).2.1); (case side3 => refine (Kd.R_reads' (e := 2) (base := w.heap.size) (ok := fun k_ => (((True ∧ some k_ ≠ (.slice Ao19 t272.length co19 : Value).ownBlock) ∧ some k_ ≠ (.slice Ao31 t284.length co31 : Value).ownBlock) ∧ some k_ ≠ (.slice Ao38 t290.length co38 : Value).ownBlock)) (n := t277.length) (c := co24) ?_).2.2; exact (by (with_reducible repeat (first | apply Kd.R_alloc | apply Kd.R_drewN | apply Kd.R_drew)); exact (Kd.R_mono (Kd.R_far (p := ⟨gb294, 2, none⟩) (Kd.R_far (p := ⟨gb294, 1, none⟩) (Kd.R_far (p := ⟨gb294, 0, none⟩) (Kd.R_types HO279.out BK294.out (by decide)) (fun _ hk => hk.2) (.int .i64 t288)) (fun _ hk => hk.2) (.int .i64 t289)) (fun _ hk => hk.2) (.slice Ao38 t290.length co38)) (fun _ h_ => h_.1)))); (case side4 => exact (Kd.R_reads' HO279.out).2.1); rintro e w56 ⟨rfl, hb⟩; refine ⟨_, rfl, ?_⟩; have n0_ := mkA (Kd.R_below (by (with_reducible repeat (first | apply Kd.R_alloc | apply Kd.R_drewN | apply Kd.R_drew)); exact (Kd.R_mono (Kd.R_far (p := ⟨gb294, 2, none⟩) (Kd.R_far (p := ⟨gb294, 1, none⟩) (Kd.R_far (p := ⟨gb294, 0, none⟩) (Kd.R_types HO274.out BK294.out (by decide)) (fun _ hk => hk.2) (.int .i64 t288)) (fun _ hk => hk.2) (.int .i64 t289)) (fun _ hk => hk.2) (.slice Ao38 t290.length co38)) (fun _ h_ => h_.1))) hb); have n1_ := mkA (Kd.R_below (by (with_reducible repeat (first | apply Kd.R_alloc | apply Kd.R_drewN | apply Kd.R_drew)); exact (Kd.R_mono (Kd.R_far (p := ⟨gb294, 2, none⟩) (Kd.R_far (p := ⟨gb294, 1, none⟩) (Kd.R_far (p := ⟨gb294, 0, none⟩) (Kd.R_types HO279.out BK294.out (by decide)) (fun _ hk => hk.2) (.int .i64 t288)) (fun _ hk => hk.2) (.int .i64 t289)) (fun _ hk => hk.2) (.slice Ao38 t290.length co38)) (fun _ h_ => h_.1))) hb); have n2_ := mkA (Kd.R_below (by (with_reducible repeat (first | apply Kd.R_alloc | apply Kd.R_drewN | apply Kd.R_drew)); exact (Kd.R_mono (Kd.R_far (p := ⟨gb294, 2, none⟩) (Kd.R_far (p := ⟨gb294, 1, none⟩) (Kd.R_far (p := ⟨gb294, 0, none⟩) (Kd.R_types HO286.out BK294.out (by decide)) (fun _ hk => hk.2) (.int .i64 t288)) (fun _ hk => hk.2) (.int .i64 t289)) (fun _ hk => hk.2) (.slice Ao38 t290.length co38)) (fun _ h_ => h_.1))) hb); have n3_ := mkA (Kd.R_below (by (with_reducible repeat (first | apply Kd.R_alloc | apply Kd.R_drewN | apply Kd.R_drew)); exact (Kd.R_mono (Kd.R_far (p := ⟨gb294, 2, none⟩) (Kd.R_far (p := ⟨gb294, 1, none⟩) (Kd.R_far (p := ⟨gb294, 0, none⟩) (Kd.R_types HO292.out BK294.out (by decide)) (fun _ hk => hk.2) (.int .i64 t288)) (fun _ hk => hk.2) (.int .i64 t289)) (fun _ hk => hk.2) (.slice Ao38 t290.length co38)) (fun _ h_ => h_.1))) hb); have n4_ := mkA (blk_below (g := gb268) (o := .cells #[.int .i64 a0_0, .int .i64 a0_1, .slice A0_2 l0_2.length c0_2] 24 (0, 0)) (by (with_reducible repeat (first | refine blk_drewN ?_ _ | refine blk_drew ?_ | refine blk_alloc ?_ _)); refine blk_far ?_ NB268_294.out _; (with_reducible repeat (first | refine blk_drewN ?_ _ | refine blk_drew ?_ | refine blk_alloc ?_ _)); refine blk_far ?_ NB268_294.out _; (with_reducible repeat (first | refine blk_drewN ?_ _ | refine blk_drew ?_ | refine blk_alloc ?_ _)); refine blk_far ?_ NB268_294.out _; (with_reducible repeat (first | refine blk_drewN ?_ _ | refine blk_drew ?_ | refine blk_alloc ?_ _)); exact BK268.out) hb); have n5_ := mkA (blk_below (g := gb281) (o := .cells #[.int .i64 t275, .int .i64 t276, .slice Ao24 t277.length co24] 29 (0, 0)) (by (with_reducible repeat (first | refine blk_drewN ?_ _ | refine blk_drew ?_ | refine blk_alloc ?_ _)); refine blk_far ?_ NB281_294.out _; (with_reducible repeat (first | refine blk_drewN ?_ _ | refine blk_drew ?_ | refine blk_alloc ?_ _)); refine blk_far ?_ NB281_294.out _; (with_reducible repeat (first | refine blk_drewN ?_ _ | refine blk_drew ?_ | refine blk_alloc ?_ _)); refine blk_far ?_ NB281_294.out _; (with_reducible repeat (first | refine blk_drewN ?_ _ | refine blk_drew ?_ | refine blk_alloc ?_ _)); exact BK281.out) hb); have n6_ := mkA (blk_below (g := gb287) (o := .cells #[.int .i64 t282, .int .i64 t283, .slice Ao31 t284.length co31] 29 (0, 0)) (by (with_reducible repeat (first | refine blk_drewN ?_ _ | refine blk_drew ?_ | refine blk_alloc ?_ _)); refine blk_far ?_ NB287_294.out _; (with_reducible repeat (first | refine blk_drewN ?_ _ | refine blk_drew ?_ | refine blk_alloc ?_ _)); refine blk_far ?_ NB287_294.out _; (with_reducible repeat (first | refine blk_drewN ?_ _ | refine blk_drew ?_ | refine blk_alloc ?_ _)); refine blk_far ?_ NB287_294.out _; (with_reducible repeat (first | refine blk_drewN ?_ _ | refine blk_drew ?_ | refine blk_alloc ?_ _)); exact BK287.out) hb); have n7_ := mkA (blk_below (g := gb294) (o := .cells #[.int .i64 t288, .int .i64 t289, .slice Ao38 t290.length co38] 29 (0, 0)) (by (with_reducible repeat (first | refine blk_drewN ?_ _ | refine blk_drew ?_ | refine blk_alloc ?_ _)); refine blk_put (cs := #[.int .i64 t288, .int .i64 t289, .slice none 0 0]) ?_ 2 _ rfl; (with_reducible repeat (first | refine blk_drewN ?_ _ | refine blk_drew ?_ | refine blk_alloc ?_ _)); refine blk_put (cs := #[.int .i64 t288, .int .i64 0, .slice none 0 0]) ?_ 1 _ rfl; (with_reducible repeat (first | refine blk_drewN ?_ _ | refine blk_drew ?_ | refine blk_alloc ?_ _)); refine blk_put (cs := #[.int .i64 0, .int .i64 0, .slice none 0 0]) ?_ 0 _ rfl; (with_reducible repeat (first | refine blk_drewN ?_ _ | refine blk_drew ?_ | refine blk_alloc ?_ _)); exact BK294.out) hb); have n8_ := mkA (below_step (bs4_ HB.out GE268.out GE281.out GE287.out GE294.out) hb); clear HO274; clear HO279; clear HO286; clear HO292; clear BK268; clear BK281; clear BK287; clear BK294; clear HB; have HO274 := n0_; have HO279 := n1_; have HO286 := n2_; have HO292 := n3_; have BK268 := n4_; have BK281 := n5_; have BK287 := n6_; have BK294 := n7_; have HB := n8_; clear n0_ n1_ n2_ n3_ n4_ n5_ n6_ n7_ n8_; (try clear hb); (try clear hb2); (try clear hk); (try clear hi)))
      go_meet
      case rel => exact ⟨_, (true), (by first | rfl | (simp; done) | (simp [*]; done) | (simp [i64_w, i32_w]; done)), H', ⟨by first | omega | exact Nat.le_refl _⟩, ⟨by (with_reducible repeat (first | apply Kd.R_alloc | apply Kd.R_drewN | apply Kd.R_drew)); exact Kd.R_mono HO279.out (fun _ hk => ⟨hk.1.2, hk.2⟩)⟩, ⟨by (with_reducible repeat (first | apply Kd.R_alloc | apply Kd.R_drewN | apply Kd.R_drew)); exact Kd.R_mono HO286.out (fun _ hk => ⟨hk.1.2, hk.2⟩)⟩, ⟨by (with_reducible repeat (first | apply Kd.R_alloc | apply Kd.R_drewN | apply Kd.R_drew)); exact Kd.R_mono HO292.out (fun _ hk => ⟨hk.1.2, hk.2⟩)⟩, ⟨by (with_reducible repeat (first | refine blk_drewN ?_ _ | refine blk_drew ?_ | refine blk_alloc ?_ _)); exact BK268.out⟩, ⟨by (with_reducible repeat (first | refine blk_drewN ?_ _ | refine blk_drew ?_ | refine blk_alloc ?_ _)); exact BK281.out⟩, ⟨by (with_reducible repeat (first | refine blk_drewN ?_ _ | refine blk_drew ?_ | refine blk_alloc ?_ _)); exact BK287.out⟩, ⟨by (with_reducible repeat (first | refine blk_drewN ?_ _ | refine blk_drew ?_ | refine blk_alloc ?_ _)); exact BK294.out⟩, ⟨by repeat (first | (with_reducible first | exact HB.out | apply below_alloc | apply pw_below_drewN | apply below_drew1 | refine below_set ?_ GE268.out | refine below_set ?_ GE281.out | refine below_set ?_ GE287.out | refine below_set ?_ GE294.out) | exact HB.out)⟩⟩
   case rest =>
    clear HC13
    try clear c1
    try clear c2
    try clear p2
    try clear c3
    try clear c4
    try clear c5
    try clear c5b0
    try clear c6
    try clear c15
    try clear c17
    try clear c20
    try clear c22
    try clear c28
    try clear c29
    try clear c30
    try clear c34
    try clear c35
    try clear c36
    try clear c40
    try clear c41
    try clear c42
    try clear c43
    try clear c45
    try clear c46
    try clear c49
    try clear c50
    try clear c51
    try clear c53
    try clear c54
    try clear hcz15_0
    try clear hcz15_1
    try clear hcz15_2
    try clear hcz17_0
    try clear hcz17_1
    try clear hcz17_2
    try clear hcz23_0
    try clear hcz23_1
    try clear hcz23_2
    try clear hcz25_0
    try clear hcz25_1
    try clear hcz25_2
    try clear hcz30_0
    try clear hcz30_1
    try clear hcz30_2
    try clear hcz37_0
    try clear hcz37_1
    try clear hcz37_2
    try clear hcz44_0
    try clear hcz44_1
    try clear hcz44_2
    try clear hcz47_0
    try clear hcz47_1
    try clear hcz47_2
    try clear hcz52_0
    try clear hcz52_1
    try clear hcz52_2
    try clear hcz55_0
    try clear hcz55_1
    try clear hcz55_2
    try clear hcz7_0
    try clear hcz7_1
    try clear hcz7_2
    try clear hfz15_0
    try clear hfz15_1
    try clear hfz15_2
    try clear hfz17_0
    try clear hfz17_1
    try clear hfz17_2
    try clear hfz23_0
    try clear hfz23_1
    try clear hfz23_2
    try clear hfz25_0
    try clear hfz25_1
    try clear hfz25_2
    try clear hfz30_0
    try clear hfz30_1
    try clear hfz30_2
    try clear hfz37_0
    try clear hfz37_1
    try clear hfz37_2
    try clear hfz44_0
    try clear hfz44_1
    try clear hfz44_2
    try clear hfz47_0
    try clear hfz47_1
    try clear hfz47_2
    try clear hfz52_0
    try clear hfz52_1
    try clear hfz52_2
    try clear hfz55_0
    try clear hfz55_1
    try clear hfz55_2
    try clear hfz7_0
    try clear hfz7_1
    try clear hfz7_2
    obtain ⟨kq, x48_12, rfl, HA, HJ12, HO_282002, HO_288002, HO_295002, BK268, BK281, BK287, BK294, HB⟩ := hcut
    cases kq with
    | zero => exact absurd HA.out (by simp [laws_FnExactShiftTiling.j0])
    | succ kj12 =>
     have H := HA.out
     clear HA
     simp only [laws_FnExactShiftTiling.j0] at H
     by_cases c57 : x48_12 = true
     · subst c57
       have H1 : (some false) = some r := by rw [if_pos rfl] at H; exact H
       clear H
       have H := H1
       clear H1
       obtain rfl := Option.some.inj H
       go_wp2
       go_ret
       exact ⟨by first | rfl | (simp [errW_none, errW_some] <;> rfl) | (simp [*, errW_none, errW_some] <;> rfl), by repeat (first | (with_reducible first | exact HB.out | apply below_alloc | apply pw_below_drewN | apply below_drew1 | refine below_set ?_ GE268.out | refine below_set ?_ GE281.out | refine below_set ?_ GE287.out | refine below_set ?_ GE294.out) | exact HB.out)⟩
     · replace c57 := Bool.eq_false_iff.mpr c57
       subst c57
       have H1 : ((laws_toTiling.f kj12 a0_0 a0_1 l0_2).bind fun bt296 => ((laws_eqTiling.f kj12 t282 t283 t284 bt296.1 bt296.2.1 bt296.2.2).bind fun t301 => (if t301 = true then ((laws_markTiling.f kj12 t282 t283 t284 1).bind fun bt302 => (if bt302.1 < 0 then (laws_FnExactShiftTiling.j1 kj12 a1 a2 t280 true a0_0 a0_1 l0_2 t275 t276 t277 t288 t289 t290) else ((laws_eqTiling.f kj12 t288 t289 t290 t275 t276 t277).bind fun t304 => (if t304 = true then (laws_FnExactShiftTiling.j1 kj12 a1 a2 t280 (t293 != t280) a0_0 a0_1 l0_2 t275 t276 t277 t288 t289 t290) else (laws_FnExactShiftTiling.j1 kj12 a1 a2 t280 true a0_0 a0_1 l0_2 t275 t276 t277 t288 t289 t290))))) else (some false)))) = some r := by rw [if_neg (show ¬ (false = true) by decide)] at H; exact H
       clear H
       have H := H1
       clear H1
       replace H := Option.bind_eq_some_iff.mp H
       obtain ⟨⟨t296, t297, t298⟩, A580, H⟩ := H
       replace H : ((laws_eqTiling.f kj12 t282 t283 t284 t296 t297 t298).bind fun t301 => (if t301 = true then ((laws_markTiling.f kj12 t282 t283 t284 1).bind fun bt302 => (if bt302.1 < 0 then (laws_FnExactShiftTiling.j1 kj12 a1 a2 t280 true a0_0 a0_1 l0_2 t275 t276 t277 t288 t289 t290) else ((laws_eqTiling.f kj12 t288 t289 t290 t275 t276 t277).bind fun t304 => (if t304 = true then (laws_FnExactShiftTiling.j1 kj12 a1 a2 t280 (t293 != t280) a0_0 a0_1 l0_2 t275 t276 t277 t288 t289 t290) else (laws_FnExactShiftTiling.j1 kj12 a1 a2 t280 true a0_0 a0_1 l0_2 t275 t276 t277 t288 t289 t290))))) else (some false))) = some r := H
       have A58 := mkA A580
       clear A580
       replace H := Option.bind_eq_some_iff.mp H
       obtain ⟨t301, A590, H⟩ := H
       replace H : (if t301 = true then ((laws_markTiling.f kj12 t282 t283 t284 1).bind fun bt302 => (if bt302.1 < 0 then (laws_FnExactShiftTiling.j1 kj12 a1 a2 t280 true a0_0 a0_1 l0_2 t275 t276 t277 t288 t289 t290) else ((laws_eqTiling.f kj12 t288 t289 t290 t275 t276 t277).bind fun t304 => (if t304 = true then (laws_FnExactShiftTiling.j1 kj12 a1 a2 t280 (t293 != t280) a0_0 a0_1 l0_2 t275 t276 t277 t288 t289 t290) else (laws_FnExactShiftTiling.j1 kj12 a1 a2 t280 true a0_0 a0_1 l0_2 t275 t276 t277 t288 t289 t290))))) else (some false)) = some r := H
       have A59 := mkA A590
       clear A590
       by_cases c60 : t301 = true
       · subst c60
         have H1 : ((laws_markTiling.f kj12 t282 t283 t284 1).bind fun bt302 => (if bt302.1 < 0 then (laws_FnExactShiftTiling.j1 kj12 a1 a2 t280 true a0_0 a0_1 l0_2 t275 t276 t277 t288 t289 t290) else ((laws_eqTiling.f kj12 t288 t289 t290 t275 t276 t277).bind fun t304 => (if t304 = true then (laws_FnExactShiftTiling.j1 kj12 a1 a2 t280 (t293 != t280) a0_0 a0_1 l0_2 t275 t276 t277 t288 t289 t290) else (laws_FnExactShiftTiling.j1 kj12 a1 a2 t280 true a0_0 a0_1 l0_2 t275 t276 t277 t288 t289 t290))))) = some r := by rw [if_pos rfl] at H; exact H
         clear H
         have H := H1
         clear H1
         replace H := Option.bind_eq_some_iff.mp H
         obtain ⟨⟨t302, t303⟩, A610, H⟩ := H
         replace H : (if t302 < 0 then (laws_FnExactShiftTiling.j1 kj12 a1 a2 t280 true a0_0 a0_1 l0_2 t275 t276 t277 t288 t289 t290) else ((laws_eqTiling.f kj12 t288 t289 t290 t275 t276 t277).bind fun t304 => (if t304 = true then (laws_FnExactShiftTiling.j1 kj12 a1 a2 t280 (t293 != t280) a0_0 a0_1 l0_2 t275 t276 t277 t288 t289 t290) else (laws_FnExactShiftTiling.j1 kj12 a1 a2 t280 true a0_0 a0_1 l0_2 t275 t276 t277 t288 t289 t290)))) = some r := H
         have A61 := mkA A610
         clear A610
         have HC62 := mkA H
         clear H
         try go_wp2
         have n0_ := mkA (Kd.R_drew HO_282002.out)
         have n1_ := mkA (Kd.R_drew HO_288002.out)
         have n2_ := mkA (Kd.R_drew HO_295002.out)
         have n3_ := mkA (blk_drew BK268.out)
         have n4_ := mkA (blk_drew BK281.out)
         have n5_ := mkA (blk_drew BK287.out)
         have n6_ := mkA (blk_drew BK294.out)
         have n7_ := mkA (below_drew1 HB.out)
         clear HO_282002
         clear HO_288002
         clear HO_295002
         clear BK268
         clear BK281
         clear BK287
         clear BK294
         clear HB
         have HO_282002 := n0_
         have HO_288002 := n1_
         have HO_295002 := n2_
         have BK268 := n3_
         have BK281 := n4_
         have BK287 := n5_
         have BK294 := n6_
         have HB := n7_
         clear n0_ n1_ n2_ n3_ n4_ n5_ n6_ n7_
         refine start_ (n := 5) (S := fun w' => w'.cell? ⟨gb287, 0, none⟩ = some (.int .i64 t282) ∧ w'.cell? ⟨gb287, 1, none⟩ = some (.int .i64 t283) ∧ w'.cell? ⟨gb287, 2, none⟩ = some (.slice Ao31 t284.length co31) ∧ w'.cell? ⟨gb268, 0, none⟩ = some (.int .i64 a0_0) ∧ w'.cell? ⟨gb268, 1, none⟩ = some (.int .i64 a0_1) ∧ w'.cell? ⟨gb268, 2, none⟩ = some (.slice A0_2 l0_2.length c0_2)) (ds := []) #[false, false, false, false, false] (by kernel_rfl) rfl rfl ⟨(blk_cell BK287.out 0).trans rfl, (blk_cell BK287.out 1).trans rfl, (blk_cell BK287.out 2).trans rfl, (blk_cell BK268.out 0).trans rfl, (blk_cell BK268.out 1).trans rfl, (blk_cell BK268.out 2).trans rfl⟩ (fun hHeld => ?_)
         generalize wc.drew = w63 at HO_282002 HO_288002 HO_295002 BK268 BK281 BK287 BK294 HB hHeld ⊢
         refine take_ (i := 0) (N := some 49) (v := ?_) (a' := ?_) #[true, false, false, false, false] rfl rfl (by kernel_rfl) (fun _ _ _ h => h) (Or.inl ⟨by rfl, ?_⟩) hHeld ?_ ?_
         rotate_left
         · rintro w' ⟨s0, s1, s2, s3, s4, s5⟩
           go_simp
           with_reducible rfl
         rotate_left
         · simp only [Act.put, sA, sB, sC, i64_w, i32_w]
           rfl
         refine take_ (i := 1) (N := some 50) (v := ?_) (a' := ?_) #[true, true, false, false, false] rfl rfl (by kernel_rfl) (fun _ _ _ h => h) (Or.inl ⟨by rfl, ?_⟩) hHeld ?_ ?_
         rotate_left
         · rintro w' ⟨s0, s1, s2, s3, s4, s5⟩
           go_simp
           with_reducible rfl
         rotate_left
         · simp only [Act.put, sA, sB, sC, i64_w, i32_w]
           rfl
         refine one_ (i := 2) (N := some 51) #[true, true, true, false, false] rfl rfl (by kernel_rfl) (by decide) (fun K hK => ?_)
         refine goes_ Try.func17 (by kernel_rfl) rfl #[.agg #[.int .i64 a0_0, .int .i64 a0_1, .slice A0_2 l0_2.length c0_2]] (by rfl) rfl rfl (by (try simp only [List.map_toArray, List.map_cons, List.map_nil]); first | done | rfl | (simp only [List.length_drop, List.length_take]; rfl)) ?_
         with_reducible refine (laws_toTiling.calls kj12 a0_0 a0_1 _ _ l0_2 t296 t297 t298 _ ?side1 ?side2 A58.out).mono ?_
         (case side1 => exact cb_ HR0_2.out HB.out)
         (case side2 => exact HC0_2.out)
         rintro e w64 ⟨v299, rfl, ho0, hb⟩
         refine ⟨_, rfl, ?_⟩
         have n0_ := mkA (Kd.R_elder' (by (with_reducible repeat (first | apply Kd.R_alloc | apply Kd.R_drewN | apply Kd.R_drew)); exact HO_282002.out) (Kd.R_base ho0) hb)
         have n1_ := mkA (Kd.R_elder' (by (with_reducible repeat (first | apply Kd.R_alloc | apply Kd.R_drewN | apply Kd.R_drew)); exact HO_288002.out) (Kd.R_base ho0) hb)
         have n2_ := mkA (Kd.R_elder' (by (with_reducible repeat (first | apply Kd.R_alloc | apply Kd.R_drewN | apply Kd.R_drew)); exact HO_295002.out) (Kd.R_base ho0) hb)
         have n3_ := mkA (Kd.R_lower (Kd.R_new' (Kd.R_new' (Kd.R_new' ho0 (Kd.R_lt (by (with_reducible repeat (first | apply Kd.R_alloc | apply Kd.R_drewN | apply Kd.R_drew)); exact HO_282002.out))) (Kd.R_lt (by (with_reducible repeat (first | apply Kd.R_alloc | apply Kd.R_drewN | apply Kd.R_drew)); exact HO_288002.out))) (Kd.R_lt (by (with_reducible repeat (first | apply Kd.R_alloc | apply Kd.R_drewN | apply Kd.R_drew)); exact HO_295002.out))) (below_size (bs4_ HB.out GE268.out GE281.out GE287.out GE294.out)))
         have n4_ := mkA (blk_below (g := gb268) (o := .cells #[.int .i64 a0_0, .int .i64 a0_1, .slice A0_2 l0_2.length c0_2] 24 (0, 0)) (bl_ BK268.out) hb)
         have n5_ := mkA (blk_below (g := gb281) (o := .cells #[.int .i64 t275, .int .i64 t276, .slice Ao24 t277.length co24] 29 (0, 0)) (bl_ BK281.out) hb)
         have n6_ := mkA (blk_below (g := gb287) (o := .cells #[.int .i64 t282, .int .i64 t283, .slice Ao31 t284.length co31] 29 (0, 0)) (bl_ BK287.out) hb)
         have n7_ := mkA (blk_below (g := gb294) (o := .cells #[.int .i64 t288, .int .i64 t289, .slice Ao38 t290.length co38] 29 (0, 0)) (bl_ BK294.out) hb)
         have n8_ := mkA (below_step (bs4_ HB.out GE268.out GE281.out GE287.out GE294.out) hb)
         clear HO_282002
         clear HO_288002
         clear HO_295002
         clear BK268
         clear BK281
         clear BK287
         clear BK294
         clear HB
         have HO_282002 := n0_
         have HO_288002 := n1_
         have HO_295002 := n2_
         have HO300 := n3_
         have BK268 := n4_
         have BK281 := n5_
         have BK287 := n6_
         have BK294 := n7_
         have HB := n8_
         clear n0_ n1_ n2_ n3_ n4_ n5_ n6_ n7_ n8_
         (try clear hb)
         (try clear hb2)
         (try clear hk)
         (try clear hi)
         (try clear ho0)
         obtain ⟨Ao65, co65, eo65⟩ := Kd.R_slice HO300.out
         (first | subst eo65 | (injection eo65 with f1_ f2_ f3_; have f4_ := f1_.symm; have f5_ := f3_.symm; clear f1_ f2_ f3_; subst f4_; subst f5_))
         refine hK.out _ _ ⟨(blk_cell BK287.out 0).trans rfl, (blk_cell BK287.out 1).trans rfl, (blk_cell BK287.out 2).trans rfl, (blk_cell BK268.out 0).trans rfl, (blk_cell BK268.out 1).trans rfl, (blk_cell BK268.out 2).trans rfl⟩ (fun hHeld => ?_)
         clear hK K
         refine norm_ (a' := ?_) ?_ ?_
         rotate_left
         · show Act.put _ (some 51) _ = _
           simp only [Act.put, sA, sB, sC, i64_w, i32_w]
           rfl
         refine one_ (i := 3) (N := some 52) #[true, true, true, true, false] rfl rfl (by kernel_rfl) (by decide) (fun K hK => ?_)
         refine goes_ Try.func20 (by kernel_rfl) rfl #[.agg #[.int .i64 t282, .int .i64 t283, .slice Ao31 t284.length co31], .agg #[.int .i64 t296, .int .i64 t297, .slice Ao65 t298.length co65]] (by rfl) rfl rfl (by (try simp only [List.map_toArray, List.map_cons, List.map_nil]); first | done | rfl | (simp only [List.length_drop, List.length_take]; rfl)) ?_
         with_reducible refine (laws_eqTiling.calls kj12 t282 t283 _ _ t284 t296 t297 _ _ t298 true _ ?side1 ?side2 ?side3 ?side4 A59.out).mono ?_
         (case side1 => repeat (first | exact (Kd.R_reads' HO_288002.out).2.2 | (with_reducible refine Kd.C_alloc ?_ _) | (with_reducible refine Kd.C_drewN ?_ _) | (with_reducible refine Kd.C_drew ?_)))
         (case side2 => exact (Kd.R_reads' HO_288002.out).2.1)
         (case side3 => repeat (first | exact (Kd.R_reads' HO300.out).2.2 | (with_reducible refine Kd.C_alloc ?_ _) | (with_reducible refine Kd.C_drewN ?_ _) | (with_reducible refine Kd.C_drew ?_)))
         (case side4 => exact (Kd.R_reads' HO300.out).2.1)
         rintro e w66 ⟨rfl, hb⟩
         refine ⟨_, rfl, ?_⟩
         have n0_ := mkA (Kd.R_below (by (with_reducible repeat (first | apply Kd.R_alloc | apply Kd.R_drewN | apply Kd.R_drew)); exact HO_282002.out) hb)
         have n1_ := mkA (Kd.R_below (by (with_reducible repeat (first | apply Kd.R_alloc | apply Kd.R_drewN | apply Kd.R_drew)); exact HO_288002.out) hb)
         have n2_ := mkA (Kd.R_below (by (with_reducible repeat (first | apply Kd.R_alloc | apply Kd.R_drewN | apply Kd.R_drew)); exact HO_295002.out) hb)
         have n3_ := mkA (Kd.R_below (by (with_reducible repeat (first | apply Kd.R_alloc | apply Kd.R_drewN | apply Kd.R_drew)); exact HO300.out) hb)
         have n4_ := mkA (blk_below (g := gb268) (o := .cells #[.int .i64 a0_0, .int .i64 a0_1, .slice A0_2 l0_2.length c0_2] 24 (0, 0)) (bl_ BK268.out) hb)
         have n5_ := mkA (blk_below (g := gb281) (o := .cells #[.int .i64 t275, .int .i64 t276, .slice Ao24 t277.length co24] 29 (0, 0)) (bl_ BK281.out) hb)
         have n6_ := mkA (blk_below (g := gb287) (o := .cells #[.int .i64 t282, .int .i64 t283, .slice Ao31 t284.length co31] 29 (0, 0)) (bl_ BK287.out) hb)
         have n7_ := mkA (blk_below (g := gb294) (o := .cells #[.int .i64 t288, .int .i64 t289, .slice Ao38 t290.length co38] 29 (0, 0)) (bl_ BK294.out) hb)
         have n8_ := mkA (below_step (bs4_ HB.out GE268.out GE281.out GE287.out GE294.out) hb)
         clear HO_282002
         clear HO_288002
         clear HO_295002
         clear HO300
         clear BK268
         clear BK281
         clear BK287
         clear BK294
         clear HB
         have HO_282002 := n0_
         have HO_288002 := n1_
         have HO_295002 := n2_
         have HO300 := n3_
         have BK268 := n4_
         have BK281 := n5_
         have BK287 := n6_
         have BK294 := n7_
         have HB := n8_
         clear n0_ n1_ n2_ n3_ n4_ n5_ n6_ n7_ n8_
         (try clear hb)
         (try clear hb2)
         (try clear hk)
         (try clear hi)
         refine hK.out _ _ ⟨(blk_cell BK287.out 0).trans rfl, (blk_cell BK287.out 1).trans rfl, (blk_cell BK287.out 2).trans rfl, (blk_cell BK268.out 0).trans rfl, (blk_cell BK268.out 1).trans rfl, (blk_cell BK268.out 2).trans rfl⟩ (fun hHeld => ?_)
         clear hK K
         refine norm_ (a' := ?_) ?_ ?_
         rotate_left
         · show Act.put _ (some 52) _ = _
           simp only [Act.put, sA, sB, sC, i64_w, i32_w]
           rfl
         refine pure_ (i := 4) (N := some 53) (v := ?_) (a' := ?_) #[true, true, true, true, true] rfl rfl (by kernel_rfl) (fun _ _ _ h => h) (Or.inl ⟨by rfl, ?_⟩) ?_ ?_
         rotate_left
         · intro w'
           go_simp
           with_reducible rfl
         rotate_left
         · simp only [Act.put, sA, sB, sC, i64_w, i32_w]
           rfl
         refine done_ (by kernel_rfl) ?_
         have hnb67 := NB287_268.out
         have hnc67 := NB268_287.out
         have hnb68 := NB287_281.out
         have hnc68 := NB281_287.out
         have hnb69 := NB287_294.out
         have hnc69 := NB294_287.out
         have hcz70_0 : w66.cell? ⟨gb287, 0, none⟩ = some (.int .i64 t282) := (blk_cell BK287.out 0).trans rfl
         have hcz70_1 : w66.cell? ⟨gb287, 1, none⟩ = some (.int .i64 t283) := (blk_cell BK287.out 1).trans rfl
         have hcz70_2 : w66.cell? ⟨gb287, 2, none⟩ = some (.slice Ao31 t284.length co31) := (blk_cell BK287.out 2).trans rfl
         have hfz70_0 := blk_frozen BK287.out 0
         have hfz70_1 := blk_frozen BK287.out 1
         have hfz70_2 := blk_frozen BK287.out 2
         go_upto_region 14 with (first | ((with_reducible refine gate_callee (f := 26) rfl ?_); refine goesL_ (some 56) rfl rfl Try.func26 (by kernel_rfl) rfl #[.agg #[.int .i64 t282, .int .i64 t283, .slice Ao31 t284.length co31], .int .i64 1] rfl (by (try simp only [List.map_toArray, List.map_cons, List.map_nil]); first | done | rfl | (simp only [List.length_drop, List.length_take]; rfl)) ?_; (with_reducible refine (laws_markTiling.calls kj12 t282 t283 (fun k_ => some k_ = (.slice Ao31 t284.length co31 : Value).ownBlock) (.slice Ao31 t284.length co31) t284 1 t302 t303 w _ ?side1 ?side2 A61.out).mono ?_); (case side1 => repeat (first | (with_reducible first | exact HB.out | apply below_alloc | apply pw_below_drewN | apply below_drew1 | refine below_set ?_ GE268.out | refine below_set ?_ GE281.out | refine below_set ?_ GE287.out | refine below_set ?_ GE294.out) | exact HB.out)); (case side2 => exact Kd.R_tight rfl HO_288002.out); rintro e w71 ⟨rfl, hy0, hb, hkp⟩; refine ⟨_, rfl, ?_⟩; have n0_ := mkA (Kd.R_mono (ok' := fun k_ => some k_ ≠ (.slice Ao31 t284.length co31 : Value).ownBlock ∧ some k_ ≠ (.slice Ao38 t290.length co38 : Value).ownBlock ∧ some k_ ≠ (.slice Ao65 t298.length co65 : Value).ownBlock) (Kd.R_keptB (HO_282002.out) hkp (fun k_ hk_ hs_ => (hk_.1.1) hs_)) (fun k_ hk_ => ⟨hk_.1.1.1, hk_.1.1.2, hk_.1.2⟩)); have n1_ := mkA (Kd.R_reok rfl hy0 (fun k_ e_ => HO_288002.out.1 k_ e_)); have n2_ := mkA (Kd.R_mono (ok' := fun k_ => some k_ ≠ (.slice Ao24 t277.length co24 : Value).ownBlock ∧ some k_ ≠ (.slice Ao31 t284.length co31 : Value).ownBlock ∧ some k_ ≠ (.slice Ao65 t298.length co65 : Value).ownBlock) (Kd.R_keptB (HO_295002.out) hkp (fun k_ hk_ hs_ => (hk_.1.2) hs_)) (fun k_ hk_ => ⟨hk_.1.1.1, hk_.1.1.2, hk_.1.2⟩)); have n3_ := mkA (blk_kept (bl_ BK268.out) hkp (fun hs_ => (fun e_ => (Kd.R_ne HO_288002.out BK268.out (by decide)) e_) hs_)); have n4_ := mkA (blk_kept (bl_ BK281.out) hkp (fun hs_ => (fun e_ => (Kd.R_ne HO_288002.out BK281.out (by decide)) e_) hs_)); have n5_ := mkA (blk_kept (bl_ BK287.out) hkp (fun hs_ => (fun e_ => (Kd.R_ne HO_288002.out BK287.out (by decide)) e_) hs_)); have n6_ := mkA (blk_kept (bl_ BK294.out) hkp (fun hs_ => (fun e_ => (Kd.R_ne HO_288002.out BK294.out (by decide)) e_) hs_)); have n7_ := mkA (Kd.R_mono (ok' := fun k_ => some k_ ≠ (.slice Ao24 t277.length co24 : Value).ownBlock ∧ some k_ ≠ (.slice Ao31 t284.length co31 : Value).ownBlock ∧ some k_ ≠ (.slice Ao38 t290.length co38 : Value).ownBlock) (Kd.R_keptB (HO300.out) hkp (fun k_ hk_ hs_ => (hk_.1.2) hs_)) (fun k_ hk_ => ⟨hk_.1.1.1.2, hk_.1.1.2, hk_.1.2⟩)); have n8_ := mkA (hb); clear HO_282002; clear HO_288002; clear HO_295002; clear BK268; clear BK281; clear BK287; clear BK294; clear HO300; clear HB; have HO_282002 := n0_; have HO_288002 := n1_; have HO_295002 := n2_; have BK268 := n3_; have BK281 := n4_; have BK287 := n5_; have BK294 := n6_; have HO300 := n7_; have HB := n8_; clear n0_ n1_ n2_ n3_ n4_ n5_ n6_ n7_ n8_; (try clear hb); (try clear hkp); (try clear hy0)))
         (try simp only [Act.put, sA, sB, sC])
         go_cut [69] (fun v69 wc => ∃ (kq : Nat) (x69_61 : Bool), v69 = .bool x69_61 ∧ Aside0 (laws_FnExactShiftTiling.j1 kq a1 a2 t280 x69_61 a0_0 a0_1 l0_2 t275 t276 t277 t288 t289 t290 = some r) ∧ Aside0 (kq ≤ kj12) ∧ Aside0 (Kd.R (Kd.int .i64) 2 wc w.heap.size (fun k_ => some k_ ≠ ((.slice Ao31 t284.length co31) : Value).ownBlock ∧ some k_ ≠ ((.slice Ao38 t290.length co38) : Value).ownBlock) (.slice Ao24 t277.length co24) t277) ∧ Aside0 (Kd.R (Kd.int .i64) 2 wc w.heap.size (fun k_ => some k_ ≠ ((.slice Ao24 t277.length co24) : Value).ownBlock ∧ some k_ ≠ ((.slice Ao38 t290.length co38) : Value).ownBlock) (.slice Ao31 t284.length co31) t303) ∧ Aside0 (Kd.R (Kd.int .i64) 2 wc w.heap.size (fun k_ => some k_ ≠ ((.slice Ao24 t277.length co24) : Value).ownBlock ∧ some k_ ≠ ((.slice Ao31 t284.length co31) : Value).ownBlock) (.slice Ao38 t290.length co38) t290) ∧ Aside0 (wc.heap[gb268]? = some (.cells #[.int .i64 a0_0, .int .i64 a0_1, (.slice A0_2 l0_2.length c0_2)] 24 (0, 0))) ∧ Aside0 (wc.heap[gb281]? = some (.cells #[.int .i64 t275, .int .i64 t276, (.slice Ao24 t277.length co24)] 29 (0, 0))) ∧ Aside0 (wc.heap[gb287]? = some (.cells #[.int .i64 t282, .int .i64 t283, (.slice Ao31 t284.length co31)] 29 (0, 0))) ∧ Aside0 (wc.heap[gb294]? = some (.cells #[.int .i64 t288, .int .i64 t289, (.slice Ao38 t290.length co38)] 29 (0, 0))) ∧ Aside0 (Below w.heap.size w wc))
         case first =>
          have H := HC62.out
          clear HC62
          by_cases c72 : t302 < 0
          · rw [if_pos c72] at H
            have c72b0 : decide (t302 < 0) = true := decide_eq_true c72
            clear c72
            (first | rw [c72b0] | (simp only [i64_w, i32_w]; rw [c72b0]) | skip)
            have H' := mkA H
            clear H
            go_wp2
            go_meet
            case rel => exact ⟨_, (true), (by first | rfl | (simp; done) | (simp [*]; done) | (simp [i64_w, i32_w]; done)), H', ⟨by have := HJ12.out; first | omega | exact Nat.le_refl _⟩, ⟨by (with_reducible repeat (first | apply Kd.R_alloc | apply Kd.R_drewN | apply Kd.R_drew)); exact Kd.R_mono HO_282002.out (fun _ hk => ⟨hk.1, hk.2.1⟩)⟩, ⟨by (with_reducible repeat (first | apply Kd.R_alloc | apply Kd.R_drewN | apply Kd.R_drew)); exact Kd.R_mono HO_288002.out (fun _ hk => ⟨hk.1.1, hk.1.2⟩)⟩, ⟨by (with_reducible repeat (first | apply Kd.R_alloc | apply Kd.R_drewN | apply Kd.R_drew)); exact Kd.R_mono HO_295002.out (fun _ hk => ⟨hk.1, hk.2.1⟩)⟩, ⟨by (with_reducible repeat (first | refine blk_drewN ?_ _ | refine blk_drew ?_ | refine blk_alloc ?_ _)); exact BK268.out⟩, ⟨by (with_reducible repeat (first | refine blk_drewN ?_ _ | refine blk_drew ?_ | refine blk_alloc ?_ _)); exact BK281.out⟩, ⟨by (with_reducible repeat (first | refine blk_drewN ?_ _ | refine blk_drew ?_ | refine blk_alloc ?_ _)); exact BK287.out⟩, ⟨by (with_reducible repeat (first | refine blk_drewN ?_ _ | refine blk_drew ?_ | refine blk_alloc ?_ _)); exact BK294.out⟩, ⟨by repeat (first | (with_reducible first | exact HB.out | apply below_alloc | apply pw_below_drewN | apply below_drew1 | refine below_set ?_ GE268.out | refine below_set ?_ GE281.out | refine below_set ?_ GE287.out | refine below_set ?_ GE294.out) | exact HB.out)⟩⟩
          · rw [if_neg c72] at H
            have c72b0 : decide (t302 < 0) = false := decide_eq_false c72
            clear c72
            (first | rw [c72b0] | (simp only [i64_w, i32_w]; rw [c72b0]) | skip)
            replace H := Option.bind_eq_some_iff.mp H
            obtain ⟨t304, A730, H⟩ := H
            replace H : (if t304 = true then (laws_FnExactShiftTiling.j1 kj12 a1 a2 t280 (t293 != t280) a0_0 a0_1 l0_2 t275 t276 t277 t288 t289 t290) else (laws_FnExactShiftTiling.j1 kj12 a1 a2 t280 true a0_0 a0_1 l0_2 t275 t276 t277 t288 t289 t290)) = some r := H
            have A73 := mkA A730
            clear A730
            by_cases c74 : t304 = true
            · subst c74
              have H1 : (laws_FnExactShiftTiling.j1 kj12 a1 a2 t280 (t293 != t280) a0_0 a0_1 l0_2 t275 t276 t277 t288 t289 t290) = some r := by rw [if_pos rfl] at H; exact H
              clear H
              have H := H1
              clear H1
              have H' := mkA H
              clear H
              have hnb75 := NB294_268.out
              have hnc75 := NB268_294.out
              have hnb76 := NB294_281.out
              have hnc76 := NB281_294.out
              have hnb77 := NB294_287.out
              have hnc77 := NB287_294.out
              have hcz78_0 : w71.cell? ⟨gb294, 0, none⟩ = some (.int .i64 t288) := (blk_cell BK294.out 0).trans rfl
              have hcz78_1 : w71.cell? ⟨gb294, 1, none⟩ = some (.int .i64 t289) := (blk_cell BK294.out 1).trans rfl
              have hcz78_2 : w71.cell? ⟨gb294, 2, none⟩ = some (.slice Ao38 t290.length co38) := (blk_cell BK294.out 2).trans rfl
              have hfz78_0 := blk_frozen BK294.out 0
              have hfz78_1 := blk_frozen BK294.out 1
              have hfz78_2 := blk_frozen BK294.out 2
              have hnb79 := NB281_268.out
              have hnc79 := NB268_281.out
              have hnb80 := NB281_287.out
              have hnc80 := NB287_281.out
              have hcz81_0 : w71.cell? ⟨gb281, 0, none⟩ = some (.int .i64 t275) := (blk_cell BK281.out 0).trans rfl
              have hcz81_1 : w71.cell? ⟨gb281, 1, none⟩ = some (.int .i64 t276) := (blk_cell BK281.out 1).trans rfl
              have hcz81_2 : w71.cell? ⟨gb281, 2, none⟩ = some (.slice Ao24 t277.length co24) := (blk_cell BK281.out 2).trans rfl
              have hfz81_0 := blk_frozen BK281.out 0
              have hfz81_1 := blk_frozen BK281.out 1
              have hfz81_2 := blk_frozen BK281.out 2
              go_wp2_with (first | (go_at_call 20; (with_reducible refine (laws_eqTiling.calls kj12 t288 t289 _ _ t290 t275 t276 _ _ t277 true _ ?side1 ?side2 ?side3 ?side4 A73.out).mono ?_); (case side1 => repeat (first | exact (Kd.R_reads' HO_295002.out).2.2 | (with_reducible refine Kd.C_alloc ?_ _) | (with_reducible refine Kd.C_drewN ?_ _) | (with_reducible refine Kd.C_drew ?_))); (case side2 => exact (Kd.R_reads' HO_295002.out).2.1); (case side3 => repeat (first | exact (Kd.R_reads' HO_282002.out).2.2 | (with_reducible refine Kd.C_alloc ?_ _) | (with_reducible refine Kd.C_drewN ?_ _) | (with_reducible refine Kd.C_drew ?_))); (case side4 => exact (Kd.R_reads' HO_282002.out).2.1); rintro e w82 ⟨rfl, hb⟩; have n0_ := mkA (Kd.R_below (by (with_reducible repeat (first | apply Kd.R_alloc | apply Kd.R_drewN | apply Kd.R_drew)); exact HO_282002.out) hb); have n1_ := mkA (Kd.R_below (by (with_reducible repeat (first | apply Kd.R_alloc | apply Kd.R_drewN | apply Kd.R_drew)); exact HO_288002.out) hb); have n2_ := mkA (Kd.R_below (by (with_reducible repeat (first | apply Kd.R_alloc | apply Kd.R_drewN | apply Kd.R_drew)); exact HO_295002.out) hb); have n3_ := mkA (Kd.R_below (by (with_reducible repeat (first | apply Kd.R_alloc | apply Kd.R_drewN | apply Kd.R_drew)); exact HO300.out) hb); have n4_ := mkA (blk_below (g := gb268) (o := .cells #[.int .i64 a0_0, .int .i64 a0_1, .slice A0_2 l0_2.length c0_2] 24 (0, 0)) (bl_ BK268.out) hb); have n5_ := mkA (blk_below (g := gb281) (o := .cells #[.int .i64 t275, .int .i64 t276, .slice Ao24 t277.length co24] 29 (0, 0)) (bl_ BK281.out) hb); have n6_ := mkA (blk_below (g := gb287) (o := .cells #[.int .i64 t282, .int .i64 t283, .slice Ao31 t284.length co31] 29 (0, 0)) (bl_ BK287.out) hb); have n7_ := mkA (blk_below (g := gb294) (o := .cells #[.int .i64 t288, .int .i64 t289, .slice Ao38 t290.length co38] 29 (0, 0)) (bl_ BK294.out) hb); have n8_ := mkA (below_step (bs4_ HB.out GE268.out GE281.out GE287.out GE294.out) hb); clear HO_282002; clear HO_288002; clear HO_295002; clear HO300; clear BK268; clear BK281; clear BK287; clear BK294; clear HB; have HO_282002 := n0_; have HO_288002 := n1_; have HO_295002 := n2_; have HO300 := n3_; have BK268 := n4_; have BK281 := n5_; have BK287 := n6_; have BK294 := n7_; have HB := n8_; clear n0_ n1_ n2_ n3_ n4_ n5_ n6_ n7_ n8_; (try clear hb); (try clear hb2); (try clear hk); (try clear hi)))
              go_meet
              case rel => exact ⟨_, ((t293 != t280)), (by first | rfl | (simp; done) | (simp [*]; done) | (simp [i64_w, i32_w]; done)), H', ⟨by have := HJ12.out; first | omega | exact Nat.le_refl _⟩, ⟨by (with_reducible repeat (first | apply Kd.R_alloc | apply Kd.R_drewN | apply Kd.R_drew)); exact Kd.R_mono HO_282002.out (fun _ hk => ⟨hk.1, hk.2.1⟩)⟩, ⟨by (with_reducible repeat (first | apply Kd.R_alloc | apply Kd.R_drewN | apply Kd.R_drew)); exact Kd.R_mono HO_288002.out (fun _ hk => ⟨hk.1.1, hk.1.2⟩)⟩, ⟨by (with_reducible repeat (first | apply Kd.R_alloc | apply Kd.R_drewN | apply Kd.R_drew)); exact Kd.R_mono HO_295002.out (fun _ hk => ⟨hk.1, hk.2.1⟩)⟩, ⟨by (with_reducible repeat (first | refine blk_drewN ?_ _ | refine blk_drew ?_ | refine blk_alloc ?_ _)); exact BK268.out⟩, ⟨by (with_reducible repeat (first | refine blk_drewN ?_ _ | refine blk_drew ?_ | refine blk_alloc ?_ _)); exact BK281.out⟩, ⟨by (with_reducible repeat (first | refine blk_drewN ?_ _ | refine blk_drew ?_ | refine blk_alloc ?_ _)); exact BK287.out⟩, ⟨by (with_reducible repeat (first | refine blk_drewN ?_ _ | refine blk_drew ?_ | refine blk_alloc ?_ _)); exact BK294.out⟩, ⟨by repeat (first | (with_reducible first | exact HB.out | apply below_alloc | apply pw_below_drewN | apply below_drew1 | refine below_set ?_ GE268.out | refine below_set ?_ GE281.out | refine below_set ?_ GE287.out | refine below_set ?_ GE294.out) | exact HB.out)⟩⟩
            · replace c74 := Bool.eq_false_iff.mpr c74
              subst c74
              have H1 : (laws_FnExactShiftTiling.j1 kj12 a1 a2 t280 true a0_0 a0_1 l0_2 t275 t276 t277 t288 t289 t290) = some r := by rw [if_neg (show ¬ (false = true) by decide)] at H; exact H
              clear H
              have H := H1
              clear H1
              have H' := mkA H
              clear H
              have hnb83 := NB294_268.out
              have hnc83 := NB268_294.out
              have hnb84 := NB294_281.out
              have hnc84 := NB281_294.out
              have hnb85 := NB294_287.out
              have hnc85 := NB287_294.out
              have hcz86_0 : w71.cell? ⟨gb294, 0, none⟩ = some (.int .i64 t288) := (blk_cell BK294.out 0).trans rfl
              have hcz86_1 : w71.cell? ⟨gb294, 1, none⟩ = some (.int .i64 t289) := (blk_cell BK294.out 1).trans rfl
              have hcz86_2 : w71.cell? ⟨gb294, 2, none⟩ = some (.slice Ao38 t290.length co38) := (blk_cell BK294.out 2).trans rfl
              have hfz86_0 := blk_frozen BK294.out 0
              have hfz86_1 := blk_frozen BK294.out 1
              have hfz86_2 := blk_frozen BK294.out 2
              have hnb87 := NB281_268.out
              have hnc87 := NB268_281.out
              have hnb88 := NB281_287.out
              have hnc88 := NB287_281.out
              have hcz89_0 : w71.cell? ⟨gb281, 0, none⟩ = some (.int .i64 t275) := (blk_cell BK281.out 0).trans rfl
              have hcz89_1 : w71.cell? ⟨gb281, 1, none⟩ = some (.int .i64 t276) := (blk_cell BK281.out 1).trans rfl
              have hcz89_2 : w71.cell? ⟨gb281, 2, none⟩ = some (.slice Ao24 t277.length co24) := (blk_cell BK281.out 2).trans rfl
              have hfz89_0 := blk_frozen BK281.out 0
              have hfz89_1 := blk_frozen BK281.out 1
              have hfz89_2 := blk_frozen BK281.out 2
              go_wp2_with (first | (go_at_call 20; (with_reducible refine (laws_eqTiling.calls kj12 t288 t289 _ _ t290 t275 t276 _ _ t277 false _ ?side1 ?side2 ?side3 ?side4 A73.out).mono ?_); (case side1 => repeat (first | exact (Kd.R_reads' HO_295002.out).2.2 | (with_reducible refine Kd.C_alloc ?_ _) | (with_reducible refine Kd.C_drewN ?_ _) | (with_reducible refine Kd.C_drew ?_))); (case side2 => exact (Kd.R_reads' HO_295002.out).2.1); (case side3 => repeat (first | exact (Kd.R_reads' HO_282002.out).2.2 | (with_reducible refine Kd.C_alloc ?_ _) | (with_reducible refine Kd.C_drewN ?_ _) | (with_reducible refine Kd.C_drew ?_))); (case side4 => exact (Kd.R_reads' HO_282002.out).2.1); rintro e w90 ⟨rfl, hb⟩; have n0_ := mkA (Kd.R_below (by (with_reducible repeat (first | apply Kd.R_alloc | apply Kd.R_drewN | apply Kd.R_drew)); exact HO_282002.out) hb); have n1_ := mkA (Kd.R_below (by (with_reducible repeat (first | apply Kd.R_alloc | apply Kd.R_drewN | apply Kd.R_drew)); exact HO_288002.out) hb); have n2_ := mkA (Kd.R_below (by (with_reducible repeat (first | apply Kd.R_alloc | apply Kd.R_drewN | apply Kd.R_drew)); exact HO_295002.out) hb); have n3_ := mkA (Kd.R_below (by (with_reducible repeat (first | apply Kd.R_alloc | apply Kd.R_drewN | apply Kd.R_drew)); exact HO300.out) hb); have n4_ := mkA (blk_below (g := gb268) (o := .cells #[.int .i64 a0_0, .int .i64 a0_1, .slice A0_2 l0_2.length c0_2] 24 (0, 0)) (bl_ BK268.out) hb); have n5_ := mkA (blk_below (g := gb281) (o := .cells #[.int .i64 t275, .int .i64 t276, .slice Ao24 t277.length co24] 29 (0, 0)) (bl_ BK281.out) hb); have n6_ := mkA (blk_below (g := gb287) (o := .cells #[.int .i64 t282, .int .i64 t283, .slice Ao31 t284.length co31] 29 (0, 0)) (bl_ BK287.out) hb); have n7_ := mkA (blk_below (g := gb294) (o := .cells #[.int .i64 t288, .int .i64 t289, .slice Ao38 t290.length co38] 29 (0, 0)) (bl_ BK294.out) hb); have n8_ := mkA (below_step (bs4_ HB.out GE268.out GE281.out GE287.out GE294.out) hb); clear HO_282002; clear HO_288002; clear HO_295002; clear HO300; clear BK268; clear BK281; clear BK287; clear BK294; clear HB; have HO_282002 := n0_; have HO_288002 := n1_; have HO_295002 := n2_; have HO300 := n3_; have BK268 := n4_; have BK281 := n5_; have BK287 := n6_; have BK294 := n7_; have HB := n8_; clear n0_ n1_ n2_ n3_ n4_ n5_ n6_ n7_ n8_; (try clear hb); (try clear hb2); (try clear hk); (try clear hi)))
              go_meet
              case rel => exact ⟨_, (true), (by first | rfl | (simp; done) | (simp [*]; done) | (simp [i64_w, i32_w]; done)), H', ⟨by have := HJ12.out; first | omega | exact Nat.le_refl _⟩, ⟨by (with_reducible repeat (first | apply Kd.R_alloc | apply Kd.R_drewN | apply Kd.R_drew)); exact Kd.R_mono HO_282002.out (fun _ hk => ⟨hk.1, hk.2.1⟩)⟩, ⟨by (with_reducible repeat (first | apply Kd.R_alloc | apply Kd.R_drewN | apply Kd.R_drew)); exact Kd.R_mono HO_288002.out (fun _ hk => ⟨hk.1.1, hk.1.2⟩)⟩, ⟨by (with_reducible repeat (first | apply Kd.R_alloc | apply Kd.R_drewN | apply Kd.R_drew)); exact Kd.R_mono HO_295002.out (fun _ hk => ⟨hk.1, hk.2.1⟩)⟩, ⟨by (with_reducible repeat (first | refine blk_drewN ?_ _ | refine blk_drew ?_ | refine blk_alloc ?_ _)); exact BK268.out⟩, ⟨by (with_reducible repeat (first | refine blk_drewN ?_ _ | refine blk_drew ?_ | refine blk_alloc ?_ _)); exact BK281.out⟩, ⟨by (with_reducible repeat (first | refine blk_drewN ?_ _ | refine blk_drew ?_ | refine blk_alloc ?_ _)); exact BK287.out⟩, ⟨by (with_reducible repeat (first | refine blk_drewN ?_ _ | refine blk_drew ?_ | refine blk_alloc ?_ _)); exact BK294.out⟩, ⟨by repeat (first | (with_reducible first | exact HB.out | apply below_alloc | apply pw_below_drewN | apply below_drew1 | refine below_set ?_ GE268.out | refine below_set ?_ GE281.out | refine below_set ?_ GE287.out | refine below_set ?_ GE294.out) | exact HB.out)⟩⟩
         case rest =>
          clear HC62
          try clear c1
          try clear c2
          try clear p2
          try clear c3
          try clear c4
          try clear c5
          try clear c5b0
          try clear c6
          try clear c7
          try clear c8
          try clear c15
          try clear c17
          try clear c20
          try clear c22
          try clear c26
          try clear c28
          try clear c29
          try clear c30
          try clear c34
          try clear c35
          try clear c36
          try clear c40
          try clear c41
          try clear c42
          try clear c43
          try clear c45
          try clear c46
          try clear c49
          try clear c50
          try clear c51
          try clear c53
          try clear c54
          try clear c57
          try clear c60
          try clear c67
          try clear c68
          try clear c69
          try clear c72
          try clear c72b0
          try clear c74
          try clear c75
          try clear c76
          try clear c77
          try clear c79
          try clear c80
          try clear c83
          try clear c84
          try clear c85
          try clear c87
          try clear c88
          try clear hcz15_0
          try clear hcz15_1
          try clear hcz15_2
          try clear hcz17_0
          try clear hcz17_1
          try clear hcz17_2
          try clear hcz23_0
          try clear hcz23_1
          try clear hcz23_2
          try clear hcz25_0
          try clear hcz25_1
          try clear hcz25_2
          try clear hcz30_0
          try clear hcz30_1
          try clear hcz30_2
          try clear hcz37_0
          try clear hcz37_1
          try clear hcz37_2
          try clear hcz44_0
          try clear hcz44_1
          try clear hcz44_2
          try clear hcz47_0
          try clear hcz47_1
          try clear hcz47_2
          try clear hcz52_0
          try clear hcz52_1
          try clear hcz52_2
          try clear hcz55_0
          try clear hcz55_1
          try clear hcz55_2
          try clear hcz70_0
          try clear hcz70_1
          try clear hcz70_2
          try clear hcz78_0
          try clear hcz78_1
          try clear hcz78_2
          try clear hcz7_0
          try clear hcz7_1
          try clear hcz7_2
          try clear hcz81_0
          try clear hcz81_1
          try clear hcz81_2
          try clear hcz86_0
          try clear hcz86_1
          try clear hcz86_2
          try clear hcz89_0
          try clear hcz89_1
          try clear hcz89_2
          try clear hfz15_0
          try clear hfz15_1
          try clear hfz15_2
          try clear hfz17_0
          try clear hfz17_1
          try clear hfz17_2
          try clear hfz23_0
          try clear hfz23_1
          try clear hfz23_2
          try clear hfz25_0
          try clear hfz25_1
          try clear hfz25_2
          try clear hfz30_0
          try clear hfz30_1
          try clear hfz30_2
          try clear hfz37_0
          try clear hfz37_1
          try clear hfz37_2
          try clear hfz44_0
          try clear hfz44_1
          try clear hfz44_2
          try clear hfz47_0
          try clear hfz47_1
          try clear hfz47_2
          try clear hfz52_0
          try clear hfz52_1
          try clear hfz52_2
          try clear hfz55_0
          try clear hfz55_1
          try clear hfz55_2
          try clear hfz70_0
          try clear hfz70_1
          try clear hfz70_2
          try clear hfz78_0
          try clear hfz78_1
          try clear hfz78_2
          try clear hfz7_0
          try clear hfz7_1
          try clear hfz7_2
          try clear hfz81_0
          try clear hfz81_1
          try clear hfz81_2
          try clear hfz86_0
          try clear hfz86_1
          try clear hfz86_2
          try clear hfz89_0
          try clear hfz89_1
          try clear hfz89_2
          try clear p2
          obtain ⟨kq, x69_61, rfl, HA, HJ61, HO_282002, HO_288002, HO_295002, BK268, BK281, BK287, BK294, HB⟩ := hcut
          have hl288002_61 := (Kd.R_reads' HO_288002.out).1
          rw [hl288002_61] at HO_288002
          (try simp only [hl288002_61])
          (try simp only [hl288002_61] at BK268)
          (try simp only [hl288002_61] at BK281)
          (try simp only [hl288002_61] at BK287)
          (try simp only [hl288002_61] at BK294)
          (try simp only [hl288002_61] at HO_282002)
          (try simp only [hl288002_61] at HO_295002)
          cases kq with
          | zero => exact absurd HA.out (by simp [laws_FnExactShiftTiling.j1])
          | succ kj61 =>
           have H := HA.out
           clear HA
           simp only [laws_FnExactShiftTiling.j1] at H
           by_cases c91 : x69_61 = true
           · subst c91
             have H1 : (some false) = some r := by rw [if_pos rfl] at H; exact H
             clear H
             have H := H1
             clear H1
             obtain rfl := Option.some.inj H
             go_wp2
             go_ret
             exact ⟨by first | rfl | (simp [errW_none, errW_some] <;> rfl) | (simp [*, errW_none, errW_some] <;> rfl), by repeat (first | (with_reducible first | exact HB.out | apply below_alloc | apply pw_below_drewN | apply below_drew1 | refine below_set ?_ GE268.out | refine below_set ?_ GE281.out | refine below_set ?_ GE287.out | refine below_set ?_ GE294.out) | exact HB.out)⟩
           · replace c91 := Bool.eq_false_iff.mpr c91
             subst c91
             have H1 : ((laws_markTiling.f kj61 t288 t289 t290 1).bind fun bt305 => ((laws_heldTiling.f kj61 t288 t289 bt305.2 1).bind fun t307 => (if t307 < 0 then (some false) else (if t307 = bt305.1 then ((laws_toTiling.f kj61 a0_0 a0_1 l0_2).bind fun bt308 => ((impl_ShiftTiling.f kj61 bt308.1 bt308.2.1 bt308.2.2 a1 a2).bind fun bt313 => ((laws_eqTiling.f kj61 bt313.1 bt313.2.1 bt313.2.2.1 t275 t276 t277).bind fun t320 => (if t320 = true then (laws_FnExactShiftTiling.j2 kj61 bt305.1 (bt313.2.2.2 != t280) t288 t289 bt305.2) else (laws_FnExactShiftTiling.j2 kj61 bt305.1 true t288 t289 bt305.2))))) else (some false))))) = some r := by rw [if_neg (show ¬ (false = true) by decide)] at H; exact H
             clear H
             have H := H1
             clear H1
             replace H := Option.bind_eq_some_iff.mp H
             obtain ⟨⟨t305, t306⟩, A920, H⟩ := H
             replace H : ((laws_heldTiling.f kj61 t288 t289 t306 1).bind fun t307 => (if t307 < 0 then (some false) else (if t307 = t305 then ((laws_toTiling.f kj61 a0_0 a0_1 l0_2).bind fun bt308 => ((impl_ShiftTiling.f kj61 bt308.1 bt308.2.1 bt308.2.2 a1 a2).bind fun bt313 => ((laws_eqTiling.f kj61 bt313.1 bt313.2.1 bt313.2.2.1 t275 t276 t277).bind fun t320 => (if t320 = true then (laws_FnExactShiftTiling.j2 kj61 t305 (bt313.2.2.2 != t280) t288 t289 t306) else (laws_FnExactShiftTiling.j2 kj61 t305 true t288 t289 t306))))) else (some false)))) = some r := H
             have A92 := mkA A920
             clear A920
             replace H := Option.bind_eq_some_iff.mp H
             obtain ⟨t307, A930, H⟩ := H
             replace H : (if t307 < 0 then (some false) else (if t307 = t305 then ((laws_toTiling.f kj61 a0_0 a0_1 l0_2).bind fun bt308 => ((impl_ShiftTiling.f kj61 bt308.1 bt308.2.1 bt308.2.2 a1 a2).bind fun bt313 => ((laws_eqTiling.f kj61 bt313.1 bt313.2.1 bt313.2.2.1 t275 t276 t277).bind fun t320 => (if t320 = true then (laws_FnExactShiftTiling.j2 kj61 t305 (bt313.2.2.2 != t280) t288 t289 t306) else (laws_FnExactShiftTiling.j2 kj61 t305 true t288 t289 t306))))) else (some false))) = some r := H
             have A93 := mkA A930
             clear A930
             by_cases c94 : t307 < 0
             · rw [if_pos c94] at H
               have c94b0 : decide (t307 < 0) = true := decide_eq_true c94
               clear c94
               obtain rfl := Option.some.inj H
               have hnb95 := NB294_268.out
               have hnc95 := NB268_294.out
               have hnb96 := NB294_281.out
               have hnc96 := NB281_294.out
               have hnb97 := NB294_287.out
               have hnc97 := NB287_294.out
               have hcz98_0 : wc.cell? ⟨gb294, 0, none⟩ = some (.int .i64 t288) := (blk_cell BK294.out 0).trans rfl
               have hcz98_1 : wc.cell? ⟨gb294, 1, none⟩ = some (.int .i64 t289) := (blk_cell BK294.out 1).trans rfl
               have hcz98_2 : wc.cell? ⟨gb294, 2, none⟩ = some (.slice Ao38 t290.length co38) := (blk_cell BK294.out 2).trans rfl
               have hfz98_0 := blk_frozen BK294.out 0
               have hfz98_1 := blk_frozen BK294.out 1
               have hfz98_2 := blk_frozen BK294.out 2
               go_wp2_with (first | ((with_reducible refine gate_callee (f := 26) rfl ?_); refine goesL_ (some 72) rfl rfl Try.func26 (by kernel_rfl) rfl #[.agg #[.int .i64 t288, .int .i64 t289, .slice Ao38 t290.length co38], .int .i64 1] rfl (by (try simp only [List.map_toArray, List.map_cons, List.map_nil]); first | done | rfl | (simp only [List.length_drop, List.length_take]; rfl)) ?_; (with_reducible refine (laws_markTiling.calls kj61 t288 t289 (fun k_ => some k_ = (.slice Ao38 t290.length co38 : Value).ownBlock) (.slice Ao38 t290.length co38) t290 1 t305 t306 w _ ?side1 ?side2 A92.out).mono ?_); (case side1 => repeat (first | (with_reducible first | exact HB.out | apply below_alloc | apply pw_below_drewN | apply below_drew1 | refine below_set ?_ GE268.out | refine below_set ?_ GE281.out | refine below_set ?_ GE287.out | refine below_set ?_ GE294.out) | exact HB.out)); (case side2 => exact Kd.R_tight rfl HO_295002.out); rintro e w99 ⟨rfl, hy0, hb, hkp⟩; refine ⟨_, rfl, ?_⟩; have n0_ := mkA (Kd.R_mono (ok' := fun k_ => some k_ ≠ (.slice Ao31 t303.length co31 : Value).ownBlock ∧ some k_ ≠ (.slice Ao38 t290.length co38 : Value).ownBlock) (Kd.R_keptB (HO_282002.out) hkp (fun k_ hk_ hs_ => (hk_.2) hs_)) (fun k_ hk_ => ⟨hk_.1.1, hk_.1.2⟩)); have n1_ := mkA (Kd.R_mono (ok' := fun k_ => some k_ ≠ (.slice Ao24 t277.length co24 : Value).ownBlock ∧ some k_ ≠ (.slice Ao38 t290.length co38 : Value).ownBlock) (Kd.R_keptB (HO_288002.out) hkp (fun k_ hk_ hs_ => (hk_.2) hs_)) (fun k_ hk_ => ⟨hk_.1.1, hk_.1.2⟩)); have n2_ := mkA (Kd.R_reok rfl hy0 (fun k_ e_ => HO_295002.out.1 k_ e_)); have n3_ := mkA (blk_kept (bl_ BK268.out) hkp (fun hs_ => (fun e_ => (Kd.R_ne HO_295002.out BK268.out (by decide)) e_) hs_)); have n4_ := mkA (blk_kept (bl_ BK281.out) hkp (fun hs_ => (fun e_ => (Kd.R_ne HO_295002.out BK281.out (by decide)) e_) hs_)); have n5_ := mkA (blk_kept (bl_ BK287.out) hkp (fun hs_ => (fun e_ => (Kd.R_ne HO_295002.out BK287.out (by decide)) e_) hs_)); have n6_ := mkA (blk_kept (bl_ BK294.out) hkp (fun hs_ => (fun e_ => (Kd.R_ne HO_295002.out BK294.out (by decide)) e_) hs_)); have n7_ := mkA (hb); clear HO_282002; clear HO_288002; clear HO_295002; clear BK268; clear BK281; clear BK287; clear BK294; clear HB; have HO_282002 := n0_; have HO_288002 := n1_; have HO_295002 := n2_; have BK268 := n3_; have BK281 := n4_; have BK287 := n5_; have BK294 := n6_; have HB := n7_; clear n0_ n1_ n2_ n3_ n4_ n5_ n6_ n7_; (try clear hb); (try clear hkp); (try clear hy0); have hcz100_0 : w99.cell? ⟨gb294, 0, none⟩ = some (.int .i64 t288) := (blk_cell BK294.out 0).trans rfl; have hcz100_1 : w99.cell? ⟨gb294, 1, none⟩ = some (.int .i64 t289) := (blk_cell BK294.out 1).trans rfl; have hcz100_2 : w99.cell? ⟨gb294, 2, none⟩ = some (.slice Ao38 t290.length co38) := (blk_cell BK294.out 2).trans rfl; have hfz100_0 := blk_frozen BK294.out 0; have hfz100_1 := blk_frozen BK294.out 1; have hfz100_2 := blk_frozen BK294.out 2) | ((with_reducible refine gate_callee (f := 31) rfl ?_); refine goesL_ (some 75) rfl rfl Try.func31 (by kernel_rfl) rfl #[.agg #[.int .i64 t288, .int .i64 t289, .slice Ao38 t306.length co38], .int .i64 1] rfl (by (try simp only [List.map_toArray, List.map_cons, List.map_nil]); first | done | (rw [show t306.length = t290.length from (Kd.R_reads' HO_295002.out).1.symm] <;> rfl) | rfl | (simp only [List.length_drop, List.length_take]; rfl)) ?_; (with_reducible refine (laws_heldTiling.calls kj61 t288 t289 _ _ t306 1 t307 _ ?side1 ?side2 A93.out).mono ?_); (case side1 => repeat (first | exact (Kd.R_reads' HO_295002.out).2.2 | (with_reducible refine Kd.C_alloc ?_ _) | (with_reducible refine Kd.C_drewN ?_ _) | (with_reducible refine Kd.C_drew ?_))); (case side2 => rw [show t306.length = t290.length from (Kd.R_reads' HO_295002.out).1.symm]; exact (Kd.R_reads' HO_295002.out).2.1); rintro e w101 ⟨rfl, hb⟩; refine ⟨_, rfl, ?_⟩; have n0_ := mkA (Kd.R_below (by (with_reducible repeat (first | apply Kd.R_alloc | apply Kd.R_drewN | apply Kd.R_drew)); exact HO_282002.out) hb); have n1_ := mkA (Kd.R_below (by (with_reducible repeat (first | apply Kd.R_alloc | apply Kd.R_drewN | apply Kd.R_drew)); exact HO_288002.out) hb); have n2_ := mkA (Kd.R_below (by (with_reducible repeat (first | apply Kd.R_alloc | apply Kd.R_drewN | apply Kd.R_drew)); exact HO_295002.out) hb); have n3_ := mkA (blk_below (g := gb268) (o := .cells #[.int .i64 a0_0, .int .i64 a0_1, .slice A0_2 l0_2.length c0_2] 24 (0, 0)) (bl_ BK268.out) hb); have n4_ := mkA (blk_below (g := gb281) (o := .cells #[.int .i64 t275, .int .i64 t276, .slice Ao24 t277.length co24] 29 (0, 0)) (bl_ BK281.out) hb); have n5_ := mkA (blk_below (g := gb287) (o := .cells #[.int .i64 t282, .int .i64 t283, .slice Ao31 t303.length co31] 29 (0, 0)) (bl_ BK287.out) hb); have n6_ := mkA (blk_below (g := gb294) (o := .cells #[.int .i64 t288, .int .i64 t289, .slice Ao38 t290.length co38] 29 (0, 0)) (bl_ BK294.out) hb); have n7_ := mkA (below_step (bs4_ HB.out GE268.out GE281.out GE287.out GE294.out) hb); clear HO_282002; clear HO_288002; clear HO_295002; clear BK268; clear BK281; clear BK287; clear BK294; clear HB; have HO_282002 := n0_; have HO_288002 := n1_; have HO_295002 := n2_; have BK268 := n3_; have BK281 := n4_; have BK287 := n5_; have BK294 := n6_; have HB := n7_; clear n0_ n1_ n2_ n3_ n4_ n5_ n6_ n7_; (try clear hb); (try clear hb2); (try clear hk); (try clear hi)))
               go_ret
               exact ⟨by first | rfl | (simp [errW_none, errW_some] <;> rfl) | (simp [*, errW_none, errW_some] <;> rfl), by repeat (first | (with_reducible first | exact HB.out | apply below_alloc | apply pw_below_drewN | apply below_drew1 | refine below_set ?_ GE268.out | refine below_set ?_ GE281.out | refine below_set ?_ GE287.out | refine below_set ?_ GE294.out) | exact HB.out)⟩
             · rw [if_neg c94] at H
               have c94b0 : decide (t307 < 0) = false := decide_eq_false c94
               clear c94
               by_cases c102 : t307 = t305
               · rw [if_pos c102] at H
                 have c102b0 : (t307 == t305) = true := beq_iff_eq.mpr c102
                 have c102b1 : (t307 != t305) = false := bne_eq_false_iff_eq.mpr c102
                 clear c102
                 replace H := Option.bind_eq_some_iff.mp H
                 obtain ⟨⟨t308, t309, t310⟩, A1030, H⟩ := H
                 replace H : ((impl_ShiftTiling.f kj61 t308 t309 t310 a1 a2).bind fun bt313 => ((laws_eqTiling.f kj61 bt313.1 bt313.2.1 bt313.2.2.1 t275 t276 t277).bind fun t320 => (if t320 = true then (laws_FnExactShiftTiling.j2 kj61 t305 (bt313.2.2.2 != t280) t288 t289 t306) else (laws_FnExactShiftTiling.j2 kj61 t305 true t288 t289 t306)))) = some r := H
                 have A103 := mkA A1030
                 clear A1030
                 replace H := Option.bind_eq_some_iff.mp H
                 obtain ⟨⟨t313, t314, t315, t318⟩, A1040, H⟩ := H
                 replace H : ((laws_eqTiling.f kj61 t313 t314 t315 t275 t276 t277).bind fun t320 => (if t320 = true then (laws_FnExactShiftTiling.j2 kj61 t305 (t318 != t280) t288 t289 t306) else (laws_FnExactShiftTiling.j2 kj61 t305 true t288 t289 t306))) = some r := H
                 have A104 := mkA A1040
                 clear A1040
                 have HC105 := mkA H
                 clear H
                 have hnb106 := NB294_268.out
                 have hnc106 := NB268_294.out
                 have hnb107 := NB294_281.out
                 have hnc107 := NB281_294.out
                 have hnb108 := NB294_287.out
                 have hnc108 := NB287_294.out
                 have hcz109_0 : wc.cell? ⟨gb294, 0, none⟩ = some (.int .i64 t288) := (blk_cell BK294.out 0).trans rfl
                 have hcz109_1 : wc.cell? ⟨gb294, 1, none⟩ = some (.int .i64 t289) := (blk_cell BK294.out 1).trans rfl
                 have hcz109_2 : wc.cell? ⟨gb294, 2, none⟩ = some (.slice Ao38 t290.length co38) := (blk_cell BK294.out 2).trans rfl
                 have hfz109_0 := blk_frozen BK294.out 0
                 have hfz109_1 := blk_frozen BK294.out 1
                 have hfz109_2 := blk_frozen BK294.out 2
                 go_upto_region 25 with (first | ((with_reducible refine gate_callee (f := 26) rfl ?_); refine goesL_ (some 72) rfl rfl Try.func26 (by kernel_rfl) rfl #[.agg #[.int .i64 t288, .int .i64 t289, .slice Ao38 t290.length co38], .int .i64 1] rfl (by (try simp only [List.map_toArray, List.map_cons, List.map_nil]); first | done | rfl | (simp only [List.length_drop, List.length_take]; rfl)) ?_; (with_reducible refine (laws_markTiling.calls kj61 t288 t289 (fun k_ => some k_ = (.slice Ao38 t290.length co38 : Value).ownBlock) (.slice Ao38 t290.length co38) t290 1 t305 t306 w _ ?side1 ?side2 A92.out).mono ?_); (case side1 => repeat (first | (with_reducible first | exact HB.out | apply below_alloc | apply pw_below_drewN | apply below_drew1 | refine below_set ?_ GE268.out | refine below_set ?_ GE281.out | refine below_set ?_ GE287.out | refine below_set ?_ GE294.out) | exact HB.out)); (case side2 => exact Kd.R_tight rfl HO_295002.out); rintro e w110 ⟨rfl, hy0, hb, hkp⟩; refine ⟨_, rfl, ?_⟩; have n0_ := mkA (Kd.R_mono (ok' := fun k_ => some k_ ≠ (.slice Ao31 t303.length co31 : Value).ownBlock ∧ some k_ ≠ (.slice Ao38 t290.length co38 : Value).ownBlock) (Kd.R_keptB (HO_282002.out) hkp (fun k_ hk_ hs_ => (hk_.2) hs_)) (fun k_ hk_ => ⟨hk_.1.1, hk_.1.2⟩)); have n1_ := mkA (Kd.R_mono (ok' := fun k_ => some k_ ≠ (.slice Ao24 t277.length co24 : Value).ownBlock ∧ some k_ ≠ (.slice Ao38 t290.length co38 : Value).ownBlock) (Kd.R_keptB (HO_288002.out) hkp (fun k_ hk_ hs_ => (hk_.2) hs_)) (fun k_ hk_ => ⟨hk_.1.1, hk_.1.2⟩)); have n2_ := mkA (Kd.R_reok rfl hy0 (fun k_ e_ => HO_295002.out.1 k_ e_)); have n3_ := mkA (blk_kept (bl_ BK268.out) hkp (fun hs_ => (fun e_ => (Kd.R_ne HO_295002.out BK268.out (by decide)) e_) hs_)); have n4_ := mkA (blk_kept (bl_ BK281.out) hkp (fun hs_ => (fun e_ => (Kd.R_ne HO_295002.out BK281.out (by decide)) e_) hs_)); have n5_ := mkA (blk_kept (bl_ BK287.out) hkp (fun hs_ => (fun e_ => (Kd.R_ne HO_295002.out BK287.out (by decide)) e_) hs_)); have n6_ := mkA (blk_kept (bl_ BK294.out) hkp (fun hs_ => (fun e_ => (Kd.R_ne HO_295002.out BK294.out (by decide)) e_) hs_)); have n7_ := mkA (hb); clear HO_282002; clear HO_288002; clear HO_295002; clear BK268; clear BK281; clear BK287; clear BK294; clear HB; have HO_282002 := n0_; have HO_288002 := n1_; have HO_295002 := n2_; have BK268 := n3_; have BK281 := n4_; have BK287 := n5_; have BK294 := n6_; have HB := n7_; clear n0_ n1_ n2_ n3_ n4_ n5_ n6_ n7_; (try clear hb); (try clear hkp); (try clear hy0); have hcz111_0 : w110.cell? ⟨gb294, 0, none⟩ = some (.int .i64 t288) := (blk_cell BK294.out 0).trans rfl; have hcz111_1 : w110.cell? ⟨gb294, 1, none⟩ = some (.int .i64 t289) := (blk_cell BK294.out 1).trans rfl; have hcz111_2 : w110.cell? ⟨gb294, 2, none⟩ = some (.slice Ao38 t290.length co38) := (blk_cell BK294.out 2).trans rfl; have hfz111_0 := blk_frozen BK294.out 0; have hfz111_1 := blk_frozen BK294.out 1; have hfz111_2 := blk_frozen BK294.out 2) | ((with_reducible refine gate_callee (f := 31) rfl ?_); refine goesL_ (some 75) rfl rfl Try.func31 (by kernel_rfl) rfl #[.agg #[.int .i64 t288, .int .i64 t289, .slice Ao38 t306.length co38], .int .i64 1] rfl (by (try simp only [List.map_toArray, List.map_cons, List.map_nil]); first | done | (rw [show t306.length = t290.length from (Kd.R_reads' HO_295002.out).1.symm] <;> rfl) | rfl | (simp only [List.length_drop, List.length_take]; rfl)) ?_; (with_reducible refine (laws_heldTiling.calls kj61 t288 t289 _ _ t306 1 t307 _ ?side1 ?side2 A93.out).mono ?_); (case side1 => repeat (first | exact (Kd.R_reads' HO_295002.out).2.2 | (with_reducible refine Kd.C_alloc ?_ _) | (with_reducible refine Kd.C_drewN ?_ _) | (with_reducible refine Kd.C_drew ?_))); (case side2 => rw [show t306.length = t290.length from (Kd.R_reads' HO_295002.out).1.symm]; exact (Kd.R_reads' HO_295002.out).2.1); rintro e w112 ⟨rfl, hb⟩; refine ⟨_, rfl, ?_⟩; have n0_ := mkA (Kd.R_below (by (with_reducible repeat (first | apply Kd.R_alloc | apply Kd.R_drewN | apply Kd.R_drew)); exact HO_282002.out) hb); have n1_ := mkA (Kd.R_below (by (with_reducible repeat (first | apply Kd.R_alloc | apply Kd.R_drewN | apply Kd.R_drew)); exact HO_288002.out) hb); have n2_ := mkA (Kd.R_below (by (with_reducible repeat (first | apply Kd.R_alloc | apply Kd.R_drewN | apply Kd.R_drew)); exact HO_295002.out) hb); have n3_ := mkA (blk_below (g := gb268) (o := .cells #[.int .i64 a0_0, .int .i64 a0_1, .slice A0_2 l0_2.length c0_2] 24 (0, 0)) (bl_ BK268.out) hb); have n4_ := mkA (blk_below (g := gb281) (o := .cells #[.int .i64 t275, .int .i64 t276, .slice Ao24 t277.length co24] 29 (0, 0)) (bl_ BK281.out) hb); have n5_ := mkA (blk_below (g := gb287) (o := .cells #[.int .i64 t282, .int .i64 t283, .slice Ao31 t303.length co31] 29 (0, 0)) (bl_ BK287.out) hb); have n6_ := mkA (blk_below (g := gb294) (o := .cells #[.int .i64 t288, .int .i64 t289, .slice Ao38 t290.length co38] 29 (0, 0)) (bl_ BK294.out) hb); have n7_ := mkA (below_step (bs4_ HB.out GE268.out GE281.out GE287.out GE294.out) hb); clear HO_282002; clear HO_288002; clear HO_295002; clear BK268; clear BK281; clear BK287; clear BK294; clear HB; have HO_282002 := n0_; have HO_288002 := n1_; have HO_295002 := n2_; have BK268 := n3_; have BK281 := n4_; have BK287 := n5_; have BK294 := n6_; have HB := n7_; clear n0_ n1_ n2_ n3_ n4_ n5_ n6_ n7_; (try clear hb); (try clear hb2); (try clear hk); (try clear hi); have hnb113 := NB268_281.out; have hnc113 := NB281_268.out; have hnb114 := NB268_287.out; have hnc114 := NB287_268.out; have hcz115_0 : w112.cell? ⟨gb268, 0, none⟩ = some (.int .i64 a0_0) := (blk_cell BK268.out 0).trans rfl; have hcz115_1 : w112.cell? ⟨gb268, 1, none⟩ = some (.int .i64 a0_1) := (blk_cell BK268.out 1).trans rfl; have hcz115_2 : w112.cell? ⟨gb268, 2, none⟩ = some (.slice A0_2 l0_2.length c0_2) := (blk_cell BK268.out 2).trans rfl; have hfz115_0 := blk_frozen BK268.out 0; have hfz115_1 := blk_frozen BK268.out 1; have hfz115_2 := blk_frozen BK268.out 2) | ((with_reducible refine gate_callee (f := 17) rfl ?_); refine goesL_ (some 83) rfl rfl Try.func17 (by kernel_rfl) rfl #[.agg #[.int .i64 a0_0, .int .i64 a0_1, .slice A0_2 l0_2.length c0_2]] rfl (by (try simp only [List.map_toArray, List.map_cons, List.map_nil]); first | done | rfl | (simp only [List.length_drop, List.length_take]; rfl)) ?_; (with_reducible refine (laws_toTiling.calls kj61 a0_0 a0_1 _ _ l0_2 t308 t309 t310 _ ?side1 ?side2 A103.out).mono ?_); (case side1 => exact cb_ HR0_2.out HB.out); (case side2 => exact HC0_2.out); rintro e w116 ⟨v311, rfl, ho0, hb⟩; refine ⟨_, rfl, ?_⟩; have n0_ := mkA (Kd.R_elder' (by (with_reducible repeat (first | apply Kd.R_alloc | apply Kd.R_drewN | apply Kd.R_drew)); exact HO_282002.out) (Kd.R_base ho0) hb); have n1_ := mkA (Kd.R_elder' (by (with_reducible repeat (first | apply Kd.R_alloc | apply Kd.R_drewN | apply Kd.R_drew)); exact HO_288002.out) (Kd.R_base ho0) hb); have n2_ := mkA (Kd.R_elder' (by (with_reducible repeat (first | apply Kd.R_alloc | apply Kd.R_drewN | apply Kd.R_drew)); exact HO_295002.out) (Kd.R_base ho0) hb); have n3_ := mkA (Kd.R_lower (Kd.R_new' (Kd.R_new' (Kd.R_new' ho0 (Kd.R_lt (by (with_reducible repeat (first | apply Kd.R_alloc | apply Kd.R_drewN | apply Kd.R_drew)); exact HO_282002.out))) (Kd.R_lt (by (with_reducible repeat (first | apply Kd.R_alloc | apply Kd.R_drewN | apply Kd.R_drew)); exact HO_288002.out))) (Kd.R_lt (by (with_reducible repeat (first | apply Kd.R_alloc | apply Kd.R_drewN | apply Kd.R_drew)); exact HO_295002.out))) (below_size (bs4_ HB.out GE268.out GE281.out GE287.out GE294.out))); have n4_ := mkA (blk_below (g := gb268) (o := .cells #[.int .i64 a0_0, .int .i64 a0_1, .slice A0_2 l0_2.length c0_2] 24 (0, 0)) (bl_ BK268.out) hb); have n5_ := mkA (blk_below (g := gb281) (o := .cells #[.int .i64 t275, .int .i64 t276, .slice Ao24 t277.length co24] 29 (0, 0)) (bl_ BK281.out) hb); have n6_ := mkA (blk_below (g := gb287) (o := .cells #[.int .i64 t282, .int .i64 t283, .slice Ao31 t303.length co31] 29 (0, 0)) (bl_ BK287.out) hb); have n7_ := mkA (blk_below (g := gb294) (o := .cells #[.int .i64 t288, .int .i64 t289, .slice Ao38 t290.length co38] 29 (0, 0)) (bl_ BK294.out) hb); have n8_ := mkA (below_step (bs4_ HB.out GE268.out GE281.out GE287.out GE294.out) hb); clear HO_282002; clear HO_288002; clear HO_295002; clear BK268; clear BK281; clear BK287; clear BK294; clear HB; have HO_282002 := n0_; have HO_288002 := n1_; have HO_295002 := n2_; have HO312 := n3_; have BK268 := n4_; have BK281 := n5_; have BK287 := n6_; have BK294 := n7_; have HB := n8_; clear n0_ n1_ n2_ n3_ n4_ n5_ n6_ n7_ n8_; (try clear hb); (try clear hb2); (try clear hk); (try clear hi); (try clear ho0); obtain ⟨Ao117, co117, eo117⟩ := Kd.R_slice HO312.out; subst eo117) | ((with_reducible refine gate_callee (f := 30) rfl ?_); refine goesL_ (some 86) rfl rfl Try.func30 (by kernel_rfl) rfl #[.agg #[.int .i64 t308, .int .i64 t309, .slice Ao117 t310.length co117], .int .i64 a1, .int .i64 a2] rfl (by (try simp only [List.map_toArray, List.map_cons, List.map_nil]); first | done | rfl | (simp only [List.length_drop, List.length_take]; rfl)) ?_; (with_reducible refine (impl_ShiftTiling.calls kj61 t308 t309 _ _ t310 a1 a2 t313 t314 t315 t318 _ ?side1 ?side2 A104.out).mono ?_); (case side1 => repeat (first | exact (Kd.R_reads' HO312.out).2.2 | (with_reducible refine Kd.C_alloc ?_ _) | (with_reducible refine Kd.C_drewN ?_ _) | (with_reducible refine Kd.C_drew ?_))); (case side2 => exact (Kd.R_reads' HO312.out).2.1); rintro e w118 ⟨v316, rfl, ho0, hb⟩; refine ⟨_, rfl, ?_⟩; have n0_ := mkA (Kd.R_elder' (by (with_reducible repeat (first | apply Kd.R_alloc | apply Kd.R_drewN | apply Kd.R_drew)); exact HO_282002.out) (Kd.R_base ho0) hb); have n1_ := mkA (Kd.R_elder' (by (with_reducible repeat (first | apply Kd.R_alloc | apply Kd.R_drewN | apply Kd.R_drew)); exact HO_288002.out) (Kd.R_base ho0) hb); have n2_ := mkA (Kd.R_elder' (by (with_reducible repeat (first | apply Kd.R_alloc | apply Kd.R_drewN | apply Kd.R_drew)); exact HO_295002.out) (Kd.R_base ho0) hb); have n3_ := mkA (Kd.R_elder' (by (with_reducible repeat (first | apply Kd.R_alloc | apply Kd.R_drewN | apply Kd.R_drew)); exact HO312.out) (Kd.R_base ho0) hb); have n4_ := mkA (Kd.R_lower (Kd.R_new' (Kd.R_new' (Kd.R_new' (Kd.R_new' ho0 (Kd.R_lt (by (with_reducible repeat (first | apply Kd.R_alloc | apply Kd.R_drewN | apply Kd.R_drew)); exact HO_282002.out))) (Kd.R_lt (by (with_reducible repeat (first | apply Kd.R_alloc | apply Kd.R_drewN | apply Kd.R_drew)); exact HO_288002.out))) (Kd.R_lt (by (with_reducible repeat (first | apply Kd.R_alloc | apply Kd.R_drewN | apply Kd.R_drew)); exact HO_295002.out))) (Kd.R_lt (by (with_reducible repeat (first | apply Kd.R_alloc | apply Kd.R_drewN | apply Kd.R_drew)); exact HO312.out))) (below_size (bs4_ HB.out GE268.out GE281.out GE287.out GE294.out))); have n5_ := mkA (blk_below (g := gb268) (o := .cells #[.int .i64 a0_0, .int .i64 a0_1, .slice A0_2 l0_2.length c0_2] 24 (0, 0)) (bl_ BK268.out) hb); have n6_ := mkA (blk_below (g := gb281) (o := .cells #[.int .i64 t275, .int .i64 t276, .slice Ao24 t277.length co24] 29 (0, 0)) (bl_ BK281.out) hb); have n7_ := mkA (blk_below (g := gb287) (o := .cells #[.int .i64 t282, .int .i64 t283, .slice Ao31 t303.length co31] 29 (0, 0)) (bl_ BK287.out) hb); have n8_ := mkA (blk_below (g := gb294) (o := .cells #[.int .i64 t288, .int .i64 t289, .slice Ao38 t290.length co38] 29 (0, 0)) (bl_ BK294.out) hb); have n9_ := mkA (below_step (bs4_ HB.out GE268.out GE281.out GE287.out GE294.out) hb); clear HO_282002; clear HO_288002; clear HO_295002; clear HO312; clear BK268; clear BK281; clear BK287; clear BK294; clear HB; have HO_282002 := n0_; have HO_288002 := n1_; have HO_295002 := n2_; have HO312 := n3_; have HO317 := n4_; have BK268 := n5_; have BK281 := n6_; have BK287 := n7_; have BK294 := n8_; have HB := n9_; clear n0_ n1_ n2_ n3_ n4_ n5_ n6_ n7_ n8_ n9_; (try clear hb); (try clear hb2); (try clear hk); (try clear hi); (try clear ho0)) | ((with_reducible refine gate_dst (N := 16) rfl ?_); refine box_event ?hg (N := 16) ?hd (cs := #[.int .i64 0, .int .i64 0, .slice none 0 0]) (t := 29) ?hr ?_; (case hd => rfl); (case hg => rfl); (case hr => first | (go_simp; done) | (go_simp; rfl)); intro gb319 hg w119 hbox hb; have n0_ := mkA (Kd.R_below (by (with_reducible repeat (first | apply Kd.R_alloc | apply Kd.R_drewN | apply Kd.R_drew)); exact HO_282002.out) hb); have n1_ := mkA (Kd.R_below (by (with_reducible repeat (first | apply Kd.R_alloc | apply Kd.R_drewN | apply Kd.R_drew)); exact HO_288002.out) hb); have n2_ := mkA (Kd.R_below (by (with_reducible repeat (first | apply Kd.R_alloc | apply Kd.R_drewN | apply Kd.R_drew)); exact HO_295002.out) hb); have n3_ := mkA (Kd.R_below (by (with_reducible repeat (first | apply Kd.R_alloc | apply Kd.R_drewN | apply Kd.R_drew)); exact HO312.out) hb); have n4_ := mkA (Kd.R_below (by (with_reducible repeat (first | apply Kd.R_alloc | apply Kd.R_drewN | apply Kd.R_drew)); exact HO317.out) hb); have n5_ := mkA (blk_below (g := gb268) (o := .cells #[.int .i64 a0_0, .int .i64 a0_1, .slice A0_2 l0_2.length c0_2] 24 (0, 0)) (bl_ BK268.out) hb); have n6_ := mkA (blk_below (g := gb281) (o := .cells #[.int .i64 t275, .int .i64 t276, .slice Ao24 t277.length co24] 29 (0, 0)) (bl_ BK281.out) hb); have n7_ := mkA (blk_below (g := gb287) (o := .cells #[.int .i64 t282, .int .i64 t283, .slice Ao31 t303.length co31] 29 (0, 0)) (bl_ BK287.out) hb); have n8_ := mkA (blk_below (g := gb294) (o := .cells #[.int .i64 t288, .int .i64 t289, .slice Ao38 t290.length co38] 29 (0, 0)) (bl_ BK294.out) hb); have n9_ := mkA (below_step (bs4_ HB.out GE268.out GE281.out GE287.out GE294.out) hb); have n10_ := mkA (hbox); have n11_ := mkA ((by rw [hg]; exact (below_size (bs4_ HB.out GE268.out GE281.out GE287.out GE294.out)) : w.heap.size ≤ gb319)); have n12_ := mkA ((by rw [hg]; exact (below_size (bs4_ HB.out GE268.out GE281.out GE287.out GE294.out)) : w.heap.size ≤ gb319)); have n13_ := mkA ((by rw [hg]; exact Nat.ne_of_lt (blk_lt (g := gb268) (o := .cells #[.int .i64 a0_0, .int .i64 a0_1, .slice A0_2 l0_2.length c0_2] 24 (0, 0)) (bl_ BK268.out)) : gb268 ≠ gb319)); have n14_ := mkA ((by rw [hg]; exact Nat.ne_of_gt (blk_lt (g := gb268) (o := .cells #[.int .i64 a0_0, .int .i64 a0_1, .slice A0_2 l0_2.length c0_2] 24 (0, 0)) (bl_ BK268.out)) : gb319 ≠ gb268)); have n15_ := mkA ((by rw [hg]; exact Nat.ne_of_lt (blk_lt (g := gb281) (o := .cells #[.int .i64 t275, .int .i64 t276, .slice Ao24 t277.length co24] 29 (0, 0)) (bl_ BK281.out)) : gb281 ≠ gb319)); have n16_ := mkA ((by rw [hg]; exact Nat.ne_of_gt (blk_lt (g := gb281) (o := .cells #[.int .i64 t275, .int .i64 t276, .slice Ao24 t277.length co24] 29 (0, 0)) (bl_ BK281.out)) : gb319 ≠ gb281)); have n17_ := mkA ((by rw [hg]; exact Nat.ne_of_lt (blk_lt (g := gb287) (o := .cells #[.int .i64 t282, .int .i64 t283, .slice Ao31 t303.length co31] 29 (0, 0)) (bl_ BK287.out)) : gb287 ≠ gb319)); have n18_ := mkA ((by rw [hg]; exact Nat.ne_of_gt (blk_lt (g := gb287) (o := .cells #[.int .i64 t282, .int .i64 t283, .slice Ao31 t303.length co31] 29 (0, 0)) (bl_ BK287.out)) : gb319 ≠ gb287)); have n19_ := mkA ((by rw [hg]; exact Nat.ne_of_lt (blk_lt (g := gb294) (o := .cells #[.int .i64 t288, .int .i64 t289, .slice Ao38 t290.length co38] 29 (0, 0)) (bl_ BK294.out)) : gb294 ≠ gb319)); have n20_ := mkA ((by rw [hg]; exact Nat.ne_of_gt (blk_lt (g := gb294) (o := .cells #[.int .i64 t288, .int .i64 t289, .slice Ao38 t290.length co38] 29 (0, 0)) (bl_ BK294.out)) : gb319 ≠ gb294)); clear HO_282002; clear HO_288002; clear HO_295002; clear HO312; clear HO317; clear BK268; clear BK281; clear BK287; clear BK294; clear HB; have HO_282002 := n0_; have HO_288002 := n1_; have HO_295002 := n2_; have HO312 := n3_; have HO317 := n4_; have BK268 := n5_; have BK281 := n6_; have BK287 := n7_; have BK294 := n8_; have HB := n9_; have BK319 := n10_; have GW319 := n11_; have GE319 := n12_; have NB268_319 := n13_; have NB319_268 := n14_; have NB281_319 := n15_; have NB319_281 := n16_; have NB287_319 := n17_; have NB319_287 := n18_; have NB294_319 := n19_; have NB319_294 := n20_; clear n0_ n1_ n2_ n3_ n4_ n5_ n6_ n7_ n8_ n9_ n10_ n11_ n12_ n13_ n14_ n15_ n16_ n17_ n18_ n19_ n20_; clear hb hbox hg; have hnb120 := NB319_268.out; have hnc120 := NB268_319.out; have hnb121 := NB319_281.out; have hnc121 := NB281_319.out; have hnb122 := NB319_287.out; have hnc122 := NB287_319.out; have hnb123 := NB319_294.out; have hnc123 := NB294_319.out; have hcz124_0 : w119.cell? ⟨gb319, 0, none⟩ = some (.int .i64 0) := (blk_cell BK319.out 0).trans rfl; have hcz124_1 : w119.cell? ⟨gb319, 1, none⟩ = some (.int .i64 0) := (blk_cell BK319.out 1).trans rfl; have hcz124_2 : w119.cell? ⟨gb319, 2, none⟩ = some (.slice none 0 0) := (blk_cell BK319.out 2).trans rfl; have hfz124_0 := blk_frozen BK319.out 0; have hfz124_1 := blk_frozen BK319.out 1; have hfz124_2 := blk_frozen BK319.out 2; obtain ⟨Ao125, co125, eo125⟩ := Kd.R_slice HO317.out; subst eo125))
                 (try simp only [Act.put, sA, sB, sC])
                 go_cut [97] (fun v97 wc => ∃ (kq : Nat) (x97_104 : Bool), v97 = .bool x97_104 ∧ Aside0 (laws_FnExactShiftTiling.j2 kq t305 x97_104 t288 t289 t306 = some r) ∧ Aside0 (kq ≤ kj61) ∧ Aside0 (Kd.R (Kd.int .i64) 2 wc w.heap.size (fun k_ => some k_ ≠ ((.slice Ao31 t303.length co31) : Value).ownBlock ∧ some k_ ≠ ((.slice Ao38 t290.length co38) : Value).ownBlock ∧ some k_ ≠ ((.slice Ao125 t315.length co125) : Value).ownBlock) (.slice Ao24 t277.length co24) t277) ∧ Aside0 (Kd.R (Kd.int .i64) 2 wc w.heap.size (fun k_ => some k_ ≠ ((.slice Ao24 t277.length co24) : Value).ownBlock ∧ some k_ ≠ ((.slice Ao38 t290.length co38) : Value).ownBlock ∧ some k_ ≠ ((.slice Ao125 t315.length co125) : Value).ownBlock) (.slice Ao31 t303.length co31) t303) ∧ Aside0 (Kd.R (Kd.int .i64) 2 wc w.heap.size (fun k_ => some k_ ≠ ((.slice Ao24 t277.length co24) : Value).ownBlock ∧ some k_ ≠ ((.slice Ao31 t303.length co31) : Value).ownBlock ∧ some k_ ≠ ((.slice Ao125 t315.length co125) : Value).ownBlock) (.slice Ao38 t290.length co38) t306) ∧ Aside0 (Kd.R (Kd.int .i64) 2 wc w.heap.size (fun k_ => some k_ ≠ ((.slice Ao24 t277.length co24) : Value).ownBlock ∧ some k_ ≠ ((.slice Ao31 t303.length co31) : Value).ownBlock ∧ some k_ ≠ ((.slice Ao38 t290.length co38) : Value).ownBlock) (.slice Ao125 t315.length co125) t315) ∧ Aside0 (wc.heap[gb268]? = some (.cells #[.int .i64 a0_0, .int .i64 a0_1, (.slice A0_2 l0_2.length c0_2)] 24 (0, 0))) ∧ Aside0 (wc.heap[gb281]? = some (.cells #[.int .i64 t275, .int .i64 t276, (.slice Ao24 t277.length co24)] 29 (0, 0))) ∧ Aside0 (wc.heap[gb287]? = some (.cells #[.int .i64 t282, .int .i64 t283, (.slice Ao31 t303.length co31)] 29 (0, 0))) ∧ Aside0 (wc.heap[gb294]? = some (.cells #[.int .i64 t288, .int .i64 t289, (.slice Ao38 t290.length co38)] 29 (0, 0))) ∧ Aside0 (wc.heap[gb319]? = some (.cells #[.int .i64 t313, .int .i64 t314, (.slice Ao125 t315.length co125)] 29 (0, 0))) ∧ Aside0 (Below w.heap.size w wc))
                 case first =>
                  have H := HC105.out
                  clear HC105
                  replace H := Option.bind_eq_some_iff.mp H
                  obtain ⟨t320, A1260, H⟩ := H
                  replace H : (if t320 = true then (laws_FnExactShiftTiling.j2 kj61 t305 (t318 != t280) t288 t289 t306) else (laws_FnExactShiftTiling.j2 kj61 t305 true t288 t289 t306)) = some r := H
                  have A126 := mkA A1260
                  clear A1260
                  by_cases c127 : t320 = true
                  · subst c127
                    have H1 : (laws_FnExactShiftTiling.j2 kj61 t305 (t318 != t280) t288 t289 t306) = some r := by rw [if_pos rfl] at H; exact H
                    clear H
                    have H := H1
                    clear H1
                    have H' := mkA H
                    clear H
                    have hnb128 := NB319_268.out
                    have hnc128 := NB268_319.out
                    have hnb129 := NB319_281.out
                    have hnc129 := NB281_319.out
                    have hnb130 := NB319_287.out
                    have hnc130 := NB287_319.out
                    have hnb131 := NB319_294.out
                    have hnc131 := NB294_319.out
                    have hcz132_0 : w119.cell? ⟨gb319, 0, none⟩ = some (.int .i64 0) := (blk_cell BK319.out 0).trans rfl
                    have hcz132_1 : w119.cell? ⟨gb319, 1, none⟩ = some (.int .i64 0) := (blk_cell BK319.out 1).trans rfl
                    have hcz132_2 : w119.cell? ⟨gb319, 2, none⟩ = some (.slice none 0 0) := (blk_cell BK319.out 2).trans rfl
                    have hfz132_0 := blk_frozen BK319.out 0
                    have hfz132_1 := blk_frozen BK319.out 1
                    have hfz132_2 := blk_frozen BK319.out 2
                    have hnb133 := NB281_268.out
                    have hnc133 := NB268_281.out
                    have hnb134 := NB281_287.out
                    have hnc134 := NB287_281.out
                    have hnb135 := NB281_294.out
                    have hnc135 := NB294_281.out
                    have hcz136_0 : w119.cell? ⟨gb281, 0, none⟩ = some (.int .i64 t275) := (blk_cell BK281.out 0).trans rfl
                    have hcz136_1 : w119.cell? ⟨gb281, 1, none⟩ = some (.int .i64 t276) := (blk_cell BK281.out 1).trans rfl
                    have hcz136_2 : w119.cell? ⟨gb281, 2, none⟩ = some (.slice Ao24 t277.length co24) := (blk_cell BK281.out 2).trans rfl
                    have hfz136_0 := blk_frozen BK281.out 0
                    have hfz136_1 := blk_frozen BK281.out 1
                    have hfz136_2 := blk_frozen BK281.out 2
                    go_wp2_with (first | ((with_reducible refine gate_callee (f := 20) rfl ?_); refine goesL_ (some 91) rfl rfl Try.func20 (by kernel_rfl) rfl #[.agg #[.int .i64 t313, .int .i64 t314, .slice Ao125 t315.length co125], .agg #[.int .i64 t275, .int .i64 t276, .slice Ao24 t277.length co24]] rfl (by (try simp only [List.map_toArray, List.map_cons, List.map_nil]); first | done | rfl | (simp only [List.length_drop, List.length_take]; rfl)) ?_; (with_reducible refine (laws_eqTiling.calls kj61 t313 t314 _ _ t315 t275 t276 _ _ t277 true _ ?side1 ?side2 ?side3 ?side4 A126.out).mono ?_); (case side1 => refine (Kd.R_reads' (e := 2) (base := w.heap.size) (ok := fun k_ => ((((True ∧ some k_ ≠ (.slice Ao24 t277.length co24 : Value).ownBlock) ∧ some k_ ≠ (.slice Ao31 t303.length co31 : Value).ownBlock) ∧ some k_ ≠ (.slice Ao38 t290.length co38 : Value).ownBlock) ∧ some k_ ≠ (.slice Ao117 t310.length co117 : Value).ownBlock)) (n := t315.length) (c := co125) ?_).2.2; exact (by (with_reducible repeat (first | apply Kd.R_alloc | apply Kd.R_drewN | apply Kd.R_drew)); exact (Kd.R_mono (Kd.R_far (p := ⟨gb319, 2, none⟩) (Kd.R_far (p := ⟨gb319, 1, none⟩) (Kd.R_far (p := ⟨gb319, 0, none⟩) (Kd.R_types HO317.out BK319.out (by decide)) (fun _ hk => hk.2) (.int .i64 t313)) (fun _ hk => hk.2) (.int .i64 t314)) (fun _ hk => hk.2) (.slice Ao125 t315.length co125)) (fun _ h_ => h_.1)))); (case side2 => exact (Kd.R_reads' HO317.out).2.1); (case side3 => refine (Kd.R_reads' (e := 2) (base := w.heap.size) (ok := fun k_ => (((some k_ ≠ (.slice Ao31 t303.length co31 : Value).ownBlock ∧ some k_ ≠ (.slice Ao38 t290.length co38 : Value).ownBlock) ∧ some k_ ≠ (.slice Ao117 t310.length co117 : Value).ownBlock) ∧ some k_ ≠ (.slice Ao125 t315.length co125 : Value).ownBlock)) (n := t277.length) (c := co24) ?_).2.2; exact (by (with_reducible repeat (first | apply Kd.R_alloc | apply Kd.R_drewN | apply Kd.R_drew)); exact (Kd.R_mono (Kd.R_far (p := ⟨gb319, 2, none⟩) (Kd.R_far (p := ⟨gb319, 1, none⟩) (Kd.R_far (p := ⟨gb319, 0, none⟩) (Kd.R_types HO_282002.out BK319.out (by decide)) (fun _ hk => hk.2) (.int .i64 t313)) (fun _ hk => hk.2) (.int .i64 t314)) (fun _ hk => hk.2) (.slice Ao125 t315.length co125)) (fun _ h_ => h_.1)))); (case side4 => exact (Kd.R_reads' HO_282002.out).2.1); rintro e w137 ⟨rfl, hb⟩; refine ⟨_, rfl, ?_⟩; have n0_ := mkA (Kd.R_below (by (with_reducible repeat (first | apply Kd.R_alloc | apply Kd.R_drewN | apply Kd.R_drew)); exact (Kd.R_mono (Kd.R_far (p := ⟨gb319, 2, none⟩) (Kd.R_far (p := ⟨gb319, 1, none⟩) (Kd.R_far (p := ⟨gb319, 0, none⟩) (Kd.R_types HO_282002.out BK319.out (by decide)) (fun _ hk => hk.2) (.int .i64 t313)) (fun _ hk => hk.2) (.int .i64 t314)) (fun _ hk => hk.2) (.slice Ao125 t315.length co125)) (fun _ h_ => h_.1))) hb); have n1_ := mkA (Kd.R_below (by (with_reducible repeat (first | apply Kd.R_alloc | apply Kd.R_drewN | apply Kd.R_drew)); exact (Kd.R_mono (Kd.R_far (p := ⟨gb319, 2, none⟩) (Kd.R_far (p := ⟨gb319, 1, none⟩) (Kd.R_far (p := ⟨gb319, 0, none⟩) (Kd.R_types HO_288002.out BK319.out (by decide)) (fun _ hk => hk.2) (.int .i64 t313)) (fun _ hk => hk.2) (.int .i64 t314)) (fun _ hk => hk.2) (.slice Ao125 t315.length co125)) (fun _ h_ => h_.1))) hb); have n2_ := mkA (Kd.R_below (by (with_reducible repeat (first | apply Kd.R_alloc | apply Kd.R_drewN | apply Kd.R_drew)); exact (Kd.R_mono (Kd.R_far (p := ⟨gb319, 2, none⟩) (Kd.R_far (p := ⟨gb319, 1, none⟩) (Kd.R_far (p := ⟨gb319, 0, none⟩) (Kd.R_types HO_295002.out BK319.out (by decide)) (fun _ hk => hk.2) (.int .i64 t313)) (fun _ hk => hk.2) (.int .i64 t314)) (fun _ hk => hk.2) (.slice Ao125 t315.length co125)) (fun _ h_ => h_.1))) hb); have n3_ := mkA (Kd.R_below (by (with_reducible repeat (first | apply Kd.R_alloc | apply Kd.R_drewN | apply Kd.R_drew)); exact (Kd.R_mono (Kd.R_far (p := ⟨gb319, 2, none⟩) (Kd.R_far (p := ⟨gb319, 1, none⟩) (Kd.R_far (p := ⟨gb319, 0, none⟩) (Kd.R_types HO312.out BK319.out (by decide)) (fun _ hk => hk.2) (.int .i64 t313)) (fun _ hk => hk.2) (.int .i64 t314)) (fun _ hk => hk.2) (.slice Ao125 t315.length co125)) (fun _ h_ => h_.1))) hb); have n4_ := mkA (Kd.R_below (by (with_reducible repeat (first | apply Kd.R_alloc | apply Kd.R_drewN | apply Kd.R_drew)); exact (Kd.R_mono (Kd.R_far (p := ⟨gb319, 2, none⟩) (Kd.R_far (p := ⟨gb319, 1, none⟩) (Kd.R_far (p := ⟨gb319, 0, none⟩) (Kd.R_types HO317.out BK319.out (by decide)) (fun _ hk => hk.2) (.int .i64 t313)) (fun _ hk => hk.2) (.int .i64 t314)) (fun _ hk => hk.2) (.slice Ao125 t315.length co125)) (fun _ h_ => h_.1))) hb); have n5_ := mkA (blk_below (g := gb268) (o := .cells #[.int .i64 a0_0, .int .i64 a0_1, .slice A0_2 l0_2.length c0_2] 24 (0, 0)) (by (with_reducible repeat (first | refine blk_drewN ?_ _ | refine blk_drew ?_ | refine blk_alloc ?_ _)); refine blk_far ?_ NB268_319.out _; (with_reducible repeat (first | refine blk_drewN ?_ _ | refine blk_drew ?_ | refine blk_alloc ?_ _)); refine blk_far ?_ NB268_319.out _; (with_reducible repeat (first | refine blk_drewN ?_ _ | refine blk_drew ?_ | refine blk_alloc ?_ _)); refine blk_far ?_ NB268_319.out _; (with_reducible repeat (first | refine blk_drewN ?_ _ | refine blk_drew ?_ | refine blk_alloc ?_ _)); exact BK268.out) hb); have n6_ := mkA (blk_below (g := gb281) (o := .cells #[.int .i64 t275, .int .i64 t276, .slice Ao24 t277.length co24] 29 (0, 0)) (by (with_reducible repeat (first | refine blk_drewN ?_ _ | refine blk_drew ?_ | refine blk_alloc ?_ _)); refine blk_far ?_ NB281_319.out _; (with_reducible repeat (first | refine blk_drewN ?_ _ | refine blk_drew ?_ | refine blk_alloc ?_ _)); refine blk_far ?_ NB281_319.out _; (with_reducible repeat (first | refine blk_drewN ?_ _ | refine blk_drew ?_ | refine blk_alloc ?_ _)); refine blk_far ?_ NB281_319.out _; (with_reducible repeat (first | refine blk_drewN ?_ _ | refine blk_drew ?_ | refine blk_alloc ?_ _)); exact BK281.out) hb); have n7_ := mkA (blk_below (g := gb287) (o := .cells #[.int .i64 t282, .int .i64 t283, .slice Ao31 t303.length co31] 29 (0, 0)) (by (with_reducible repeat (first | refine blk_drewN ?_ _ | refine blk_drew ?_ | refine blk_alloc ?_ _)); refine blk_far ?_ NB287_319.out _; (with_reducible repeat (first | refine blk_drewN ?_ _ | refine blk_drew ?_ | refine blk_alloc ?_ _)); refine blk_far ?_ NB287_319.out _; (with_reducible repeat (first | refine blk_drewN ?_ _ | refine blk_drew ?_ | refine blk_alloc ?_ _)); refine blk_far ?_ NB287_319.out _; (with_reducible repeat (first | refine blk_drewN ?_ _ | refine blk_drew ?_ | refine blk_alloc ?_ _)); exact BK287.out) hb); have n8_ := mkA (blk_below (g := gb294) (o := .cells #[.int .i64 t288, .int .i64 t289, .slice Ao38 t290.length co38] 29 (0, 0)) (by (with_reducible repeat (first | refine blk_drewN ?_ _ | refine blk_drew ?_ | refine blk_alloc ?_ _)); refine blk_far ?_ NB294_319.out _; (with_reducible repeat (first | refine blk_drewN ?_ _ | refine blk_drew ?_ | refine blk_alloc ?_ _)); refine blk_far ?_ NB294_319.out _; (with_reducible repeat (first | refine blk_drewN ?_ _ | refine blk_drew ?_ | refine blk_alloc ?_ _)); refine blk_far ?_ NB294_319.out _; (with_reducible repeat (first | refine blk_drewN ?_ _ | refine blk_drew ?_ | refine blk_alloc ?_ _)); exact BK294.out) hb); have n9_ := mkA (blk_below (g := gb319) (o := .cells #[.int .i64 t313, .int .i64 t314, .slice Ao125 t315.length co125] 29 (0, 0)) (by (with_reducible repeat (first | refine blk_drewN ?_ _ | refine blk_drew ?_ | refine blk_alloc ?_ _)); refine blk_put (cs := #[.int .i64 t313, .int .i64 t314, .slice none 0 0]) ?_ 2 _ rfl; (with_reducible repeat (first | refine blk_drewN ?_ _ | refine blk_drew ?_ | refine blk_alloc ?_ _)); refine blk_put (cs := #[.int .i64 t313, .int .i64 0, .slice none 0 0]) ?_ 1 _ rfl; (with_reducible repeat (first | refine blk_drewN ?_ _ | refine blk_drew ?_ | refine blk_alloc ?_ _)); refine blk_put (cs := #[.int .i64 0, .int .i64 0, .slice none 0 0]) ?_ 0 _ rfl; (with_reducible repeat (first | refine blk_drewN ?_ _ | refine blk_drew ?_ | refine blk_alloc ?_ _)); exact BK319.out) hb); have n10_ := mkA (below_step (bs5_ HB.out GE268.out GE281.out GE287.out GE294.out GE319.out) hb); clear HO_282002; clear HO_288002; clear HO_295002; clear HO312; clear HO317; clear BK268; clear BK281; clear BK287; clear BK294; clear BK319; clear HB; have HO_282002 := n0_; have HO_288002 := n1_; have HO_295002 := n2_; have HO312 := n3_; have HO317 := n4_; have BK268 := n5_; have BK281 := n6_; have BK287 := n7_; have BK294 := n8_; have BK319 := n9_; have HB := n10_; clear n0_ n1_ n2_ n3_ n4_ n5_ n6_ n7_ n8_ n9_ n10_; (try clear hb); (try clear hb2); (try clear hk); (try clear hi)))
                    go_meet
                    case rel => exact ⟨_, ((t318 != t280)), (by first | rfl | (simp; done) | (simp [*]; done) | (simp [i64_w, i32_w]; done)), H', ⟨by have := HJ12.out; have := HJ61.out; first | omega | exact Nat.le_refl _⟩, ⟨by (try simp only [hl288002_61]); (with_reducible repeat (first | apply Kd.R_alloc | apply Kd.R_drewN | apply Kd.R_drew)); exact Kd.R_mono HO_282002.out (fun _ hk => ⟨hk.1.1.1, ⟨hk.1.1.2, hk.2⟩⟩)⟩, ⟨by (try simp only [hl288002_61]); (with_reducible repeat (first | apply Kd.R_alloc | apply Kd.R_drewN | apply Kd.R_drew)); exact Kd.R_mono HO_288002.out (fun _ hk => ⟨hk.1.1.1, ⟨hk.1.1.2, hk.2⟩⟩)⟩, ⟨by (try simp only [hl288002_61]); (with_reducible repeat (first | apply Kd.R_alloc | apply Kd.R_drewN | apply Kd.R_drew)); exact Kd.R_mono HO_295002.out (fun _ hk => ⟨hk.1.1.1, ⟨hk.1.1.2, hk.2⟩⟩)⟩, ⟨by (try simp only [hl288002_61]); (with_reducible repeat (first | apply Kd.R_alloc | apply Kd.R_drewN | apply Kd.R_drew)); exact Kd.R_mono HO317.out (fun _ hk => ⟨hk.1.1.1.2, ⟨hk.1.1.2, hk.1.2⟩⟩)⟩, ⟨by (try simp only [hl288002_61]); (with_reducible repeat (first | refine blk_drewN ?_ _ | refine blk_drew ?_ | refine blk_alloc ?_ _)); exact BK268.out⟩, ⟨by (try simp only [hl288002_61]); (with_reducible repeat (first | refine blk_drewN ?_ _ | refine blk_drew ?_ | refine blk_alloc ?_ _)); exact BK281.out⟩, ⟨by (try simp only [hl288002_61]); (with_reducible repeat (first | refine blk_drewN ?_ _ | refine blk_drew ?_ | refine blk_alloc ?_ _)); exact BK287.out⟩, ⟨by (try simp only [hl288002_61]); (with_reducible repeat (first | refine blk_drewN ?_ _ | refine blk_drew ?_ | refine blk_alloc ?_ _)); exact BK294.out⟩, ⟨by (try simp only [hl288002_61]); (with_reducible repeat (first | refine blk_drewN ?_ _ | refine blk_drew ?_ | refine blk_alloc ?_ _)); exact BK319.out⟩, ⟨by repeat (first | (with_reducible first | exact HB.out | apply below_alloc | apply pw_below_drewN | apply below_drew1 | refine below_set ?_ GE268.out | refine below_set ?_ GE281.out | refine below_set ?_ GE287.out | refine below_set ?_ GE294.out | refine below_set ?_ GE319.out) | exact HB.out)⟩⟩
                  · replace c127 := Bool.eq_false_iff.mpr c127
                    subst c127
                    have H1 : (laws_FnExactShiftTiling.j2 kj61 t305 true t288 t289 t306) = some r := by rw [if_neg (show ¬ (false = true) by decide)] at H; exact H
                    clear H
                    have H := H1
                    clear H1
                    have H' := mkA H
                    clear H
                    have hnb138 := NB319_268.out
                    have hnc138 := NB268_319.out
                    have hnb139 := NB319_281.out
                    have hnc139 := NB281_319.out
                    have hnb140 := NB319_287.out
                    have hnc140 := NB287_319.out
                    have hnb141 := NB319_294.out
                    have hnc141 := NB294_319.out
                    have hcz142_0 : w119.cell? ⟨gb319, 0, none⟩ = some (.int .i64 0) := (blk_cell BK319.out 0).trans rfl
                    have hcz142_1 : w119.cell? ⟨gb319, 1, none⟩ = some (.int .i64 0) := (blk_cell BK319.out 1).trans rfl
                    have hcz142_2 : w119.cell? ⟨gb319, 2, none⟩ = some (.slice none 0 0) := (blk_cell BK319.out 2).trans rfl
                    have hfz142_0 := blk_frozen BK319.out 0
                    have hfz142_1 := blk_frozen BK319.out 1
                    have hfz142_2 := blk_frozen BK319.out 2
                    have hnb143 := NB281_268.out
                    have hnc143 := NB268_281.out
                    have hnb144 := NB281_287.out
                    have hnc144 := NB287_281.out
                    have hnb145 := NB281_294.out
                    have hnc145 := NB294_281.out
                    have hcz146_0 : w119.cell? ⟨gb281, 0, none⟩ = some (.int .i64 t275) := (blk_cell BK281.out 0).trans rfl
                    have hcz146_1 : w119.cell? ⟨gb281, 1, none⟩ = some (.int .i64 t276) := (blk_cell BK281.out 1).trans rfl
                    have hcz146_2 : w119.cell? ⟨gb281, 2, none⟩ = some (.slice Ao24 t277.length co24) := (blk_cell BK281.out 2).trans rfl
                    have hfz146_0 := blk_frozen BK281.out 0
                    have hfz146_1 := blk_frozen BK281.out 1
                    have hfz146_2 := blk_frozen BK281.out 2
                    go_wp2_with (first | ((with_reducible refine gate_callee (f := 20) rfl ?_); refine goesL_ (some 91) rfl rfl Try.func20 (by kernel_rfl) rfl #[.agg #[.int .i64 t313, .int .i64 t314, .slice Ao125 t315.length co125], .agg #[.int .i64 t275, .int .i64 t276, .slice Ao24 t277.length co24]] rfl (by (try simp only [List.map_toArray, List.map_cons, List.map_nil]); first | done | rfl | (simp only [List.length_drop, List.length_take]; rfl)) ?_; (with_reducible refine (laws_eqTiling.calls kj61 t313 t314 _ _ t315 t275 t276 _ _ t277 false _ ?side1 ?side2 ?side3 ?side4 A126.out).mono ?_); (case side1 => refine (Kd.R_reads' (e := 2) (base := w.heap.size) (ok := fun k_ => ((((True ∧ some k_ ≠ (.slice Ao24 t277.length co24 : Value).ownBlock) ∧ some k_ ≠ (.slice Ao31 t303.length co31 : Value).ownBlock) ∧ some k_ ≠ (.slice Ao38 t290.length co38 : Value).ownBlock) ∧ some k_ ≠ (.slice Ao117 t310.length co117 : Value).ownBlock)) (n := t315.length) (c := co125) ?_).2.2; exact (by (with_reducible repeat (first | apply Kd.R_alloc | apply Kd.R_drewN | apply Kd.R_drew)); exact (Kd.R_mono (Kd.R_far (p := ⟨gb319, 2, none⟩) (Kd.R_far (p := ⟨gb319, 1, none⟩) (Kd.R_far (p := ⟨gb319, 0, none⟩) (Kd.R_types HO317.out BK319.out (by decide)) (fun _ hk => hk.2) (.int .i64 t313)) (fun _ hk => hk.2) (.int .i64 t314)) (fun _ hk => hk.2) (.slice Ao125 t315.length co125)) (fun _ h_ => h_.1)))); (case side2 => exact (Kd.R_reads' HO317.out).2.1); (case side3 => refine (Kd.R_reads' (e := 2) (base := w.heap.size) (ok := fun k_ => (((some k_ ≠ (.slice Ao31 t303.length co31 : Value).ownBlock ∧ some k_ ≠ (.slice Ao38 t290.length co38 : Value).ownBlock) ∧ some k_ ≠ (.slice Ao117 t310.length co117 : Value).ownBlock) ∧ some k_ ≠ (.slice Ao125 t315.length co125 : Value).ownBlock)) (n := t277.length) (c := co24) ?_).2.2; exact (by (with_reducible repeat (first | apply Kd.R_alloc | apply Kd.R_drewN | apply Kd.R_drew)); exact (Kd.R_mono (Kd.R_far (p := ⟨gb319, 2, none⟩) (Kd.R_far (p := ⟨gb319, 1, none⟩) (Kd.R_far (p := ⟨gb319, 0, none⟩) (Kd.R_types HO_282002.out BK319.out (by decide)) (fun _ hk => hk.2) (.int .i64 t313)) (fun _ hk => hk.2) (.int .i64 t314)) (fun _ hk => hk.2) (.slice Ao125 t315.length co125)) (fun _ h_ => h_.1)))); (case side4 => exact (Kd.R_reads' HO_282002.out).2.1); rintro e w147 ⟨rfl, hb⟩; refine ⟨_, rfl, ?_⟩; have n0_ := mkA (Kd.R_below (by (with_reducible repeat (first | apply Kd.R_alloc | apply Kd.R_drewN | apply Kd.R_drew)); exact (Kd.R_mono (Kd.R_far (p := ⟨gb319, 2, none⟩) (Kd.R_far (p := ⟨gb319, 1, none⟩) (Kd.R_far (p := ⟨gb319, 0, none⟩) (Kd.R_types HO_282002.out BK319.out (by decide)) (fun _ hk => hk.2) (.int .i64 t313)) (fun _ hk => hk.2) (.int .i64 t314)) (fun _ hk => hk.2) (.slice Ao125 t315.length co125)) (fun _ h_ => h_.1))) hb); have n1_ := mkA (Kd.R_below (by (with_reducible repeat (first | apply Kd.R_alloc | apply Kd.R_drewN | apply Kd.R_drew)); exact (Kd.R_mono (Kd.R_far (p := ⟨gb319, 2, none⟩) (Kd.R_far (p := ⟨gb319, 1, none⟩) (Kd.R_far (p := ⟨gb319, 0, none⟩) (Kd.R_types HO_288002.out BK319.out (by decide)) (fun _ hk => hk.2) (.int .i64 t313)) (fun _ hk => hk.2) (.int .i64 t314)) (fun _ hk => hk.2) (.slice Ao125 t315.length co125)) (fun _ h_ => h_.1))) hb); have n2_ := mkA (Kd.R_below (by (with_reducible repeat (first | apply Kd.R_alloc | apply Kd.R_drewN | apply Kd.R_drew)); exact (Kd.R_mono (Kd.R_far (p := ⟨gb319, 2, none⟩) (Kd.R_far (p := ⟨gb319, 1, none⟩) (Kd.R_far (p := ⟨gb319, 0, none⟩) (Kd.R_types HO_295002.out BK319.out (by decide)) (fun _ hk => hk.2) (.int .i64 t313)) (fun _ hk => hk.2) (.int .i64 t314)) (fun _ hk => hk.2) (.slice Ao125 t315.length co125)) (fun _ h_ => h_.1))) hb); have n3_ := mkA (Kd.R_below (by (with_reducible repeat (first | apply Kd.R_alloc | apply Kd.R_drewN | apply Kd.R_drew)); exact (Kd.R_mono (Kd.R_far (p := ⟨gb319, 2, none⟩) (Kd.R_far (p := ⟨gb319, 1, none⟩) (Kd.R_far (p := ⟨gb319, 0, none⟩) (Kd.R_types HO312.out BK319.out (by decide)) (fun _ hk => hk.2) (.int .i64 t313)) (fun _ hk => hk.2) (.int .i64 t314)) (fun _ hk => hk.2) (.slice Ao125 t315.length co125)) (fun _ h_ => h_.1))) hb); have n4_ := mkA (Kd.R_below (by (with_reducible repeat (first | apply Kd.R_alloc | apply Kd.R_drewN | apply Kd.R_drew)); exact (Kd.R_mono (Kd.R_far (p := ⟨gb319, 2, none⟩) (Kd.R_far (p := ⟨gb319, 1, none⟩) (Kd.R_far (p := ⟨gb319, 0, none⟩) (Kd.R_types HO317.out BK319.out (by decide)) (fun _ hk => hk.2) (.int .i64 t313)) (fun _ hk => hk.2) (.int .i64 t314)) (fun _ hk => hk.2) (.slice Ao125 t315.length co125)) (fun _ h_ => h_.1))) hb); have n5_ := mkA (blk_below (g := gb268) (o := .cells #[.int .i64 a0_0, .int .i64 a0_1, .slice A0_2 l0_2.length c0_2] 24 (0, 0)) (by (with_reducible repeat (first | refine blk_drewN ?_ _ | refine blk_drew ?_ | refine blk_alloc ?_ _)); refine blk_far ?_ NB268_319.out _; (with_reducible repeat (first | refine blk_drewN ?_ _ | refine blk_drew ?_ | refine blk_alloc ?_ _)); refine blk_far ?_ NB268_319.out _; (with_reducible repeat (first | refine blk_drewN ?_ _ | refine blk_drew ?_ | refine blk_alloc ?_ _)); refine blk_far ?_ NB268_319.out _; (with_reducible repeat (first | refine blk_drewN ?_ _ | refine blk_drew ?_ | refine blk_alloc ?_ _)); exact BK268.out) hb); have n6_ := mkA (blk_below (g := gb281) (o := .cells #[.int .i64 t275, .int .i64 t276, .slice Ao24 t277.length co24] 29 (0, 0)) (by (with_reducible repeat (first | refine blk_drewN ?_ _ | refine blk_drew ?_ | refine blk_alloc ?_ _)); refine blk_far ?_ NB281_319.out _; (with_reducible repeat (first | refine blk_drewN ?_ _ | refine blk_drew ?_ | refine blk_alloc ?_ _)); refine blk_far ?_ NB281_319.out _; (with_reducible repeat (first | refine blk_drewN ?_ _ | refine blk_drew ?_ | refine blk_alloc ?_ _)); refine blk_far ?_ NB281_319.out _; (with_reducible repeat (first | refine blk_drewN ?_ _ | refine blk_drew ?_ | refine blk_alloc ?_ _)); exact BK281.out) hb); have n7_ := mkA (blk_below (g := gb287) (o := .cells #[.int .i64 t282, .int .i64 t283, .slice Ao31 t303.length co31] 29 (0, 0)) (by (with_reducible repeat (first | refine blk_drewN ?_ _ | refine blk_drew ?_ | refine blk_alloc ?_ _)); refine blk_far ?_ NB287_319.out _; (with_reducible repeat (first | refine blk_drewN ?_ _ | refine blk_drew ?_ | refine blk_alloc ?_ _)); refine blk_far ?_ NB287_319.out _; (with_reducible repeat (first | refine blk_drewN ?_ _ | refine blk_drew ?_ | refine blk_alloc ?_ _)); refine blk_far ?_ NB287_319.out _; (with_reducible repeat (first | refine blk_drewN ?_ _ | refine blk_drew ?_ | refine blk_alloc ?_ _)); exact BK287.out) hb); have n8_ := mkA (blk_below (g := gb294) (o := .cells #[.int .i64 t288, .int .i64 t289, .slice Ao38 t290.length co38] 29 (0, 0)) (by (with_reducible repeat (first | refine blk_drewN ?_ _ | refine blk_drew ?_ | refine blk_alloc ?_ _)); refine blk_far ?_ NB294_319.out _; (with_reducible repeat (first | refine blk_drewN ?_ _ | refine blk_drew ?_ | refine blk_alloc ?_ _)); refine blk_far ?_ NB294_319.out _; (with_reducible repeat (first | refine blk_drewN ?_ _ | refine blk_drew ?_ | refine blk_alloc ?_ _)); refine blk_far ?_ NB294_319.out _; (with_reducible repeat (first | refine blk_drewN ?_ _ | refine blk_drew ?_ | refine blk_alloc ?_ _)); exact BK294.out) hb); have n9_ := mkA (blk_below (g := gb319) (o := .cells #[.int .i64 t313, .int .i64 t314, .slice Ao125 t315.length co125] 29 (0, 0)) (by (with_reducible repeat (first | refine blk_drewN ?_ _ | refine blk_drew ?_ | refine blk_alloc ?_ _)); refine blk_put (cs := #[.int .i64 t313, .int .i64 t314, .slice none 0 0]) ?_ 2 _ rfl; (with_reducible repeat (first | refine blk_drewN ?_ _ | refine blk_drew ?_ | refine blk_alloc ?_ _)); refine blk_put (cs := #[.int .i64 t313, .int .i64 0, .slice none 0 0]) ?_ 1 _ rfl; (with_reducible repeat (first | refine blk_drewN ?_ _ | refine blk_drew ?_ | refine blk_alloc ?_ _)); refine blk_put (cs := #[.int .i64 0, .int .i64 0, .slice none 0 0]) ?_ 0 _ rfl; (with_reducible repeat (first | refine blk_drewN ?_ _ | refine blk_drew ?_ | refine blk_alloc ?_ _)); exact BK319.out) hb); have n10_ := mkA (below_step (bs5_ HB.out GE268.out GE281.out GE287.out GE294.out GE319.out) hb); clear HO_282002; clear HO_288002; clear HO_295002; clear HO312; clear HO317; clear BK268; clear BK281; clear BK287; clear BK294; clear BK319; clear HB; have HO_282002 := n0_; have HO_288002 := n1_; have HO_295002 := n2_; have HO312 := n3_; have HO317 := n4_; have BK268 := n5_; have BK281 := n6_; have BK287 := n7_; have BK294 := n8_; have BK319 := n9_; have HB := n10_; clear n0_ n1_ n2_ n3_ n4_ n5_ n6_ n7_ n8_ n9_ n10_; (try clear hb); (try clear hb2); (try clear hk); (try clear hi)))
                    go_meet
                    case rel => exact ⟨_, (true), (by first | rfl | (simp; done) | (simp [*]; done) | (simp [i64_w, i32_w]; done)), H', ⟨by have := HJ12.out; have := HJ61.out; first | omega | exact Nat.le_refl _⟩, ⟨by (try simp only [hl288002_61]); (with_reducible repeat (first | apply Kd.R_alloc | apply Kd.R_drewN | apply Kd.R_drew)); exact Kd.R_mono HO_282002.out (fun _ hk => ⟨hk.1.1.1, ⟨hk.1.1.2, hk.2⟩⟩)⟩, ⟨by (try simp only [hl288002_61]); (with_reducible repeat (first | apply Kd.R_alloc | apply Kd.R_drewN | apply Kd.R_drew)); exact Kd.R_mono HO_288002.out (fun _ hk => ⟨hk.1.1.1, ⟨hk.1.1.2, hk.2⟩⟩)⟩, ⟨by (try simp only [hl288002_61]); (with_reducible repeat (first | apply Kd.R_alloc | apply Kd.R_drewN | apply Kd.R_drew)); exact Kd.R_mono HO_295002.out (fun _ hk => ⟨hk.1.1.1, ⟨hk.1.1.2, hk.2⟩⟩)⟩, ⟨by (try simp only [hl288002_61]); (with_reducible repeat (first | apply Kd.R_alloc | apply Kd.R_drewN | apply Kd.R_drew)); exact Kd.R_mono HO317.out (fun _ hk => ⟨hk.1.1.1.2, ⟨hk.1.1.2, hk.1.2⟩⟩)⟩, ⟨by (try simp only [hl288002_61]); (with_reducible repeat (first | refine blk_drewN ?_ _ | refine blk_drew ?_ | refine blk_alloc ?_ _)); exact BK268.out⟩, ⟨by (try simp only [hl288002_61]); (with_reducible repeat (first | refine blk_drewN ?_ _ | refine blk_drew ?_ | refine blk_alloc ?_ _)); exact BK281.out⟩, ⟨by (try simp only [hl288002_61]); (with_reducible repeat (first | refine blk_drewN ?_ _ | refine blk_drew ?_ | refine blk_alloc ?_ _)); exact BK287.out⟩, ⟨by (try simp only [hl288002_61]); (with_reducible repeat (first | refine blk_drewN ?_ _ | refine blk_drew ?_ | refine blk_alloc ?_ _)); exact BK294.out⟩, ⟨by (try simp only [hl288002_61]); (with_reducible repeat (first | refine blk_drewN ?_ _ | refine blk_drew ?_ | refine blk_alloc ?_ _)); exact BK319.out⟩, ⟨by repeat (first | (with_reducible first | exact HB.out | apply below_alloc | apply pw_below_drewN | apply below_drew1 | refine below_set ?_ GE268.out | refine below_set ?_ GE281.out | refine below_set ?_ GE287.out | refine below_set ?_ GE294.out | refine below_set ?_ GE319.out) | exact HB.out)⟩⟩
                 case rest =>
                  clear HC105
                  try clear c1
                  try clear c2
                  try clear p2
                  try clear c3
                  try clear c4
                  try clear c5
                  try clear c5b0
                  try clear c6
                  try clear c7
                  try clear c8
                  try clear c9
                  try clear c10
                  try clear c11
                  try clear c12
                  try clear c13
                  try clear c14
                  try clear c15
                  try clear c17
                  try clear c20
                  try clear c22
                  try clear c26
                  try clear c28
                  try clear c29
                  try clear c30
                  try clear c31
                  try clear c34
                  try clear c35
                  try clear c36
                  try clear c40
                  try clear c41
                  try clear c42
                  try clear c43
                  try clear c45
                  try clear c46
                  try clear c49
                  try clear c50
                  try clear c51
                  try clear c53
                  try clear c54
                  try clear c57
                  try clear c60
                  try clear c67
                  try clear c68
                  try clear c69
                  try clear c72
                  try clear c72b0
                  try clear c74
                  try clear c75
                  try clear c76
                  try clear c77
                  try clear c79
                  try clear c80
                  try clear c83
                  try clear c84
                  try clear c85
                  try clear c87
                  try clear c88
                  try clear c91
                  try clear c94
                  try clear c94b0
                  try clear c95
                  try clear c96
                  try clear c97
                  try clear c102
                  try clear c102b0
                  try clear c102b1
                  try clear c106
                  try clear c107
                  try clear c108
                  try clear c113
                  try clear c114
                  try clear c120
                  try clear c121
                  try clear c122
                  try clear c123
                  try clear c127
                  try clear c128
                  try clear c129
                  try clear c130
                  try clear c131
                  try clear c133
                  try clear c134
                  try clear c135
                  try clear c138
                  try clear c139
                  try clear c140
                  try clear c141
                  try clear c143
                  try clear c144
                  try clear c145
                  try clear hcz100_0
                  try clear hcz100_1
                  try clear hcz100_2
                  try clear hcz109_0
                  try clear hcz109_1
                  try clear hcz109_2
                  try clear hcz111_0
                  try clear hcz111_1
                  try clear hcz111_2
                  try clear hcz115_0
                  try clear hcz115_1
                  try clear hcz115_2
                  try clear hcz124_0
                  try clear hcz124_1
                  try clear hcz124_2
                  try clear hcz132_0
                  try clear hcz132_1
                  try clear hcz132_2
                  try clear hcz136_0
                  try clear hcz136_1
                  try clear hcz136_2
                  try clear hcz142_0
                  try clear hcz142_1
                  try clear hcz142_2
                  try clear hcz146_0
                  try clear hcz146_1
                  try clear hcz146_2
                  try clear hcz15_0
                  try clear hcz15_1
                  try clear hcz15_2
                  try clear hcz17_0
                  try clear hcz17_1
                  try clear hcz17_2
                  try clear hcz23_0
                  try clear hcz23_1
                  try clear hcz23_2
                  try clear hcz25_0
                  try clear hcz25_1
                  try clear hcz25_2
                  try clear hcz30_0
                  try clear hcz30_1
                  try clear hcz30_2
                  try clear hcz37_0
                  try clear hcz37_1
                  try clear hcz37_2
                  try clear hcz44_0
                  try clear hcz44_1
                  try clear hcz44_2
                  try clear hcz47_0
                  try clear hcz47_1
                  try clear hcz47_2
                  try clear hcz52_0
                  try clear hcz52_1
                  try clear hcz52_2
                  try clear hcz55_0
                  try clear hcz55_1
                  try clear hcz55_2
                  try clear hcz70_0
                  try clear hcz70_1
                  try clear hcz70_2
                  try clear hcz78_0
                  try clear hcz78_1
                  try clear hcz78_2
                  try clear hcz7_0
                  try clear hcz7_1
                  try clear hcz7_2
                  try clear hcz81_0
                  try clear hcz81_1
                  try clear hcz81_2
                  try clear hcz86_0
                  try clear hcz86_1
                  try clear hcz86_2
                  try clear hcz89_0
                  try clear hcz89_1
                  try clear hcz89_2
                  try clear hcz98_0
                  try clear hcz98_1
                  try clear hcz98_2
                  try clear hfz100_0
                  try clear hfz100_1
                  try clear hfz100_2
                  try clear hfz109_0
                  try clear hfz109_1
                  try clear hfz109_2
                  try clear hfz111_0
                  try clear hfz111_1
                  try clear hfz111_2
                  try clear hfz115_0
                  try clear hfz115_1
                  try clear hfz115_2
                  try clear hfz124_0
                  try clear hfz124_1
                  try clear hfz124_2
                  try clear hfz132_0
                  try clear hfz132_1
                  try clear hfz132_2
                  try clear hfz136_0
                  try clear hfz136_1
                  try clear hfz136_2
                  try clear hfz142_0
                  try clear hfz142_1
                  try clear hfz142_2
                  try clear hfz146_0
                  try clear hfz146_1
                  try clear hfz146_2
                  try clear hfz15_0
                  try clear hfz15_1
                  try clear hfz15_2
                  try clear hfz17_0
                  try clear hfz17_1
                  try clear hfz17_2
                  try clear hfz23_0
                  try clear hfz23_1
                  try clear hfz23_2
                  try clear hfz25_0
                  try clear hfz25_1
                  try clear hfz25_2
                  try clear hfz30_0
                  try clear hfz30_1
                  try clear hfz30_2
                  try clear hfz37_0
                  try clear hfz37_1
                  try clear hfz37_2
                  try clear hfz44_0
                  try clear hfz44_1
                  try clear hfz44_2
                  try clear hfz47_0
                  try clear hfz47_1
                  try clear hfz47_2
                  try clear hfz52_0
                  try clear hfz52_1
                  try clear hfz52_2
                  try clear hfz55_0
                  try clear hfz55_1
                  try clear hfz55_2
                  try clear hfz70_0
                  try clear hfz70_1
                  try clear hfz70_2
                  try clear hfz78_0
                  try clear hfz78_1
                  try clear hfz78_2
                  try clear hfz7_0
                  try clear hfz7_1
                  try clear hfz7_2
                  try clear hfz81_0
                  try clear hfz81_1
                  try clear hfz81_2
                  try clear hfz86_0
                  try clear hfz86_1
                  try clear hfz86_2
                  try clear hfz89_0
                  try clear hfz89_1
                  try clear hfz89_2
                  try clear hfz98_0
                  try clear hfz98_1
                  try clear hfz98_2
                  try clear p2
                  obtain ⟨kq, x97_104, rfl, HA, HJ104, HO_282002, HO_288002, HO_295002, HO_320002, BK268, BK281, BK287, BK294, BK319, HB⟩ := hcut
                  have hl295002_104 := (Kd.R_reads' HO_295002.out).1
                  rw [hl295002_104] at HO_295002
                  (try simp only [hl295002_104])
                  (try simp only [hl295002_104] at BK268)
                  (try simp only [hl295002_104] at BK281)
                  (try simp only [hl295002_104] at BK287)
                  (try simp only [hl295002_104] at BK294)
                  (try simp only [hl295002_104] at BK319)
                  (try simp only [hl295002_104] at HO_282002)
                  (try simp only [hl295002_104] at HO_288002)
                  (try simp only [hl295002_104] at HO_320002)
                  cases kq with
                  | zero => exact absurd HA.out (by simp [laws_FnExactShiftTiling.j2])
                  | succ kj104 =>
                   have H := HA.out
                   clear HA
                   simp only [laws_FnExactShiftTiling.j2] at H
                   by_cases c148 : x97_104 = true
                   · subst c148
                     have H1 : (some false) = some r := by rw [if_pos rfl] at H; exact H
                     clear H
                     have H := H1
                     clear H1
                     obtain rfl := Option.some.inj H
                     go_wp2
                     go_ret
                     exact ⟨by first | rfl | (simp [errW_none, errW_some] <;> rfl) | (simp [*, errW_none, errW_some] <;> rfl), by repeat (first | (with_reducible first | exact HB.out | apply below_alloc | apply pw_below_drewN | apply below_drew1 | refine below_set ?_ GE268.out | refine below_set ?_ GE281.out | refine below_set ?_ GE287.out | refine below_set ?_ GE294.out | refine below_set ?_ GE319.out) | exact HB.out)⟩
                   · replace c148 := Bool.eq_false_iff.mpr c148
                     subst c148
                     have H1 : ((laws_heldTiling.f kj104 t288 t289 t306 1).bind fun t321 => (if t321 < 0 then (some false) else (if t321 = t305 then (some true) else (some false)))) = some r := by rw [if_neg (show ¬ (false = true) by decide)] at H; exact H
                     clear H
                     have H := H1
                     clear H1
                     replace H := Option.bind_eq_some_iff.mp H
                     obtain ⟨t321, A1490, H⟩ := H
                     replace H : (if t321 < 0 then (some false) else (if t321 = t305 then (some true) else (some false))) = some r := H
                     have A149 := mkA A1490
                     clear A1490
                     by_cases c150 : t321 < 0
                     · rw [if_pos c150] at H
                       have c150b0 : decide (t321 < 0) = true := decide_eq_true c150
                       clear c150
                       obtain rfl := Option.some.inj H
                       have hnb151 := NB294_268.out
                       have hnc151 := NB268_294.out
                       have hnb152 := NB294_281.out
                       have hnc152 := NB281_294.out
                       have hnb153 := NB294_287.out
                       have hnc153 := NB287_294.out
                       have hnb154 := NB294_319.out
                       have hnc154 := NB319_294.out
                       have hcz155_0 : wc.cell? ⟨gb294, 0, none⟩ = some (.int .i64 t288) := (blk_cell BK294.out 0).trans rfl
                       have hcz155_1 : wc.cell? ⟨gb294, 1, none⟩ = some (.int .i64 t289) := (blk_cell BK294.out 1).trans rfl
                       have hcz155_2 : wc.cell? ⟨gb294, 2, none⟩ = some (.slice Ao38 t306.length co38) := (blk_cell BK294.out 2).trans rfl
                       have hfz155_0 := blk_frozen BK294.out 0
                       have hfz155_1 := blk_frozen BK294.out 1
                       have hfz155_2 := blk_frozen BK294.out 2
                       go_wp2_with (first | ((with_reducible refine gate_callee (f := 31) rfl ?_); refine goesL_ (some 100) rfl rfl Try.func31 (by kernel_rfl) rfl #[.agg #[.int .i64 t288, .int .i64 t289, .slice Ao38 t306.length co38], .int .i64 1] rfl (by (try simp only [List.map_toArray, List.map_cons, List.map_nil]); first | done | rfl | (simp only [List.length_drop, List.length_take]; rfl)) ?_; (with_reducible refine (laws_heldTiling.calls kj104 t288 t289 _ _ t306 1 t321 _ ?side1 ?side2 A149.out).mono ?_); (case side1 => repeat (first | exact (Kd.R_reads' HO_295002.out).2.2 | (with_reducible refine Kd.C_alloc ?_ _) | (with_reducible refine Kd.C_drewN ?_ _) | (with_reducible refine Kd.C_drew ?_))); (case side2 => exact (Kd.R_reads' HO_295002.out).2.1); rintro e w156 ⟨rfl, hb⟩; refine ⟨_, rfl, ?_⟩; have n0_ := mkA (Kd.R_below (by (with_reducible repeat (first | apply Kd.R_alloc | apply Kd.R_drewN | apply Kd.R_drew)); exact HO_282002.out) hb); have n1_ := mkA (Kd.R_below (by (with_reducible repeat (first | apply Kd.R_alloc | apply Kd.R_drewN | apply Kd.R_drew)); exact HO_288002.out) hb); have n2_ := mkA (Kd.R_below (by (with_reducible repeat (first | apply Kd.R_alloc | apply Kd.R_drewN | apply Kd.R_drew)); exact HO_295002.out) hb); have n3_ := mkA (Kd.R_below (by (with_reducible repeat (first | apply Kd.R_alloc | apply Kd.R_drewN | apply Kd.R_drew)); exact HO_320002.out) hb); have n4_ := mkA (blk_below (g := gb268) (o := .cells #[.int .i64 a0_0, .int .i64 a0_1, .slice A0_2 l0_2.length c0_2] 24 (0, 0)) (bl_ BK268.out) hb); have n5_ := mkA (blk_below (g := gb281) (o := .cells #[.int .i64 t275, .int .i64 t276, .slice Ao24 t277.length co24] 29 (0, 0)) (bl_ BK281.out) hb); have n6_ := mkA (blk_below (g := gb287) (o := .cells #[.int .i64 t282, .int .i64 t283, .slice Ao31 t303.length co31] 29 (0, 0)) (bl_ BK287.out) hb); have n7_ := mkA (blk_below (g := gb294) (o := .cells #[.int .i64 t288, .int .i64 t289, .slice Ao38 t306.length co38] 29 (0, 0)) (bl_ BK294.out) hb); have n8_ := mkA (blk_below (g := gb319) (o := .cells #[.int .i64 t313, .int .i64 t314, .slice Ao125 t315.length co125] 29 (0, 0)) (bl_ BK319.out) hb); have n9_ := mkA (below_step (bs5_ HB.out GE268.out GE281.out GE287.out GE294.out GE319.out) hb); clear HO_282002; clear HO_288002; clear HO_295002; clear HO_320002; clear BK268; clear BK281; clear BK287; clear BK294; clear BK319; clear HB; have HO_282002 := n0_; have HO_288002 := n1_; have HO_295002 := n2_; have HO_320002 := n3_; have BK268 := n4_; have BK281 := n5_; have BK287 := n6_; have BK294 := n7_; have BK319 := n8_; have HB := n9_; clear n0_ n1_ n2_ n3_ n4_ n5_ n6_ n7_ n8_ n9_; (try clear hb); (try clear hb2); (try clear hk); (try clear hi)))
                       go_ret
                       exact ⟨by first | rfl | (simp [errW_none, errW_some] <;> rfl) | (simp [*, errW_none, errW_some] <;> rfl), by repeat (first | (with_reducible first | exact HB.out | apply below_alloc | apply pw_below_drewN | apply below_drew1 | refine below_set ?_ GE268.out | refine below_set ?_ GE281.out | refine below_set ?_ GE287.out | refine below_set ?_ GE294.out | refine below_set ?_ GE319.out) | exact HB.out)⟩
                     · rw [if_neg c150] at H
                       have c150b0 : decide (t321 < 0) = false := decide_eq_false c150
                       clear c150
                       by_cases c157 : t321 = t305
                       · rw [if_pos c157] at H
                         have c157b0 : (t321 == t305) = true := beq_iff_eq.mpr c157
                         have c157b1 : (t321 != t305) = false := bne_eq_false_iff_eq.mpr c157
                         clear c157
                         obtain rfl := Option.some.inj H
                         have hnb158 := NB294_268.out
                         have hnc158 := NB268_294.out
                         have hnb159 := NB294_281.out
                         have hnc159 := NB281_294.out
                         have hnb160 := NB294_287.out
                         have hnc160 := NB287_294.out
                         have hnb161 := NB294_319.out
                         have hnc161 := NB319_294.out
                         have hcz162_0 : wc.cell? ⟨gb294, 0, none⟩ = some (.int .i64 t288) := (blk_cell BK294.out 0).trans rfl
                         have hcz162_1 : wc.cell? ⟨gb294, 1, none⟩ = some (.int .i64 t289) := (blk_cell BK294.out 1).trans rfl
                         have hcz162_2 : wc.cell? ⟨gb294, 2, none⟩ = some (.slice Ao38 t306.length co38) := (blk_cell BK294.out 2).trans rfl
                         have hfz162_0 := blk_frozen BK294.out 0
                         have hfz162_1 := blk_frozen BK294.out 1
                         have hfz162_2 := blk_frozen BK294.out 2
                         go_wp2_with (first | ((with_reducible refine gate_callee (f := 31) rfl ?_); refine goesL_ (some 100) rfl rfl Try.func31 (by kernel_rfl) rfl #[.agg #[.int .i64 t288, .int .i64 t289, .slice Ao38 t306.length co38], .int .i64 1] rfl (by (try simp only [List.map_toArray, List.map_cons, List.map_nil]); first | done | rfl | (simp only [List.length_drop, List.length_take]; rfl)) ?_; (with_reducible refine (laws_heldTiling.calls kj104 t288 t289 _ _ t306 1 t321 _ ?side1 ?side2 A149.out).mono ?_); (case side1 => repeat (first | exact (Kd.R_reads' HO_295002.out).2.2 | (with_reducible refine Kd.C_alloc ?_ _) | (with_reducible refine Kd.C_drewN ?_ _) | (with_reducible refine Kd.C_drew ?_))); (case side2 => exact (Kd.R_reads' HO_295002.out).2.1); rintro e w163 ⟨rfl, hb⟩; refine ⟨_, rfl, ?_⟩; have n0_ := mkA (Kd.R_below (by (with_reducible repeat (first | apply Kd.R_alloc | apply Kd.R_drewN | apply Kd.R_drew)); exact HO_282002.out) hb); have n1_ := mkA (Kd.R_below (by (with_reducible repeat (first | apply Kd.R_alloc | apply Kd.R_drewN | apply Kd.R_drew)); exact HO_288002.out) hb); have n2_ := mkA (Kd.R_below (by (with_reducible repeat (first | apply Kd.R_alloc | apply Kd.R_drewN | apply Kd.R_drew)); exact HO_295002.out) hb); have n3_ := mkA (Kd.R_below (by (with_reducible repeat (first | apply Kd.R_alloc | apply Kd.R_drewN | apply Kd.R_drew)); exact HO_320002.out) hb); have n4_ := mkA (blk_below (g := gb268) (o := .cells #[.int .i64 a0_0, .int .i64 a0_1, .slice A0_2 l0_2.length c0_2] 24 (0, 0)) (bl_ BK268.out) hb); have n5_ := mkA (blk_below (g := gb281) (o := .cells #[.int .i64 t275, .int .i64 t276, .slice Ao24 t277.length co24] 29 (0, 0)) (bl_ BK281.out) hb); have n6_ := mkA (blk_below (g := gb287) (o := .cells #[.int .i64 t282, .int .i64 t283, .slice Ao31 t303.length co31] 29 (0, 0)) (bl_ BK287.out) hb); have n7_ := mkA (blk_below (g := gb294) (o := .cells #[.int .i64 t288, .int .i64 t289, .slice Ao38 t306.length co38] 29 (0, 0)) (bl_ BK294.out) hb); have n8_ := mkA (blk_below (g := gb319) (o := .cells #[.int .i64 t313, .int .i64 t314, .slice Ao125 t315.length co125] 29 (0, 0)) (bl_ BK319.out) hb); have n9_ := mkA (below_step (bs5_ HB.out GE268.out GE281.out GE287.out GE294.out GE319.out) hb); clear HO_282002; clear HO_288002; clear HO_295002; clear HO_320002; clear BK268; clear BK281; clear BK287; clear BK294; clear BK319; clear HB; have HO_282002 := n0_; have HO_288002 := n1_; have HO_295002 := n2_; have HO_320002 := n3_; have BK268 := n4_; have BK281 := n5_; have BK287 := n6_; have BK294 := n7_; have BK319 := n8_; have HB := n9_; clear n0_ n1_ n2_ n3_ n4_ n5_ n6_ n7_ n8_ n9_; (try clear hb); (try clear hb2); (try clear hk); (try clear hi)))
                         go_ret
                         exact ⟨by first | rfl | (simp [errW_none, errW_some] <;> rfl) | (simp [*, errW_none, errW_some] <;> rfl), by repeat (first | (with_reducible first | exact HB.out | apply below_alloc | apply pw_below_drewN | apply below_drew1 | refine below_set ?_ GE268.out | refine below_set ?_ GE281.out | refine below_set ?_ GE287.out | refine below_set ?_ GE294.out | refine below_set ?_ GE319.out) | exact HB.out)⟩
                       · rw [if_neg c157] at H
                         have c157b0 : (t321 == t305) = false := beq_eq_false_iff_ne.mpr c157
                         have c157b1 : (t321 != t305) = true := bne_iff_ne.mpr c157
                         obtain rfl := Option.some.inj H
                         have hnb164 := NB294_268.out
                         have hnc164 := NB268_294.out
                         have hnb165 := NB294_281.out
                         have hnc165 := NB281_294.out
                         have hnb166 := NB294_287.out
                         have hnc166 := NB287_294.out
                         have hnb167 := NB294_319.out
                         have hnc167 := NB319_294.out
                         have hcz168_0 : wc.cell? ⟨gb294, 0, none⟩ = some (.int .i64 t288) := (blk_cell BK294.out 0).trans rfl
                         have hcz168_1 : wc.cell? ⟨gb294, 1, none⟩ = some (.int .i64 t289) := (blk_cell BK294.out 1).trans rfl
                         have hcz168_2 : wc.cell? ⟨gb294, 2, none⟩ = some (.slice Ao38 t306.length co38) := (blk_cell BK294.out 2).trans rfl
                         have hfz168_0 := blk_frozen BK294.out 0
                         have hfz168_1 := blk_frozen BK294.out 1
                         have hfz168_2 := blk_frozen BK294.out 2
                         go_wp2_with (first | ((with_reducible refine gate_callee (f := 31) rfl ?_); refine goesL_ (some 100) rfl rfl Try.func31 (by kernel_rfl) rfl #[.agg #[.int .i64 t288, .int .i64 t289, .slice Ao38 t306.length co38], .int .i64 1] rfl (by (try simp only [List.map_toArray, List.map_cons, List.map_nil]); first | done | rfl | (simp only [List.length_drop, List.length_take]; rfl)) ?_; (with_reducible refine (laws_heldTiling.calls kj104 t288 t289 _ _ t306 1 t321 _ ?side1 ?side2 A149.out).mono ?_); (case side1 => repeat (first | exact (Kd.R_reads' HO_295002.out).2.2 | (with_reducible refine Kd.C_alloc ?_ _) | (with_reducible refine Kd.C_drewN ?_ _) | (with_reducible refine Kd.C_drew ?_))); (case side2 => exact (Kd.R_reads' HO_295002.out).2.1); rintro e w169 ⟨rfl, hb⟩; refine ⟨_, rfl, ?_⟩; have n0_ := mkA (Kd.R_below (by (with_reducible repeat (first | apply Kd.R_alloc | apply Kd.R_drewN | apply Kd.R_drew)); exact HO_282002.out) hb); have n1_ := mkA (Kd.R_below (by (with_reducible repeat (first | apply Kd.R_alloc | apply Kd.R_drewN | apply Kd.R_drew)); exact HO_288002.out) hb); have n2_ := mkA (Kd.R_below (by (with_reducible repeat (first | apply Kd.R_alloc | apply Kd.R_drewN | apply Kd.R_drew)); exact HO_295002.out) hb); have n3_ := mkA (Kd.R_below (by (with_reducible repeat (first | apply Kd.R_alloc | apply Kd.R_drewN | apply Kd.R_drew)); exact HO_320002.out) hb); have n4_ := mkA (blk_below (g := gb268) (o := .cells #[.int .i64 a0_0, .int .i64 a0_1, .slice A0_2 l0_2.length c0_2] 24 (0, 0)) (bl_ BK268.out) hb); have n5_ := mkA (blk_below (g := gb281) (o := .cells #[.int .i64 t275, .int .i64 t276, .slice Ao24 t277.length co24] 29 (0, 0)) (bl_ BK281.out) hb); have n6_ := mkA (blk_below (g := gb287) (o := .cells #[.int .i64 t282, .int .i64 t283, .slice Ao31 t303.length co31] 29 (0, 0)) (bl_ BK287.out) hb); have n7_ := mkA (blk_below (g := gb294) (o := .cells #[.int .i64 t288, .int .i64 t289, .slice Ao38 t306.length co38] 29 (0, 0)) (bl_ BK294.out) hb); have n8_ := mkA (blk_below (g := gb319) (o := .cells #[.int .i64 t313, .int .i64 t314, .slice Ao125 t315.length co125] 29 (0, 0)) (bl_ BK319.out) hb); have n9_ := mkA (below_step (bs5_ HB.out GE268.out GE281.out GE287.out GE294.out GE319.out) hb); clear HO_282002; clear HO_288002; clear HO_295002; clear HO_320002; clear BK268; clear BK281; clear BK287; clear BK294; clear BK319; clear HB; have HO_282002 := n0_; have HO_288002 := n1_; have HO_295002 := n2_; have HO_320002 := n3_; have BK268 := n4_; have BK281 := n5_; have BK287 := n6_; have BK294 := n7_; have BK319 := n8_; have HB := n9_; clear n0_ n1_ n2_ n3_ n4_ n5_ n6_ n7_ n8_ n9_; (try clear hb); (try clear hb2); (try clear hk); (try clear hi)))
                         go_ret
                         exact ⟨by first | rfl | (simp [errW_none, errW_some] <;> rfl) | (simp [*, errW_none, errW_some] <;> rfl), by repeat (first | (with_reducible first | exact HB.out | apply below_alloc | apply pw_below_drewN | apply below_drew1 | refine below_set ?_ GE268.out | refine below_set ?_ GE281.out | refine below_set ?_ GE287.out | refine below_set ?_ GE294.out | refine below_set ?_ GE319.out) | exact HB.out)⟩
               · rw [if_neg c102] at H
                 have c102b0 : (t307 == t305) = false := beq_eq_false_iff_ne.mpr c102
                 have c102b1 : (t307 != t305) = true := bne_iff_ne.mpr c102
                 obtain rfl := Option.some.inj H
                 have hnb170 := NB294_268.out
                 have hnc170 := NB268_294.out
                 have hnb171 := NB294_281.out
                 have hnc171 := NB281_294.out
                 have hnb172 := NB294_287.out
                 have hnc172 := NB287_294.out
                 have hcz173_0 : wc.cell? ⟨gb294, 0, none⟩ = some (.int .i64 t288) := (blk_cell BK294.out 0).trans rfl
                 have hcz173_1 : wc.cell? ⟨gb294, 1, none⟩ = some (.int .i64 t289) := (blk_cell BK294.out 1).trans rfl
                 have hcz173_2 : wc.cell? ⟨gb294, 2, none⟩ = some (.slice Ao38 t290.length co38) := (blk_cell BK294.out 2).trans rfl
                 have hfz173_0 := blk_frozen BK294.out 0
                 have hfz173_1 := blk_frozen BK294.out 1
                 have hfz173_2 := blk_frozen BK294.out 2
                 go_wp2_with (first | ((with_reducible refine gate_callee (f := 26) rfl ?_); refine goesL_ (some 72) rfl rfl Try.func26 (by kernel_rfl) rfl #[.agg #[.int .i64 t288, .int .i64 t289, .slice Ao38 t290.length co38], .int .i64 1] rfl (by (try simp only [List.map_toArray, List.map_cons, List.map_nil]); first | done | rfl | (simp only [List.length_drop, List.length_take]; rfl)) ?_; (with_reducible refine (laws_markTiling.calls kj61 t288 t289 (fun k_ => some k_ = (.slice Ao38 t290.length co38 : Value).ownBlock) (.slice Ao38 t290.length co38) t290 1 t305 t306 w _ ?side1 ?side2 A92.out).mono ?_); (case side1 => repeat (first | (with_reducible first | exact HB.out | apply below_alloc | apply pw_below_drewN | apply below_drew1 | refine below_set ?_ GE268.out | refine below_set ?_ GE281.out | refine below_set ?_ GE287.out | refine below_set ?_ GE294.out) | exact HB.out)); (case side2 => exact Kd.R_tight rfl HO_295002.out); rintro e w174 ⟨rfl, hy0, hb, hkp⟩; refine ⟨_, rfl, ?_⟩; have n0_ := mkA (Kd.R_mono (ok' := fun k_ => some k_ ≠ (.slice Ao31 t303.length co31 : Value).ownBlock ∧ some k_ ≠ (.slice Ao38 t290.length co38 : Value).ownBlock) (Kd.R_keptB (HO_282002.out) hkp (fun k_ hk_ hs_ => (hk_.2) hs_)) (fun k_ hk_ => ⟨hk_.1.1, hk_.1.2⟩)); have n1_ := mkA (Kd.R_mono (ok' := fun k_ => some k_ ≠ (.slice Ao24 t277.length co24 : Value).ownBlock ∧ some k_ ≠ (.slice Ao38 t290.length co38 : Value).ownBlock) (Kd.R_keptB (HO_288002.out) hkp (fun k_ hk_ hs_ => (hk_.2) hs_)) (fun k_ hk_ => ⟨hk_.1.1, hk_.1.2⟩)); have n2_ := mkA (Kd.R_reok rfl hy0 (fun k_ e_ => HO_295002.out.1 k_ e_)); have n3_ := mkA (blk_kept (bl_ BK268.out) hkp (fun hs_ => (fun e_ => (Kd.R_ne HO_295002.out BK268.out (by decide)) e_) hs_)); have n4_ := mkA (blk_kept (bl_ BK281.out) hkp (fun hs_ => (fun e_ => (Kd.R_ne HO_295002.out BK281.out (by decide)) e_) hs_)); have n5_ := mkA (blk_kept (bl_ BK287.out) hkp (fun hs_ => (fun e_ => (Kd.R_ne HO_295002.out BK287.out (by decide)) e_) hs_)); have n6_ := mkA (blk_kept (bl_ BK294.out) hkp (fun hs_ => (fun e_ => (Kd.R_ne HO_295002.out BK294.out (by decide)) e_) hs_)); have n7_ := mkA (hb); clear HO_282002; clear HO_288002; clear HO_295002; clear BK268; clear BK281; clear BK287; clear BK294; clear HB; have HO_282002 := n0_; have HO_288002 := n1_; have HO_295002 := n2_; have BK268 := n3_; have BK281 := n4_; have BK287 := n5_; have BK294 := n6_; have HB := n7_; clear n0_ n1_ n2_ n3_ n4_ n5_ n6_ n7_; (try clear hb); (try clear hkp); (try clear hy0); have hcz175_0 : w174.cell? ⟨gb294, 0, none⟩ = some (.int .i64 t288) := (blk_cell BK294.out 0).trans rfl; have hcz175_1 : w174.cell? ⟨gb294, 1, none⟩ = some (.int .i64 t289) := (blk_cell BK294.out 1).trans rfl; have hcz175_2 : w174.cell? ⟨gb294, 2, none⟩ = some (.slice Ao38 t290.length co38) := (blk_cell BK294.out 2).trans rfl; have hfz175_0 := blk_frozen BK294.out 0; have hfz175_1 := blk_frozen BK294.out 1; have hfz175_2 := blk_frozen BK294.out 2) | ((with_reducible refine gate_callee (f := 31) rfl ?_); refine goesL_ (some 75) rfl rfl Try.func31 (by kernel_rfl) rfl #[.agg #[.int .i64 t288, .int .i64 t289, .slice Ao38 t306.length co38], .int .i64 1] rfl (by (try simp only [List.map_toArray, List.map_cons, List.map_nil]); first | done | (rw [show t306.length = t290.length from (Kd.R_reads' HO_295002.out).1.symm] <;> rfl) | rfl | (simp only [List.length_drop, List.length_take]; rfl)) ?_; (with_reducible refine (laws_heldTiling.calls kj61 t288 t289 _ _ t306 1 t307 _ ?side1 ?side2 A93.out).mono ?_); (case side1 => repeat (first | exact (Kd.R_reads' HO_295002.out).2.2 | (with_reducible refine Kd.C_alloc ?_ _) | (with_reducible refine Kd.C_drewN ?_ _) | (with_reducible refine Kd.C_drew ?_))); (case side2 => rw [show t306.length = t290.length from (Kd.R_reads' HO_295002.out).1.symm]; exact (Kd.R_reads' HO_295002.out).2.1); rintro e w176 ⟨rfl, hb⟩; refine ⟨_, rfl, ?_⟩; have n0_ := mkA (Kd.R_below (by (with_reducible repeat (first | apply Kd.R_alloc | apply Kd.R_drewN | apply Kd.R_drew)); exact HO_282002.out) hb); have n1_ := mkA (Kd.R_below (by (with_reducible repeat (first | apply Kd.R_alloc | apply Kd.R_drewN | apply Kd.R_drew)); exact HO_288002.out) hb); have n2_ := mkA (Kd.R_below (by (with_reducible repeat (first | apply Kd.R_alloc | apply Kd.R_drewN | apply Kd.R_drew)); exact HO_295002.out) hb); have n3_ := mkA (blk_below (g := gb268) (o := .cells #[.int .i64 a0_0, .int .i64 a0_1, .slice A0_2 l0_2.length c0_2] 24 (0, 0)) (bl_ BK268.out) hb); have n4_ := mkA (blk_below (g := gb281) (o := .cells #[.int .i64 t275, .int .i64 t276, .slice Ao24 t277.length co24] 29 (0, 0)) (bl_ BK281.out) hb); have n5_ := mkA (blk_below (g := gb287) (o := .cells #[.int .i64 t282, .int .i64 t283, .slice Ao31 t303.length co31] 29 (0, 0)) (bl_ BK287.out) hb); have n6_ := mkA (blk_below (g := gb294) (o := .cells #[.int .i64 t288, .int .i64 t289, .slice Ao38 t290.length co38] 29 (0, 0)) (bl_ BK294.out) hb); have n7_ := mkA (below_step (bs4_ HB.out GE268.out GE281.out GE287.out GE294.out) hb); clear HO_282002; clear HO_288002; clear HO_295002; clear BK268; clear BK281; clear BK287; clear BK294; clear HB; have HO_282002 := n0_; have HO_288002 := n1_; have HO_295002 := n2_; have BK268 := n3_; have BK281 := n4_; have BK287 := n5_; have BK294 := n6_; have HB := n7_; clear n0_ n1_ n2_ n3_ n4_ n5_ n6_ n7_; (try clear hb); (try clear hb2); (try clear hk); (try clear hi)))
                 go_ret
                 exact ⟨by first | rfl | (simp [errW_none, errW_some] <;> rfl) | (simp [*, errW_none, errW_some] <;> rfl), by repeat (first | (with_reducible first | exact HB.out | apply below_alloc | apply pw_below_drewN | apply below_drew1 | refine below_set ?_ GE268.out | refine below_set ?_ GE281.out | refine below_set ?_ GE287.out | refine below_set ?_ GE294.out) | exact HB.out)⟩
       · replace c60 := Bool.eq_false_iff.mpr c60
         subst c60
         have H1 : (some false) = some r := by rw [if_neg (show ¬ (false = true) by decide)] at H; exact H
         clear H
         have H := H1
         clear H1
         obtain rfl := Option.some.inj H
         try go_wp2
         have n0_ := mkA (Kd.R_drew HO_282002.out)
         have n1_ := mkA (Kd.R_drew HO_288002.out)
         have n2_ := mkA (Kd.R_drew HO_295002.out)
         have n3_ := mkA (blk_drew BK268.out)
         have n4_ := mkA (blk_drew BK281.out)
         have n5_ := mkA (blk_drew BK287.out)
         have n6_ := mkA (blk_drew BK294.out)
         have n7_ := mkA (below_drew1 HB.out)
         clear HO_282002
         clear HO_288002
         clear HO_295002
         clear BK268
         clear BK281
         clear BK287
         clear BK294
         clear HB
         have HO_282002 := n0_
         have HO_288002 := n1_
         have HO_295002 := n2_
         have BK268 := n3_
         have BK281 := n4_
         have BK287 := n5_
         have BK294 := n6_
         have HB := n7_
         clear n0_ n1_ n2_ n3_ n4_ n5_ n6_ n7_
         refine start_ (n := 5) (S := fun w' => w'.cell? ⟨gb287, 0, none⟩ = some (.int .i64 t282) ∧ w'.cell? ⟨gb287, 1, none⟩ = some (.int .i64 t283) ∧ w'.cell? ⟨gb287, 2, none⟩ = some (.slice Ao31 t284.length co31) ∧ w'.cell? ⟨gb268, 0, none⟩ = some (.int .i64 a0_0) ∧ w'.cell? ⟨gb268, 1, none⟩ = some (.int .i64 a0_1) ∧ w'.cell? ⟨gb268, 2, none⟩ = some (.slice A0_2 l0_2.length c0_2)) (ds := []) #[false, false, false, false, false] (by kernel_rfl) rfl rfl ⟨(blk_cell BK287.out 0).trans rfl, (blk_cell BK287.out 1).trans rfl, (blk_cell BK287.out 2).trans rfl, (blk_cell BK268.out 0).trans rfl, (blk_cell BK268.out 1).trans rfl, (blk_cell BK268.out 2).trans rfl⟩ (fun hHeld => ?_)
         generalize wc.drew = w177 at HO_282002 HO_288002 HO_295002 BK268 BK281 BK287 BK294 HB hHeld ⊢
         refine take_ (i := 0) (N := some 49) (v := ?_) (a' := ?_) #[true, false, false, false, false] rfl rfl (by kernel_rfl) (fun _ _ _ h => h) (Or.inl ⟨by rfl, ?_⟩) hHeld ?_ ?_
         rotate_left
         · rintro w' ⟨s0, s1, s2, s3, s4, s5⟩
           go_simp
           with_reducible rfl
         rotate_left
         · simp only [Act.put, sA, sB, sC, i64_w, i32_w]
           rfl
         refine take_ (i := 1) (N := some 50) (v := ?_) (a' := ?_) #[true, true, false, false, false] rfl rfl (by kernel_rfl) (fun _ _ _ h => h) (Or.inl ⟨by rfl, ?_⟩) hHeld ?_ ?_
         rotate_left
         · rintro w' ⟨s0, s1, s2, s3, s4, s5⟩
           go_simp
           with_reducible rfl
         rotate_left
         · simp only [Act.put, sA, sB, sC, i64_w, i32_w]
           rfl
         refine one_ (i := 2) (N := some 51) #[true, true, true, false, false] rfl rfl (by kernel_rfl) (by decide) (fun K hK => ?_)
         refine goes_ Try.func17 (by kernel_rfl) rfl #[.agg #[.int .i64 a0_0, .int .i64 a0_1, .slice A0_2 l0_2.length c0_2]] (by rfl) rfl rfl (by (try simp only [List.map_toArray, List.map_cons, List.map_nil]); first | done | rfl | (simp only [List.length_drop, List.length_take]; rfl)) ?_
         with_reducible refine (laws_toTiling.calls kj12 a0_0 a0_1 _ _ l0_2 t296 t297 t298 _ ?side1 ?side2 A58.out).mono ?_
         (case side1 => exact cb_ HR0_2.out HB.out)
         (case side2 => exact HC0_2.out)
         rintro e w178 ⟨v299, rfl, ho0, hb⟩
         refine ⟨_, rfl, ?_⟩
         have n0_ := mkA (Kd.R_elder' (by (with_reducible repeat (first | apply Kd.R_alloc | apply Kd.R_drewN | apply Kd.R_drew)); exact HO_282002.out) (Kd.R_base ho0) hb)
         have n1_ := mkA (Kd.R_elder' (by (with_reducible repeat (first | apply Kd.R_alloc | apply Kd.R_drewN | apply Kd.R_drew)); exact HO_288002.out) (Kd.R_base ho0) hb)
         have n2_ := mkA (Kd.R_elder' (by (with_reducible repeat (first | apply Kd.R_alloc | apply Kd.R_drewN | apply Kd.R_drew)); exact HO_295002.out) (Kd.R_base ho0) hb)
         have n3_ := mkA (Kd.R_lower (Kd.R_new' (Kd.R_new' (Kd.R_new' ho0 (Kd.R_lt (by (with_reducible repeat (first | apply Kd.R_alloc | apply Kd.R_drewN | apply Kd.R_drew)); exact HO_282002.out))) (Kd.R_lt (by (with_reducible repeat (first | apply Kd.R_alloc | apply Kd.R_drewN | apply Kd.R_drew)); exact HO_288002.out))) (Kd.R_lt (by (with_reducible repeat (first | apply Kd.R_alloc | apply Kd.R_drewN | apply Kd.R_drew)); exact HO_295002.out))) (below_size (bs4_ HB.out GE268.out GE281.out GE287.out GE294.out)))
         have n4_ := mkA (blk_below (g := gb268) (o := .cells #[.int .i64 a0_0, .int .i64 a0_1, .slice A0_2 l0_2.length c0_2] 24 (0, 0)) (bl_ BK268.out) hb)
         have n5_ := mkA (blk_below (g := gb281) (o := .cells #[.int .i64 t275, .int .i64 t276, .slice Ao24 t277.length co24] 29 (0, 0)) (bl_ BK281.out) hb)
         have n6_ := mkA (blk_below (g := gb287) (o := .cells #[.int .i64 t282, .int .i64 t283, .slice Ao31 t284.length co31] 29 (0, 0)) (bl_ BK287.out) hb)
         have n7_ := mkA (blk_below (g := gb294) (o := .cells #[.int .i64 t288, .int .i64 t289, .slice Ao38 t290.length co38] 29 (0, 0)) (bl_ BK294.out) hb)
         have n8_ := mkA (below_step (bs4_ HB.out GE268.out GE281.out GE287.out GE294.out) hb)
         clear HO_282002
         clear HO_288002
         clear HO_295002
         clear BK268
         clear BK281
         clear BK287
         clear BK294
         clear HB
         have HO_282002 := n0_
         have HO_288002 := n1_
         have HO_295002 := n2_
         have HO300 := n3_
         have BK268 := n4_
         have BK281 := n5_
         have BK287 := n6_
         have BK294 := n7_
         have HB := n8_
         clear n0_ n1_ n2_ n3_ n4_ n5_ n6_ n7_ n8_
         (try clear hb)
         (try clear hb2)
         (try clear hk)
         (try clear hi)
         (try clear ho0)
         obtain ⟨Ao179, co179, eo179⟩ := Kd.R_slice HO300.out
         (first | subst eo179 | (injection eo179 with f1_ f2_ f3_; have f4_ := f1_.symm; have f5_ := f3_.symm; clear f1_ f2_ f3_; subst f4_; subst f5_))
         refine hK.out _ _ ⟨(blk_cell BK287.out 0).trans rfl, (blk_cell BK287.out 1).trans rfl, (blk_cell BK287.out 2).trans rfl, (blk_cell BK268.out 0).trans rfl, (blk_cell BK268.out 1).trans rfl, (blk_cell BK268.out 2).trans rfl⟩ (fun hHeld => ?_)
         clear hK K
         refine norm_ (a' := ?_) ?_ ?_
         rotate_left
         · show Act.put _ (some 51) _ = _
           simp only [Act.put, sA, sB, sC, i64_w, i32_w]
           rfl
         refine one_ (i := 3) (N := some 52) #[true, true, true, true, false] rfl rfl (by kernel_rfl) (by decide) (fun K hK => ?_)
         refine goes_ Try.func20 (by kernel_rfl) rfl #[.agg #[.int .i64 t282, .int .i64 t283, .slice Ao31 t284.length co31], .agg #[.int .i64 t296, .int .i64 t297, .slice Ao179 t298.length co179]] (by rfl) rfl rfl (by (try simp only [List.map_toArray, List.map_cons, List.map_nil]); first | done | rfl | (simp only [List.length_drop, List.length_take]; rfl)) ?_
         with_reducible refine (laws_eqTiling.calls kj12 t282 t283 _ _ t284 t296 t297 _ _ t298 false _ ?side1 ?side2 ?side3 ?side4 A59.out).mono ?_
         (case side1 => repeat (first | exact (Kd.R_reads' HO_288002.out).2.2 | (with_reducible refine Kd.C_alloc ?_ _) | (with_reducible refine Kd.C_drewN ?_ _) | (with_reducible refine Kd.C_drew ?_)))
         (case side2 => exact (Kd.R_reads' HO_288002.out).2.1)
         (case side3 => repeat (first | exact (Kd.R_reads' HO300.out).2.2 | (with_reducible refine Kd.C_alloc ?_ _) | (with_reducible refine Kd.C_drewN ?_ _) | (with_reducible refine Kd.C_drew ?_)))
         (case side4 => exact (Kd.R_reads' HO300.out).2.1)
         rintro e w180 ⟨rfl, hb⟩
         refine ⟨_, rfl, ?_⟩
         have n0_ := mkA (Kd.R_below (by (with_reducible repeat (first | apply Kd.R_alloc | apply Kd.R_drewN | apply Kd.R_drew)); exact HO_282002.out) hb)
         have n1_ := mkA (Kd.R_below (by (with_reducible repeat (first | apply Kd.R_alloc | apply Kd.R_drewN | apply Kd.R_drew)); exact HO_288002.out) hb)
         have n2_ := mkA (Kd.R_below (by (with_reducible repeat (first | apply Kd.R_alloc | apply Kd.R_drewN | apply Kd.R_drew)); exact HO_295002.out) hb)
         have n3_ := mkA (Kd.R_below (by (with_reducible repeat (first | apply Kd.R_alloc | apply Kd.R_drewN | apply Kd.R_drew)); exact HO300.out) hb)
         have n4_ := mkA (blk_below (g := gb268) (o := .cells #[.int .i64 a0_0, .int .i64 a0_1, .slice A0_2 l0_2.length c0_2] 24 (0, 0)) (bl_ BK268.out) hb)
         have n5_ := mkA (blk_below (g := gb281) (o := .cells #[.int .i64 t275, .int .i64 t276, .slice Ao24 t277.length co24] 29 (0, 0)) (bl_ BK281.out) hb)
         have n6_ := mkA (blk_below (g := gb287) (o := .cells #[.int .i64 t282, .int .i64 t283, .slice Ao31 t284.length co31] 29 (0, 0)) (bl_ BK287.out) hb)
         have n7_ := mkA (blk_below (g := gb294) (o := .cells #[.int .i64 t288, .int .i64 t289, .slice Ao38 t290.length co38] 29 (0, 0)) (bl_ BK294.out) hb)
         have n8_ := mkA (below_step (bs4_ HB.out GE268.out GE281.out GE287.out GE294.out) hb)
         clear HO_282002
         clear HO_288002
         clear HO_295002
         clear HO300
         clear BK268
         clear BK281
         clear BK287
         clear BK294
         clear HB
         have HO_282002 := n0_
         have HO_288002 := n1_
         have HO_295002 := n2_
         have HO300 := n3_
         have BK268 := n4_
         have BK281 := n5_
         have BK287 := n6_
         have BK294 := n7_
         have HB := n8_
         clear n0_ n1_ n2_ n3_ n4_ n5_ n6_ n7_ n8_
         (try clear hb)
         (try clear hb2)
         (try clear hk)
         (try clear hi)
         refine hK.out _ _ ⟨(blk_cell BK287.out 0).trans rfl, (blk_cell BK287.out 1).trans rfl, (blk_cell BK287.out 2).trans rfl, (blk_cell BK268.out 0).trans rfl, (blk_cell BK268.out 1).trans rfl, (blk_cell BK268.out 2).trans rfl⟩ (fun hHeld => ?_)
         clear hK K
         refine norm_ (a' := ?_) ?_ ?_
         rotate_left
         · show Act.put _ (some 52) _ = _
           simp only [Act.put, sA, sB, sC, i64_w, i32_w]
           rfl
         refine pure_ (i := 4) (N := some 53) (v := ?_) (a' := ?_) #[true, true, true, true, true] rfl rfl (by kernel_rfl) (fun _ _ _ h => h) (Or.inl ⟨by rfl, ?_⟩) ?_ ?_
         rotate_left
         · intro w'
           go_simp
           with_reducible rfl
         rotate_left
         · simp only [Act.put, sA, sB, sC, i64_w, i32_w]
           rfl
         refine done_ (by kernel_rfl) ?_
         try go_wp2
         go_ret
         exact ⟨by first | rfl | (simp [errW_none, errW_some] <;> rfl) | (simp [*, errW_none, errW_some] <;> rfl), by repeat (first | (with_reducible first | exact HB.out | apply below_alloc | apply pw_below_drewN | apply below_drew1 | refine below_set ?_ GE268.out | refine below_set ?_ GE281.out | refine below_set ?_ GE287.out | refine below_set ?_ GE294.out) | exact HB.out)⟩
def G24 (x : S24) : Prop := (Lit.int .i64 x.f0).wf = true ∧ (Lit.int .i64 x.f1).wf = true ∧ (x.f2.length ≤ maxLen ∧ ∀ y0 ∈ x.f2, (Lit.int .i64 y0).wf = true)

/-- THE ONE PURE STATEMENT of laws_FnExactShiftTiling. -/
def laws_FnExactShiftTiling.Pure : Prop := ∀ (a0_0 : Int) (a0_1 : Int) (l0_2 : List Int) (a1 : Int) (a2 : Int), G24 (⟨a0_0, a0_1, l0_2⟩ : S24) → (Lit.int .i64 a1).wf = true → (Lit.int .i64 a2).wf = true → ∃ k, laws_FnExactShiftTiling.f k a0_0 a0_1 l0_2 a1 a2 = some true

end Go.Proofs.Ytnidibnhojedoaa.GFnExactShiftTiling

-- Written by the session's own program (gen.py) out of the translation's print. Lean checks it.
import Derived.Test.YtnidibnhojedoaaGFnExactSymmetriesOfx0
import Derived.Test.YtnidibnhojedoaaGFnExactSymmetriesOfx1
import Derived.Test.YtnidibnhojedoaaGFnExactSymmetriesOfx7
import Derived.Test.YtnidibnhojedoaaGFnExactSymmetriesOfx12
import Derived.Test.YtnidibnhojedoaaGFnExactSymmetriesOfx13
namespace Go.Proofs.Ytnidibnhojedoaa.GFnExactSymmetriesOf
open Go.RowKit Go.Proofs.YtnidibnhojedoaaW.PrintWords Go.Proofs.YtnidibnhojedoaaW.PrintLast Go.Proofs.YtnidibnhojedoaaW.PrintMore
attribute [local go_sem] max2_int min2_int max_two min_two max_three min_three max_four min_four   -- for this text's walks alone
set_option linter.unusedVariables false
set_option linter.unusedSimpArgs false

/-! ### laws_FnExactSymmetriesOf: function 14 -/
mutual
def laws_FnExactSymmetriesOf.j0 : Nat → List (S31) → Int → List (S31) → Int → Bool → Int → Int → List Int → Int → Int → List Int → Option (Bool)
  | 0, _, _, _, _, _, _, _, _, _, _, _ => none
  | k + 1, x4, x5, x7, x8, x40, x383000, x383001, x383002, x399000, x399001, x399002 => if x40 = true then (some false) else ((laws_toTiling.f k x383000 x383001 x383002).bind fun bt404 => ((laws_eqTiling.f k x399000 x399001 x399002 bt404.1 bt404.2.1 bt404.2.2).bind fun t409 => (if t409 = true then ((laws_markTiling.f k x399000 x399001 x399002 1).bind fun bt410 => (if bt410.1 < 0 then (laws_FnExactSymmetriesOf.j1 k x4 x5 x7 true x383000 x383001 x383002) else ((laws_eqMotionS.f k x7 x4).bind fun t412 => (if t412 = true then (laws_FnExactSymmetriesOf.j1 k x4 x5 x7 (x8 != x5) x383000 x383001 x383002) else (laws_FnExactSymmetriesOf.j1 k x4 x5 x7 true x383000 x383001 x383002))))) else (some false))))
def laws_FnExactSymmetriesOf.j1 : Nat → List (S31) → Int → List (S31) → Bool → Int → Int → List Int → Option (Bool)
  | 0, _, _, _, _, _, _, _ => none
  | k + 1, x4, x5, x7, x61, x383000, x383001, x383002 => if x61 = true then (some false) else ((laws_markMotionS.f k x7 1).bind fun bt413 => ((laws_heldMotionS.f k bt413.2 1).bind fun t415 => (if t415 < 0 then (some false) else (if t415 = bt413.1 then ((laws_toTiling.f k x383000 x383001 x383002).bind fun bt416 => ((impl_SymmetriesOf.f k bt416.1 bt416.2.1 bt416.2.2).bind fun bt421 => ((laws_eqMotionS.f k bt421.1 x4).bind fun t425 => (if t425 = true then (laws_FnExactSymmetriesOf.j2 k bt413.2 bt413.1 (bt421.2 != x5)) else (laws_FnExactSymmetriesOf.j2 k bt413.2 bt413.1 true))))) else (some false)))))
def laws_FnExactSymmetriesOf.j2 : Nat → List (S31) → Int → Bool → Option (Bool)
  | 0, _, _, _ => none
  | k + 1, x7, x10, x87 => if x87 = true then (some false) else ((laws_heldMotionS.f k x7 1).bind fun t426 => (if t426 < 0 then (some false) else (if t426 = x10 then (some true) else (some false))))
end
def laws_FnExactSymmetriesOf.f (k : Nat) (a0_0 : Int) (a0_1 : Int) (l0_2 : List Int) : Option (Bool) := (laws_szTiling.f a0_0 a0_1 l0_2 1048576).bind fun t383 => (if t383 < 0 then (some true) else ((laws_toTiling.f k a0_0 a0_1 l0_2).bind fun bt384 => ((spec_SymmetriesOf.f k bt384.1 bt384.2.1 bt384.2.2).bind fun bt389 => ((laws_toTiling.f k a0_0 a0_1 l0_2).bind fun bt393 => ((impl_SymmetriesOf.f k bt393.1 bt393.2.1 bt393.2.2).bind fun bt399 => ((laws_eqMotionS.f k bt399.1 bt389.1).bind fun t403 => (if t403 = true then (laws_FnExactSymmetriesOf.j0 k bt389.1 bt389.2 bt399.1 bt399.2 (bt399.2 != bt389.2) a0_0 a0_1 l0_2 bt393.1 bt393.2.1 bt393.2.2) else (laws_FnExactSymmetriesOf.j0 k bt389.1 bt389.2 bt399.1 bt399.2 true a0_0 a0_1 l0_2 bt393.1 bt393.2.1 bt393.2.2))))))))
theorem laws_FnExactSymmetriesOf.mono_l : ∀ k, (∀ y0 y1 y2 y3 y4 y5 y6 y7 y8 y9 y10, LeO (laws_FnExactSymmetriesOf.j0 k y0 y1 y2 y3 y4 y5 y6 y7 y8 y9 y10) (laws_FnExactSymmetriesOf.j0 (k + 1) y0 y1 y2 y3 y4 y5 y6 y7 y8 y9 y10)) ∧ (∀ y0 y1 y2 y3 y4 y5 y6, LeO (laws_FnExactSymmetriesOf.j1 k y0 y1 y2 y3 y4 y5 y6) (laws_FnExactSymmetriesOf.j1 (k + 1) y0 y1 y2 y3 y4 y5 y6)) ∧ (∀ y0 y1 y2, LeO (laws_FnExactSymmetriesOf.j2 k y0 y1 y2) (laws_FnExactSymmetriesOf.j2 (k + 1) y0 y1 y2))
  | 0 => ⟨fun _ _ _ _ _ _ _ _ _ _ _ r h => by simp [laws_FnExactSymmetriesOf.j0] at h, fun _ _ _ _ _ _ _ r h => by simp [laws_FnExactSymmetriesOf.j1] at h, fun _ _ _ r h => by simp [laws_FnExactSymmetriesOf.j2] at h⟩
  | k + 1 => by
    obtain ⟨ih0, ih1, ih2⟩ := laws_FnExactSymmetriesOf.mono_l k
    refine ⟨?_, ?_, ?_⟩
    · intro y0 y1 y2 y3 y4 y5 y6 y7 y8 y9 y10
      unfold laws_FnExactSymmetriesOf.j0
      repeat' first
      | (with_reducible exact ih0 _ _ _ _ _ _ _ _ _ _ _)
      | (with_reducible exact ih1 _ _ _ _ _ _ _)
      | (with_reducible exact ih2 _ _ _)
      | (with_reducible exact impl_SymmetriesOf.mono _ _ _ _)
      | (with_reducible exact laws_eqMotionS.mono _ _ _)
      | (with_reducible exact laws_eqTiling.mono _ _ _ _ _ _ _)
      | (with_reducible exact laws_heldMotionS.mono _ _ _)
      | (with_reducible exact laws_markMotionS.mono _ _ _)
      | (with_reducible exact laws_markTiling.mono _ _ _ _ _)
      | (with_reducible exact laws_toTiling.mono _ _ _ _)
      | (with_reducible exact spec_SymmetriesOf.mono _ _ _ _)
      | (with_reducible exact LeO.refl _)
      | (with_reducible exact LeO.none _)
      | (with_reducible refine LeO.ite ?_ ?_)
      | (with_reducible refine LeO.bind ?_ (fun _ => ?_))
      | exact ih0 _ _ _ _ _ _ _ _ _ _ _
      | exact ih1 _ _ _ _ _ _ _
      | exact ih2 _ _ _
      | exact impl_SymmetriesOf.mono _ _ _ _
      | exact laws_eqMotionS.mono _ _ _
      | exact laws_eqTiling.mono _ _ _ _ _ _ _
      | exact laws_heldMotionS.mono _ _ _
      | exact laws_markMotionS.mono _ _ _
      | exact laws_markTiling.mono _ _ _ _ _
      | exact laws_toTiling.mono _ _ _ _
      | exact spec_SymmetriesOf.mono _ _ _ _
      | exact LeO.none _
      | refine LeO.ite ?_ ?_
      | refine LeO.bind ?_ (fun _ => ?_)
    · intro y0 y1 y2 y3 y4 y5 y6
      unfold laws_FnExactSymmetriesOf.j1
      repeat' first
      | (with_reducible exact ih0 _ _ _ _ _ _ _ _ _ _ _)
      | (with_reducible exact ih1 _ _ _ _ _ _ _)
      | (with_reducible exact ih2 _ _ _)
      | (with_reducible exact impl_SymmetriesOf.mono _ _ _ _)
      | (with_reducible exact laws_eqMotionS.mono _ _ _)
      | (with_reducible exact laws_eqTiling.mono _ _ _ _ _ _ _)
      | (with_reducible exact laws_heldMotionS.mono _ _ _)
      | (with_reducible exact laws_markMotionS.mono _ _ _)
      | (with_reducible exact laws_markTiling.mono _ _ _ _ _)
      | (with_reducible exact laws_toTiling.mono _ _ _ _)
      | (with_reducible exact spec_SymmetriesOf.mono _ _ _ _)
      | (with_reducible exact LeO.refl _)
      | (with_reducible exact LeO.none _)
      | (with_reducible refine LeO.ite ?_ ?_)
      | (with_reducible refine LeO.bind ?_ (fun _ => ?_))
      | exact ih0 _ _ _ _ _ _ _ _ _ _ _
      | exact ih1 _ _ _ _ _ _ _
      | exact ih2 _ _ _
      | exact impl_SymmetriesOf.mono _ _ _ _
      | exact laws_eqMotionS.mono _ _ _
      | exact laws_eqTiling.mono _ _ _ _ _ _ _
      | exact laws_heldMotionS.mono _ _ _
      | exact laws_markMotionS.mono _ _ _
      | exact laws_markTiling.mono _ _ _ _ _
      | exact laws_toTiling.mono _ _ _ _
      | exact spec_SymmetriesOf.mono _ _ _ _
      | exact LeO.none _
      | refine LeO.ite ?_ ?_
      | refine LeO.bind ?_ (fun _ => ?_)
    · intro y0 y1 y2
      unfold laws_FnExactSymmetriesOf.j2
      repeat' first
      | (with_reducible exact ih0 _ _ _ _ _ _ _ _ _ _ _)
      | (with_reducible exact ih1 _ _ _ _ _ _ _)
      | (with_reducible exact ih2 _ _ _)
      | (with_reducible exact impl_SymmetriesOf.mono _ _ _ _)
      | (with_reducible exact laws_eqMotionS.mono _ _ _)
      | (with_reducible exact laws_eqTiling.mono _ _ _ _ _ _ _)
      | (with_reducible exact laws_heldMotionS.mono _ _ _)
      | (with_reducible exact laws_markMotionS.mono _ _ _)
      | (with_reducible exact laws_markTiling.mono _ _ _ _ _)
      | (with_reducible exact laws_toTiling.mono _ _ _ _)
      | (with_reducible exact spec_SymmetriesOf.mono _ _ _ _)
      | (with_reducible exact LeO.refl _)
      | (with_reducible exact LeO.none _)
      | (with_reducible refine LeO.ite ?_ ?_)
      | (with_reducible refine LeO.bind ?_ (fun _ => ?_))
      | exact ih0 _ _ _ _ _ _ _ _ _ _ _
      | exact ih1 _ _ _ _ _ _ _
      | exact ih2 _ _ _
      | exact impl_SymmetriesOf.mono _ _ _ _
      | exact laws_eqMotionS.mono _ _ _
      | exact laws_eqTiling.mono _ _ _ _ _ _ _
      | exact laws_heldMotionS.mono _ _ _
      | exact laws_markMotionS.mono _ _ _
      | exact laws_markTiling.mono _ _ _ _ _
      | exact laws_toTiling.mono _ _ _ _
      | exact spec_SymmetriesOf.mono _ _ _ _
      | exact LeO.none _
      | refine LeO.ite ?_ ?_
      | refine LeO.bind ?_ (fun _ => ?_)
theorem laws_FnExactSymmetriesOf.mono : ∀ a0 a1 a2 k, LeO (laws_FnExactSymmetriesOf.f k a0 a1 a2) (laws_FnExactSymmetriesOf.f (k + 1) a0 a1 a2) := by
  intro a0 a1 a2 k
  obtain ⟨ih0, ih1, ih2⟩ := laws_FnExactSymmetriesOf.mono_l k
  unfold laws_FnExactSymmetriesOf.f
  repeat' first
      | (with_reducible exact ih0 _ _ _ _ _ _ _ _ _ _ _)
      | (with_reducible exact ih1 _ _ _ _ _ _ _)
      | (with_reducible exact ih2 _ _ _)
      | (with_reducible exact impl_SymmetriesOf.mono _ _ _ _)
      | (with_reducible exact laws_eqMotionS.mono _ _ _)
      | (with_reducible exact laws_eqTiling.mono _ _ _ _ _ _ _)
      | (with_reducible exact laws_heldMotionS.mono _ _ _)
      | (with_reducible exact laws_markMotionS.mono _ _ _)
      | (with_reducible exact laws_markTiling.mono _ _ _ _ _)
      | (with_reducible exact laws_toTiling.mono _ _ _ _)
      | (with_reducible exact spec_SymmetriesOf.mono _ _ _ _)
      | (with_reducible exact LeO.refl _)
      | (with_reducible exact LeO.none _)
      | (with_reducible refine LeO.ite ?_ ?_)
      | (with_reducible refine LeO.bind ?_ (fun _ => ?_))
      | exact ih0 _ _ _ _ _ _ _ _ _ _ _
      | exact ih1 _ _ _ _ _ _ _
      | exact ih2 _ _ _
      | exact impl_SymmetriesOf.mono _ _ _ _
      | exact laws_eqMotionS.mono _ _ _
      | exact laws_eqTiling.mono _ _ _ _ _ _ _
      | exact laws_heldMotionS.mono _ _ _
      | exact laws_markMotionS.mono _ _ _
      | exact laws_markTiling.mono _ _ _ _ _
      | exact laws_toTiling.mono _ _ _ _
      | exact spec_SymmetriesOf.mono _ _ _ _
      | exact LeO.none _
      | refine LeO.ite ?_ ?_
      | refine LeO.bind ?_ (fun _ => ?_)
open List renaming setIfInBounds_toArray → sA, set_cons_zero → sB, set_cons_succ → sC
open Go.Proofs.YtnidibnhojedoaaW.PrintWords.Aside0 renaming mk → mkA
open Go.Proofs.YtnidibnhojedoaaX (dt_ bc_ p0_ p1_ bl_ cb_ bs0_ bs1_ bs2_ bs3_ bs4_ bs5_ bs6_ bs7_ bs8_ bs9_ bs10_ bs11_ bs12_)
set_option maxHeartbeats 8000000 in
set_option maxRecDepth 100000 in
theorem laws_FnExactSymmetriesOf.calls (k : Nat) (a0_0 : Int) (a0_1 : Int) (A0_2 : Option Addr) (c0_2 : Nat) (l0_2 : List Int) (r : Bool) (w : World) (hr0_2 : Kd.C (Kd.int .i64) w A0_2 l0_2.length l0_2) (hc0_2 : l0_2.length ≤ c0_2) (h : laws_FnExactSymmetriesOf.f k a0_0 a0_1 l0_2 = some r) :
 Calls Try.prog 14 #[.agg #[.int .i64 a0_0, .int .i64 a0_1, .slice A0_2 l0_2.length c0_2]] w fun e w' => e = .returned (.bool r) ∧ Below w.heap.size w w' := by
 have hu24 := Try.underlying24
 have hu29 := Try.underlying29
 have HR0_2 := mkA hr0_2
 have HC0_2 := mkA hc0_2
 clear hr0_2 hc0_2
 have HB := mkA (Below.refl w.heap.size w)
 have H : ((laws_szTiling.f a0_0 a0_1 l0_2 1048576).bind fun t383 => (if t383 < 0 then (some true) else ((laws_toTiling.f k a0_0 a0_1 l0_2).bind fun bt384 => ((spec_SymmetriesOf.f k bt384.1 bt384.2.1 bt384.2.2).bind fun bt389 => ((laws_toTiling.f k a0_0 a0_1 l0_2).bind fun bt393 => ((impl_SymmetriesOf.f k bt393.1 bt393.2.1 bt393.2.2).bind fun bt399 => ((laws_eqMotionS.f k bt399.1 bt389.1).bind fun t403 => (if t403 = true then (laws_FnExactSymmetriesOf.j0 k bt389.1 bt389.2 bt399.1 bt399.2 (bt399.2 != bt389.2) a0_0 a0_1 l0_2 bt393.1 bt393.2.1 bt393.2.2) else (laws_FnExactSymmetriesOf.j0 k bt389.1 bt389.2 bt399.1 bt399.2 true a0_0 a0_1 l0_2 bt393.1 bt393.2.1 bt393.2.2))))))))) = some r := h
 clear h
 replace H := Option.bind_eq_some_iff.mp H
 obtain ⟨t383, A20, H⟩ := H
 replace H : (if t383 < 0 then (some true) else ((laws_toTiling.f k a0_0 a0_1 l0_2).bind fun bt384 => ((spec_SymmetriesOf.f k bt384.1 bt384.2.1 bt384.2.2).bind fun bt389 => ((laws_toTiling.f k a0_0 a0_1 l0_2).bind fun bt393 => ((impl_SymmetriesOf.f k bt393.1 bt393.2.1 bt393.2.2).bind fun bt399 => ((laws_eqMotionS.f k bt399.1 bt389.1).bind fun t403 => (if t403 = true then (laws_FnExactSymmetriesOf.j0 k bt389.1 bt389.2 bt399.1 bt399.2 (bt399.2 != bt389.2) a0_0 a0_1 l0_2 bt393.1 bt393.2.1 bt393.2.2) else (laws_FnExactSymmetriesOf.j0 k bt389.1 bt389.2 bt399.1 bt399.2 true a0_0 a0_1 l0_2 bt393.1 bt393.2.1 bt393.2.2)))))))) = some r := H
 have A2 := mkA A20
 clear A20
 by_cases c3 : t383 < 0
 · rw [if_pos c3] at H
   have c3b0 : decide (t383 < 0) = true := decide_eq_true c3
   clear c3
   obtain rfl := Option.some.inj H
   go_enter Try.func14, Try.ntmps14
   go_wp2_with (first | ((with_reducible refine gate_dst (N := 1) rfl ?_); refine box_event ?hg (N := 1) ?hd (cs := #[.int .i64 a0_0, .int .i64 a0_1, .slice A0_2 l0_2.length c0_2]) (t := 24) ?hr ?_; (case hd => rfl); (case hg => rfl); (case hr => first | (go_simp; done) | (go_simp; rfl)); intro gb382 hg w4 hbox hb; have n0_ := mkA (below_step (bs0_ HB.out) hb); have n1_ := mkA (hbox); have n2_ := mkA ((by rw [hg]; exact (below_size (bs0_ HB.out)) : w.heap.size ≤ gb382)); have n3_ := mkA ((by rw [hg]; exact (below_size (bs0_ HB.out)) : w.heap.size ≤ gb382)); clear HB; have HB := n0_; have BK382 := n1_; have GW382 := n2_; have GE382 := n3_; clear n0_ n1_ n2_ n3_; clear hb hbox hg; have hcz5_0 : w4.cell? ⟨gb382, 0, none⟩ = some (.int .i64 a0_0) := (blk_cell BK382.out 0).trans rfl; have hcz5_1 : w4.cell? ⟨gb382, 1, none⟩ = some (.int .i64 a0_1) := (blk_cell BK382.out 1).trans rfl; have hcz5_2 : w4.cell? ⟨gb382, 2, none⟩ = some (.slice A0_2 l0_2.length c0_2) := (blk_cell BK382.out 2).trans rfl; have hfz5_0 := blk_frozen BK382.out 0; have hfz5_1 := blk_frozen BK382.out 1; have hfz5_2 := blk_frozen BK382.out 2) | ((with_reducible refine gate_callee (f := 15) rfl ?_); refine goesL_ (some 16) rfl rfl Try.func15 (by kernel_rfl) rfl #[.agg #[.int .i64 a0_0, .int .i64 a0_1, .slice A0_2 l0_2.length c0_2], .int .i64 1048576] rfl (by (try simp only [List.map_toArray, List.map_cons, List.map_nil]); first | done | rfl | (simp only [List.length_drop, List.length_take]; rfl)) ?_; (with_reducible refine (laws_szTiling.calls a0_0 a0_1 _ _ l0_2 1048576 t383 _ ?side1 ?side2 A2.out).mono ?_); (case side1 => exact cb_ HR0_2.out HB.out); (case side2 => exact HC0_2.out); rintro e w6 ⟨rfl, hb⟩; refine ⟨_, rfl, ?_⟩; have n0_ := mkA (blk_below (g := gb382) (o := .cells #[.int .i64 a0_0, .int .i64 a0_1, .slice A0_2 l0_2.length c0_2] 24 (0, 0)) (bl_ BK382.out) hb); have n1_ := mkA (below_step (bs1_ HB.out GE382.out) hb); clear BK382; clear HB; have BK382 := n0_; have HB := n1_; clear n0_ n1_; (try clear hb); (try clear hb2); (try clear hk); (try clear hi)))
   go_ret
   exact ⟨by first | rfl | (simp [errW_none, errW_some] <;> rfl) | (simp [*, errW_none, errW_some] <;> rfl), by repeat (first | (with_reducible first | exact HB.out | apply below_alloc | apply pw_below_drewN | apply below_drew1 | refine below_set ?_ GE382.out) | exact HB.out)⟩
 · rw [if_neg c3] at H
   have c3b0 : decide (t383 < 0) = false := decide_eq_false c3
   clear c3
   replace H := Option.bind_eq_some_iff.mp H
   obtain ⟨⟨t384, t385, t386⟩, A70, H⟩ := H
   replace H : ((spec_SymmetriesOf.f k t384 t385 t386).bind fun bt389 => ((laws_toTiling.f k a0_0 a0_1 l0_2).bind fun bt393 => ((impl_SymmetriesOf.f k bt393.1 bt393.2.1 bt393.2.2).bind fun bt399 => ((laws_eqMotionS.f k bt399.1 bt389.1).bind fun t403 => (if t403 = true then (laws_FnExactSymmetriesOf.j0 k bt389.1 bt389.2 bt399.1 bt399.2 (bt399.2 != bt389.2) a0_0 a0_1 l0_2 bt393.1 bt393.2.1 bt393.2.2) else (laws_FnExactSymmetriesOf.j0 k bt389.1 bt389.2 bt399.1 bt399.2 true a0_0 a0_1 l0_2 bt393.1 bt393.2.1 bt393.2.2)))))) = some r := H
   have A7 := mkA A70
   clear A70
   replace H := Option.bind_eq_some_iff.mp H
   obtain ⟨⟨t389, t392⟩, A80, H⟩ := H
   replace H : ((laws_toTiling.f k a0_0 a0_1 l0_2).bind fun bt393 => ((impl_SymmetriesOf.f k bt393.1 bt393.2.1 bt393.2.2).bind fun bt399 => ((laws_eqMotionS.f k bt399.1 t389).bind fun t403 => (if t403 = true then (laws_FnExactSymmetriesOf.j0 k t389 t392 bt399.1 bt399.2 (bt399.2 != t392) a0_0 a0_1 l0_2 bt393.1 bt393.2.1 bt393.2.2) else (laws_FnExactSymmetriesOf.j0 k t389 t392 bt399.1 bt399.2 true a0_0 a0_1 l0_2 bt393.1 bt393.2.1 bt393.2.2))))) = some r := H
   have A8 := mkA A80
   clear A80
   replace H := Option.bind_eq_some_iff.mp H
   obtain ⟨⟨t393, t394, t395⟩, A90, H⟩ := H
   replace H : ((impl_SymmetriesOf.f k t393 t394 t395).bind fun bt399 => ((laws_eqMotionS.f k bt399.1 t389).bind fun t403 => (if t403 = true then (laws_FnExactSymmetriesOf.j0 k t389 t392 bt399.1 bt399.2 (bt399.2 != t392) a0_0 a0_1 l0_2 t393 t394 t395) else (laws_FnExactSymmetriesOf.j0 k t389 t392 bt399.1 bt399.2 true a0_0 a0_1 l0_2 t393 t394 t395)))) = some r := H
   have A9 := mkA A90
   clear A90
   replace H := Option.bind_eq_some_iff.mp H
   obtain ⟨⟨t399, t402⟩, A100, H⟩ := H
   replace H : ((laws_eqMotionS.f k t399 t389).bind fun t403 => (if t403 = true then (laws_FnExactSymmetriesOf.j0 k t389 t392 t399 t402 (t402 != t392) a0_0 a0_1 l0_2 t393 t394 t395) else (laws_FnExactSymmetriesOf.j0 k t389 t392 t399 t402 true a0_0 a0_1 l0_2 t393 t394 t395))) = some r := H
   have A10 := mkA A100
   clear A100
   have HC11 := mkA H
   clear H
   go_enter Try.func14, Try.ntmps14
   go_upto_region 8 with (first | ((with_reducible refine gate_dst (N := 1) rfl ?_); refine box_event ?hg (N := 1) ?hd (cs := #[.int .i64 a0_0, .int .i64 a0_1, .slice A0_2 l0_2.length c0_2]) (t := 24) ?hr ?_; (case hd => rfl); (case hg => rfl); (case hr => first | (go_simp; done) | (go_simp; rfl)); intro gb382 hg w12 hbox hb; have n0_ := mkA (below_step (bs0_ HB.out) hb); have n1_ := mkA (hbox); have n2_ := mkA ((by rw [hg]; exact (below_size (bs0_ HB.out)) : w.heap.size ≤ gb382)); have n3_ := mkA ((by rw [hg]; exact (below_size (bs0_ HB.out)) : w.heap.size ≤ gb382)); clear HB; have HB := n0_; have BK382 := n1_; have GW382 := n2_; have GE382 := n3_; clear n0_ n1_ n2_ n3_; clear hb hbox hg; have hcz13_0 : w12.cell? ⟨gb382, 0, none⟩ = some (.int .i64 a0_0) := (blk_cell BK382.out 0).trans rfl; have hcz13_1 : w12.cell? ⟨gb382, 1, none⟩ = some (.int .i64 a0_1) := (blk_cell BK382.out 1).trans rfl; have hcz13_2 : w12.cell? ⟨gb382, 2, none⟩ = some (.slice A0_2 l0_2.length c0_2) := (blk_cell BK382.out 2).trans rfl; have hfz13_0 := blk_frozen BK382.out 0; have hfz13_1 := blk_frozen BK382.out 1; have hfz13_2 := blk_frozen BK382.out 2) | ((with_reducible refine gate_callee (f := 15) rfl ?_); refine goesL_ (some 16) rfl rfl Try.func15 (by kernel_rfl) rfl #[.agg #[.int .i64 a0_0, .int .i64 a0_1, .slice A0_2 l0_2.length c0_2], .int .i64 1048576] rfl (by (try simp only [List.map_toArray, List.map_cons, List.map_nil]); first | done | rfl | (simp only [List.length_drop, List.length_take]; rfl)) ?_; (with_reducible refine (laws_szTiling.calls a0_0 a0_1 _ _ l0_2 1048576 t383 _ ?side1 ?side2 A2.out).mono ?_); (case side1 => exact cb_ HR0_2.out HB.out); (case side2 => exact HC0_2.out); rintro e w14 ⟨rfl, hb⟩; refine ⟨_, rfl, ?_⟩; have n0_ := mkA (blk_below (g := gb382) (o := .cells #[.int .i64 a0_0, .int .i64 a0_1, .slice A0_2 l0_2.length c0_2] 24 (0, 0)) (bl_ BK382.out) hb); have n1_ := mkA (below_step (bs1_ HB.out GE382.out) hb); clear BK382; clear HB; have BK382 := n0_; have HB := n1_; clear n0_ n1_; (try clear hb); (try clear hb2); (try clear hk); (try clear hi); have hcz15_0 : w14.cell? ⟨gb382, 0, none⟩ = some (.int .i64 a0_0) := (blk_cell BK382.out 0).trans rfl; have hcz15_1 : w14.cell? ⟨gb382, 1, none⟩ = some (.int .i64 a0_1) := (blk_cell BK382.out 1).trans rfl; have hcz15_2 : w14.cell? ⟨gb382, 2, none⟩ = some (.slice A0_2 l0_2.length c0_2) := (blk_cell BK382.out 2).trans rfl; have hfz15_0 := blk_frozen BK382.out 0; have hfz15_1 := blk_frozen BK382.out 1; have hfz15_2 := blk_frozen BK382.out 2) | ((with_reducible refine gate_callee (f := 17) rfl ?_); refine goesL_ (some 21) rfl rfl Try.func17 (by kernel_rfl) rfl #[.agg #[.int .i64 a0_0, .int .i64 a0_1, .slice A0_2 l0_2.length c0_2]] rfl (by (try simp only [List.map_toArray, List.map_cons, List.map_nil]); first | done | rfl | (simp only [List.length_drop, List.length_take]; rfl)) ?_; (with_reducible refine (laws_toTiling.calls k a0_0 a0_1 _ _ l0_2 t384 t385 t386 _ ?side1 ?side2 A7.out).mono ?_); (case side1 => exact cb_ HR0_2.out HB.out); (case side2 => exact HC0_2.out); rintro e w16 ⟨v387, rfl, ho0, hb⟩; refine ⟨_, rfl, ?_⟩; have n0_ := mkA (Kd.R_lower ho0 (below_size (bs1_ HB.out GE382.out))); have n1_ := mkA (blk_below (g := gb382) (o := .cells #[.int .i64 a0_0, .int .i64 a0_1, .slice A0_2 l0_2.length c0_2] 24 (0, 0)) (bl_ BK382.out) hb); have n2_ := mkA (below_step (bs1_ HB.out GE382.out) hb); clear BK382; clear HB; have HO388 := n0_; have BK382 := n1_; have HB := n2_; clear n0_ n1_ n2_; (try clear hb); (try clear hb2); (try clear hk); (try clear hi); (try clear ho0); obtain ⟨Ao17, co17, eo17⟩ := Kd.R_slice HO388.out; subst eo17) | ((with_reducible refine gate_callee (f := 47) rfl ?_); refine goesL_ (some 22) rfl rfl Try.func47 (by kernel_rfl) rfl #[.agg #[.int .i64 t384, .int .i64 t385, .slice Ao17 t386.length co17]] rfl (by (try simp only [List.map_toArray, List.map_cons, List.map_nil]); first | done | rfl | (simp only [List.length_drop, List.length_take]; rfl)) ?_; (with_reducible refine (spec_SymmetriesOf.calls k t384 t385 _ _ t386 t389 t392 _ ?side1 ?side2 A8.out).mono ?_); (case side1 => repeat (first | exact (Kd.R_reads' HO388.out).2.2 | (with_reducible refine Kd.C_alloc ?_ _) | (with_reducible refine Kd.C_drewN ?_ _) | (with_reducible refine Kd.C_drew ?_))); (case side2 => exact (Kd.R_reads' HO388.out).2.1); rintro e w18 ⟨v390, rfl, ho0, hb⟩; refine ⟨_, rfl, ?_⟩; have n0_ := mkA (Kd.R_below (by (with_reducible repeat (first | apply Kd.R_alloc | apply Kd.R_drewN | apply Kd.R_drew)); exact HO388.out) hb); have n1_ := mkA (Kd.R_lower ho0 (below_size (bs1_ HB.out GE382.out))); have n2_ := mkA (blk_below (g := gb382) (o := .cells #[.int .i64 a0_0, .int .i64 a0_1, .slice A0_2 l0_2.length c0_2] 24 (0, 0)) (bl_ BK382.out) hb); have n3_ := mkA (below_step (bs1_ HB.out GE382.out) hb); clear HO388; clear BK382; clear HB; have HO388 := n0_; have HO391 := n1_; have BK382 := n2_; have HB := n3_; clear n0_ n1_ n2_ n3_; (try clear hb); (try clear hb2); (try clear hk); (try clear hi); (try clear ho0); have hcz19_0 : w18.cell? ⟨gb382, 0, none⟩ = some (.int .i64 a0_0) := (blk_cell BK382.out 0).trans rfl; have hcz19_1 : w18.cell? ⟨gb382, 1, none⟩ = some (.int .i64 a0_1) := (blk_cell BK382.out 1).trans rfl; have hcz19_2 : w18.cell? ⟨gb382, 2, none⟩ = some (.slice A0_2 l0_2.length c0_2) := (blk_cell BK382.out 2).trans rfl; have hfz19_0 := blk_frozen BK382.out 0; have hfz19_1 := blk_frozen BK382.out 1; have hfz19_2 := blk_frozen BK382.out 2) | ((with_reducible refine gate_callee (f := 17) rfl ?_); refine goesL_ (some 26) rfl rfl Try.func17 (by kernel_rfl) rfl #[.agg #[.int .i64 a0_0, .int .i64 a0_1, .slice A0_2 l0_2.length c0_2]] rfl (by (try simp only [List.map_toArray, List.map_cons, List.map_nil]); first | done | rfl | (simp only [List.length_drop, List.length_take]; rfl)) ?_; (with_reducible refine (laws_toTiling.calls k a0_0 a0_1 _ _ l0_2 t393 t394 t395 _ ?side1 ?side2 A9.out).mono ?_); (case side1 => exact cb_ HR0_2.out HB.out); (case side2 => exact HC0_2.out); rintro e w20 ⟨v396, rfl, ho0, hb⟩; refine ⟨_, rfl, ?_⟩; have n0_ := mkA (Kd.R_elder' (by (with_reducible repeat (first | apply Kd.R_alloc | apply Kd.R_drewN | apply Kd.R_drew)); exact HO388.out) (Kd.R_base ho0) hb); have n1_ := mkA (Kd.R_below (by (with_reducible repeat (first | apply Kd.R_alloc | apply Kd.R_drewN | apply Kd.R_drew)); exact HO391.out) hb); have n2_ := mkA (Kd.R_lower (Kd.R_new' ho0 (Kd.R_lt (by (with_reducible repeat (first | apply Kd.R_alloc | apply Kd.R_drewN | apply Kd.R_drew)); exact HO388.out))) (below_size (bs1_ HB.out GE382.out))); have n3_ := mkA (blk_below (g := gb382) (o := .cells #[.int .i64 a0_0, .int .i64 a0_1, .slice A0_2 l0_2.length c0_2] 24 (0, 0)) (bl_ BK382.out) hb); have n4_ := mkA (below_step (bs1_ HB.out GE382.out) hb); clear HO388; clear HO391; clear BK382; clear HB; have HO388 := n0_; have HO391 := n1_; have HO397 := n2_; have BK382 := n3_; have HB := n4_; clear n0_ n1_ n2_ n3_ n4_; (try clear hb); (try clear hb2); (try clear hk); (try clear hi); (try clear ho0)) | ((with_reducible refine gate_dst (N := 6) rfl ?_); refine box_event ?hg (N := 6) ?hd (cs := #[.int .i64 0, .int .i64 0, .slice none 0 0]) (t := 29) ?hr ?_; (case hd => rfl); (case hg => rfl); (case hr => first | (go_simp; done) | (go_simp; rfl)); intro gb398 hg w21 hbox hb; have n0_ := mkA (Kd.R_below (by (with_reducible repeat (first | apply Kd.R_alloc | apply Kd.R_drewN | apply Kd.R_drew)); exact HO388.out) hb); have n1_ := mkA (Kd.R_below (by (with_reducible repeat (first | apply Kd.R_alloc | apply Kd.R_drewN | apply Kd.R_drew)); exact HO391.out) hb); have n2_ := mkA (Kd.R_below (by (with_reducible repeat (first | apply Kd.R_alloc | apply Kd.R_drewN | apply Kd.R_drew)); exact HO397.out) hb); have n3_ := mkA (blk_below (g := gb382) (o := .cells #[.int .i64 a0_0, .int .i64 a0_1, .slice A0_2 l0_2.length c0_2] 24 (0, 0)) (bl_ BK382.out) hb); have n4_ := mkA (below_step (bs1_ HB.out GE382.out) hb); have n5_ := mkA (hbox); have n6_ := mkA ((by rw [hg]; exact (below_size (bs1_ HB.out GE382.out)) : w.heap.size ≤ gb398)); have n7_ := mkA ((by rw [hg]; exact (below_size (bs1_ HB.out GE382.out)) : w.heap.size ≤ gb398)); have n8_ := mkA ((by rw [hg]; exact Nat.ne_of_lt (blk_lt (g := gb382) (o := .cells #[.int .i64 a0_0, .int .i64 a0_1, .slice A0_2 l0_2.length c0_2] 24 (0, 0)) (bl_ BK382.out)) : gb382 ≠ gb398)); have n9_ := mkA ((by rw [hg]; exact Nat.ne_of_gt (blk_lt (g := gb382) (o := .cells #[.int .i64 a0_0, .int .i64 a0_1, .slice A0_2 l0_2.length c0_2] 24 (0, 0)) (bl_ BK382.out)) : gb398 ≠ gb382)); clear HO388; clear HO391; clear HO397; clear BK382; clear HB; have HO388 := n0_; have HO391 := n1_; have HO397 := n2_; have BK382 := n3_; have HB := n4_; have BK398 := n5_; have GW398 := n6_; have GE398 := n7_; have NB382_398 := n8_; have NB398_382 := n9_; clear n0_ n1_ n2_ n3_ n4_ n5_ n6_ n7_ n8_ n9_; clear hb hbox hg; have hnb22 := NB398_382.out; have hnc22 := NB382_398.out; have hcz23_0 : w21.cell? ⟨gb398, 0, none⟩ = some (.int .i64 0) := (blk_cell BK398.out 0).trans rfl; have hcz23_1 : w21.cell? ⟨gb398, 1, none⟩ = some (.int .i64 0) := (blk_cell BK398.out 1).trans rfl; have hcz23_2 : w21.cell? ⟨gb398, 2, none⟩ = some (.slice none 0 0) := (blk_cell BK398.out 2).trans rfl; have hfz23_0 := blk_frozen BK398.out 0; have hfz23_1 := blk_frozen BK398.out 1; have hfz23_2 := blk_frozen BK398.out 2; obtain ⟨Ao24, co24, eo24⟩ := Kd.R_slice HO397.out; subst eo24) | ((with_reducible refine gate_callee (f := 48) rfl ?_); refine goesL_ (some 29) rfl rfl Try.func48 (by kernel_rfl) rfl #[.agg #[.int .i64 t393, .int .i64 t394, .slice Ao24 t395.length co24]] rfl (by (try simp only [List.map_toArray, List.map_cons, List.map_nil]); first | done | rfl | (simp only [List.length_drop, List.length_take]; rfl)) ?_; (with_reducible refine (impl_SymmetriesOf.calls k t393 t394 _ _ t395 t399 t402 _ ?side1 ?side2 A10.out).mono ?_); (case side1 => refine (Kd.R_reads' (e := 2) (base := w.heap.size) (ok := fun k_ => (True ∧ some k_ ≠ (.slice Ao17 t386.length co17 : Value).ownBlock)) (n := t395.length) (c := co24) ?_).2.2; exact (by (with_reducible repeat (first | apply Kd.R_alloc | apply Kd.R_drewN | apply Kd.R_drew)); exact (Kd.R_mono (Kd.R_far (p := ⟨gb398, 2, none⟩) (Kd.R_far (p := ⟨gb398, 1, none⟩) (Kd.R_far (p := ⟨gb398, 0, none⟩) (Kd.R_types HO397.out BK398.out (by decide)) (fun _ hk => hk.2) (.int .i64 t393)) (fun _ hk => hk.2) (.int .i64 t394)) (fun _ hk => hk.2) (.slice Ao24 t395.length co24)) (fun _ h_ => h_.1)))); (case side2 => exact (Kd.R_reads' HO397.out).2.1); rintro e w25 ⟨v400, rfl, ho0, hb⟩; refine ⟨_, rfl, ?_⟩; have n0_ := mkA (Kd.R_below (by (with_reducible repeat (first | apply Kd.R_alloc | apply Kd.R_drewN | apply Kd.R_drew)); exact (Kd.R_mono (Kd.R_far (p := ⟨gb398, 2, none⟩) (Kd.R_far (p := ⟨gb398, 1, none⟩) (Kd.R_far (p := ⟨gb398, 0, none⟩) (Kd.R_types HO388.out BK398.out (by decide)) (fun _ hk => hk.2) (.int .i64 t393)) (fun _ hk => hk.2) (.int .i64 t394)) (fun _ hk => hk.2) (.slice Ao24 t395.length co24)) (fun _ h_ => h_.1))) hb); have n1_ := mkA (Kd.R_elder' (by (with_reducible repeat (first | apply Kd.R_alloc | apply Kd.R_drewN | apply Kd.R_drew)); exact (Kd.R_mono (Kd.R_far (p := ⟨gb398, 2, none⟩) (Kd.R_far (p := ⟨gb398, 1, none⟩) (Kd.R_far (p := ⟨gb398, 0, none⟩) (Kd.R_types HO391.out BK398.out (by decide)) (fun _ hk => hk.2) (.int .i64 t393)) (fun _ hk => hk.2) (.int .i64 t394)) (fun _ hk => hk.2) (.slice Ao24 t395.length co24)) (fun _ h_ => h_.1))) (Kd.R_base ho0) hb); have n2_ := mkA (Kd.R_below (by (with_reducible repeat (first | apply Kd.R_alloc | apply Kd.R_drewN | apply Kd.R_drew)); exact (Kd.R_mono (Kd.R_far (p := ⟨gb398, 2, none⟩) (Kd.R_far (p := ⟨gb398, 1, none⟩) (Kd.R_far (p := ⟨gb398, 0, none⟩) (Kd.R_types HO397.out BK398.out (by decide)) (fun _ hk => hk.2) (.int .i64 t393)) (fun _ hk => hk.2) (.int .i64 t394)) (fun _ hk => hk.2) (.slice Ao24 t395.length co24)) (fun _ h_ => h_.1))) hb); have n3_ := mkA (Kd.R_lower (Kd.R_new' ho0 (Kd.R_lt (by (with_reducible repeat (first | apply Kd.R_alloc | apply Kd.R_drewN | apply Kd.R_drew)); exact (Kd.R_mono (Kd.R_far (p := ⟨gb398, 2, none⟩) (Kd.R_far (p := ⟨gb398, 1, none⟩) (Kd.R_far (p := ⟨gb398, 0, none⟩) (Kd.R_types HO391.out BK398.out (by decide)) (fun _ hk => hk.2) (.int .i64 t393)) (fun _ hk => hk.2) (.int .i64 t394)) (fun _ hk => hk.2) (.slice Ao24 t395.length co24)) (fun _ h_ => h_.1))))) (below_size (bs2_ HB.out GE382.out GE398.out))); have n4_ := mkA (blk_below (g := gb382) (o := .cells #[.int .i64 a0_0, .int .i64 a0_1, .slice A0_2 l0_2.length c0_2] 24 (0, 0)) (by (with_reducible repeat (first | refine blk_drewN ?_ _ | refine blk_drew ?_ | refine blk_alloc ?_ _)); refine blk_far ?_ NB382_398.out _; (with_reducible repeat (first | refine blk_drewN ?_ _ | refine blk_drew ?_ | refine blk_alloc ?_ _)); refine blk_far ?_ NB382_398.out _; (with_reducible repeat (first | refine blk_drewN ?_ _ | refine blk_drew ?_ | refine blk_alloc ?_ _)); refine blk_far ?_ NB382_398.out _; (with_reducible repeat (first | refine blk_drewN ?_ _ | refine blk_drew ?_ | refine blk_alloc ?_ _)); exact BK382.out) hb); have n5_ := mkA (blk_below (g := gb398) (o := .cells #[.int .i64 t393, .int .i64 t394, .slice Ao24 t395.length co24] 29 (0, 0)) (by (with_reducible repeat (first | refine blk_drewN ?_ _ | refine blk_drew ?_ | refine blk_alloc ?_ _)); refine blk_put (cs := #[.int .i64 t393, .int .i64 t394, .slice none 0 0]) ?_ 2 _ rfl; (with_reducible repeat (first | refine blk_drewN ?_ _ | refine blk_drew ?_ | refine blk_alloc ?_ _)); refine blk_put (cs := #[.int .i64 t393, .int .i64 0, .slice none 0 0]) ?_ 1 _ rfl; (with_reducible repeat (first | refine blk_drewN ?_ _ | refine blk_drew ?_ | refine blk_alloc ?_ _)); refine blk_put (cs := #[.int .i64 0, .int .i64 0, .slice none 0 0]) ?_ 0 _ rfl; (with_reducible repeat (first | refine blk_drewN ?_ _ | refine blk_drew ?_ | refine blk_alloc ?_ _)); exact BK398.out) hb); have n6_ := mkA (below_step (bs2_ HB.out GE382.out GE398.out) hb); clear HO388; clear HO391; clear HO397; clear BK382; clear BK398; clear HB; have HO388 := n0_; have HO391 := n1_; have HO397 := n2_; have HO401 := n3_; have BK382 := n4_; have BK398 := n5_; have HB := n6_; clear n0_ n1_ n2_ n3_ n4_ n5_ n6_; (try clear hb); (try clear hb2); (try clear hk); (try clear hi); (try clear ho0)))
   (try simp only [Act.put, sA, sB, sC])
   go_cut [40] (fun v40 wc => ∃ (kq : Nat) (x40_10 : Bool), v40 = .bool x40_10 ∧ Aside0 (laws_FnExactSymmetriesOf.j0 kq t389 t392 t399 t402 x40_10 a0_0 a0_1 l0_2 t393 t394 t395 = some r) ∧ Aside0 (kq ≤ k) ∧ Aside0 (Kd.R k31 31 wc w.heap.size (fun k_ => some k_ ≠ (v400 : Value).ownBlock) v390 t389) ∧ Aside0 (Kd.R k31 31 wc w.heap.size (fun k_ => some k_ ≠ (v390 : Value).ownBlock) v400 t399) ∧ Aside0 (Kd.R (Kd.int .i64) 2 wc w.heap.size (fun _ => True) (.slice Ao24 t395.length co24) t395) ∧ Aside0 (wc.heap[gb382]? = some (.cells #[.int .i64 a0_0, .int .i64 a0_1, (.slice A0_2 l0_2.length c0_2)] 24 (0, 0))) ∧ Aside0 (wc.heap[gb398]? = some (.cells #[.int .i64 t393, .int .i64 t394, (.slice Ao24 t395.length co24)] 29 (0, 0))) ∧ Aside0 (Below w.heap.size w wc))
   case first =>
    have H := HC11.out
    clear HC11
    replace H := Option.bind_eq_some_iff.mp H
    obtain ⟨t403, A260, H⟩ := H
    replace H : (if t403 = true then (laws_FnExactSymmetriesOf.j0 k t389 t392 t399 t402 (t402 != t392) a0_0 a0_1 l0_2 t393 t394 t395) else (laws_FnExactSymmetriesOf.j0 k t389 t392 t399 t402 true a0_0 a0_1 l0_2 t393 t394 t395)) = some r := H
    have A26 := mkA A260
    clear A260
    by_cases c27 : t403 = true
    · subst c27
      have H1 : (laws_FnExactSymmetriesOf.j0 k t389 t392 t399 t402 (t402 != t392) a0_0 a0_1 l0_2 t393 t394 t395) = some r := by rw [if_pos rfl] at H; exact H
      clear H
      have H := H1
      clear H1
      have H' := mkA H
      clear H
      obtain ⟨Ao28, co28, eo28⟩ := Kd.R_slice HO401.out
      subst eo28
      obtain ⟨Ao29, co29, eo29⟩ := Kd.R_slice HO391.out
      subst eo29
      go_wp2_with (first | ((with_reducible refine gate_callee (f := 49) rfl ?_); refine goesL_ (some 34) rfl rfl Try.func49 (by kernel_rfl) rfl #[.slice Ao28 t399.length co28, .slice Ao29 t389.length co29] rfl (by (try simp only [List.map_toArray, List.map_cons, List.map_nil]); first | done | rfl | (simp only [List.length_drop, List.length_take]; rfl)) ?_; (with_reducible refine (laws_eqMotionS.calls k _ _ t399 _ _ t389 true _ ?side1 ?side2 ?side3 ?side4 A26.out).mono ?_); (case side1 => repeat (first | exact (Kd.R_reads' HO401.out).2.2 | (with_reducible refine Kd.C_alloc ?_ _) | (with_reducible refine Kd.C_drewN ?_ _) | (with_reducible refine Kd.C_drew ?_))); (case side2 => exact (Kd.R_reads' HO401.out).2.1); (case side3 => repeat (first | exact (Kd.R_reads' HO391.out).2.2 | (with_reducible refine Kd.C_alloc ?_ _) | (with_reducible refine Kd.C_drewN ?_ _) | (with_reducible refine Kd.C_drew ?_))); (case side4 => exact (Kd.R_reads' HO391.out).2.1); rintro e w30 ⟨rfl, hb⟩; refine ⟨_, rfl, ?_⟩; have n0_ := mkA (Kd.R_below (by (with_reducible repeat (first | apply Kd.R_alloc | apply Kd.R_drewN | apply Kd.R_drew)); exact HO388.out) hb); have n1_ := mkA (Kd.R_below (by (with_reducible repeat (first | apply Kd.R_alloc | apply Kd.R_drewN | apply Kd.R_drew)); exact HO391.out) hb); have n2_ := mkA (Kd.R_below (by (with_reducible repeat (first | apply Kd.R_alloc | apply Kd.R_drewN | apply Kd.R_drew)); exact HO397.out) hb); have n3_ := mkA (Kd.R_below (by (with_reducible repeat (first | apply Kd.R_alloc | apply Kd.R_drewN | apply Kd.R_drew)); exact HO401.out) hb); have n4_ := mkA (blk_below (g := gb382) (o := .cells #[.int .i64 a0_0, .int .i64 a0_1, .slice A0_2 l0_2.length c0_2] 24 (0, 0)) (bl_ BK382.out) hb); have n5_ := mkA (blk_below (g := gb398) (o := .cells #[.int .i64 t393, .int .i64 t394, .slice Ao24 t395.length co24] 29 (0, 0)) (bl_ BK398.out) hb); have n6_ := mkA (below_step (bs2_ HB.out GE382.out GE398.out) hb); clear HO388; clear HO391; clear HO397; clear HO401; clear BK382; clear BK398; clear HB; have HO388 := n0_; have HO391 := n1_; have HO397 := n2_; have HO401 := n3_; have BK382 := n4_; have BK398 := n5_; have HB := n6_; clear n0_ n1_ n2_ n3_ n4_ n5_ n6_; (try clear hb); (try clear hb2); (try clear hk); (try clear hi)))
      go_meet
      case rel => exact ⟨_, ((t402 != t392)), (by first | rfl | (simp; done) | (simp [*]; done) | (simp [i64_w, i32_w]; done)), H', ⟨by first | omega | exact Nat.le_refl _⟩, ⟨by (with_reducible repeat (first | apply Kd.R_alloc | apply Kd.R_drewN | apply Kd.R_drew)); exact Kd.R_mono HO391.out (fun _ hk => hk.2)⟩, ⟨by (with_reducible repeat (first | apply Kd.R_alloc | apply Kd.R_drewN | apply Kd.R_drew)); exact Kd.R_mono HO401.out (fun _ hk => hk.2)⟩, ⟨by (with_reducible repeat (first | apply Kd.R_alloc | apply Kd.R_drewN | apply Kd.R_drew)); exact Kd.R_mono HO397.out (fun _ hk => trivial)⟩, ⟨by (with_reducible repeat (first | refine blk_drewN ?_ _ | refine blk_drew ?_ | refine blk_alloc ?_ _)); exact BK382.out⟩, ⟨by (with_reducible repeat (first | refine blk_drewN ?_ _ | refine blk_drew ?_ | refine blk_alloc ?_ _)); exact BK398.out⟩, ⟨by repeat (first | (with_reducible first | exact HB.out | apply below_alloc | apply pw_below_drewN | apply below_drew1 | refine below_set ?_ GE382.out | refine below_set ?_ GE398.out) | exact HB.out)⟩⟩
    · replace c27 := Bool.eq_false_iff.mpr c27
      subst c27
      have H1 : (laws_FnExactSymmetriesOf.j0 k t389 t392 t399 t402 true a0_0 a0_1 l0_2 t393 t394 t395) = some r := by rw [if_neg (show ¬ (false = true) by decide)] at H; exact H
      clear H
      have H := H1
      clear H1
      have H' := mkA H
      clear H
      obtain ⟨Ao31, co31, eo31⟩ := Kd.R_slice HO401.out
      subst eo31
      obtain ⟨Ao32, co32, eo32⟩ := Kd.R_slice HO391.out
      subst eo32
      go_wp2_with (first | ((with_reducible refine gate_callee (f := 49) rfl ?_); refine goesL_ (some 34) rfl rfl Try.func49 (by kernel_rfl) rfl #[.slice Ao31 t399.length co31, .slice Ao32 t389.length co32] rfl (by (try simp only [List.map_toArray, List.map_cons, List.map_nil]); first | done | rfl | (simp only [List.length_drop, List.length_take]; rfl)) ?_; (with_reducible refine (laws_eqMotionS.calls k _ _ t399 _ _ t389 false _ ?side1 ?side2 ?side3 ?side4 A26.out).mono ?_); (case side1 => repeat (first | exact (Kd.R_reads' HO401.out).2.2 | (with_reducible refine Kd.C_alloc ?_ _) | (with_reducible refine Kd.C_drewN ?_ _) | (with_reducible refine Kd.C_drew ?_))); (case side2 => exact (Kd.R_reads' HO401.out).2.1); (case side3 => repeat (first | exact (Kd.R_reads' HO391.out).2.2 | (with_reducible refine Kd.C_alloc ?_ _) | (with_reducible refine Kd.C_drewN ?_ _) | (with_reducible refine Kd.C_drew ?_))); (case side4 => exact (Kd.R_reads' HO391.out).2.1); rintro e w33 ⟨rfl, hb⟩; refine ⟨_, rfl, ?_⟩; have n0_ := mkA (Kd.R_below (by (with_reducible repeat (first | apply Kd.R_alloc | apply Kd.R_drewN | apply Kd.R_drew)); exact HO388.out) hb); have n1_ := mkA (Kd.R_below (by (with_reducible repeat (first | apply Kd.R_alloc | apply Kd.R_drewN | apply Kd.R_drew)); exact HO391.out) hb); have n2_ := mkA (Kd.R_below (by (with_reducible repeat (first | apply Kd.R_alloc | apply Kd.R_drewN | apply Kd.R_drew)); exact HO397.out) hb); have n3_ := mkA (Kd.R_below (by (with_reducible repeat (first | apply Kd.R_alloc | apply Kd.R_drewN | apply Kd.R_drew)); exact HO401.out) hb); have n4_ := mkA (blk_below (g := gb382) (o := .cells #[.int .i64 a0_0, .int .i64 a0_1, .slice A0_2 l0_2.length c0_2] 24 (0, 0)) (bl_ BK382.out) hb); have n5_ := mkA (blk_below (g := gb398) (o := .cells #[.int .i64 t393, .int .i64 t394, .slice Ao24 t395.length co24] 29 (0, 0)) (bl_ BK398.out) hb); have n6_ := mkA (below_step (bs2_ HB.out GE382.out GE398.out) hb); clear HO388; clear HO391; clear HO397; clear HO401; clear BK382; clear BK398; clear HB; have HO388 := n0_; have HO391 := n1_; have HO397 := n2_; have HO401 := n3_; have BK382 := n4_; have BK398 := n5_; have HB := n6_; clear n0_ n1_ n2_ n3_ n4_ n5_ n6_; (try clear hb); (try clear hb2); (try clear hk); (try clear hi)))
      go_meet
      case rel => exact ⟨_, (true), (by first | rfl | (simp; done) | (simp [*]; done) | (simp [i64_w, i32_w]; done)), H', ⟨by first | omega | exact Nat.le_refl _⟩, ⟨by (with_reducible repeat (first | apply Kd.R_alloc | apply Kd.R_drewN | apply Kd.R_drew)); exact Kd.R_mono HO391.out (fun _ hk => hk.2)⟩, ⟨by (with_reducible repeat (first | apply Kd.R_alloc | apply Kd.R_drewN | apply Kd.R_drew)); exact Kd.R_mono HO401.out (fun _ hk => hk.2)⟩, ⟨by (with_reducible repeat (first | apply Kd.R_alloc | apply Kd.R_drewN | apply Kd.R_drew)); exact Kd.R_mono HO397.out (fun _ hk => trivial)⟩, ⟨by (with_reducible repeat (first | refine blk_drewN ?_ _ | refine blk_drew ?_ | refine blk_alloc ?_ _)); exact BK382.out⟩, ⟨by (with_reducible repeat (first | refine blk_drewN ?_ _ | refine blk_drew ?_ | refine blk_alloc ?_ _)); exact BK398.out⟩, ⟨by repeat (first | (with_reducible first | exact HB.out | apply below_alloc | apply pw_below_drewN | apply below_drew1 | refine below_set ?_ GE382.out | refine below_set ?_ GE398.out) | exact HB.out)⟩⟩
   case rest =>
    clear HC11
    try clear c1
    try clear c2
    try clear p2
    try clear c3
    try clear c3b0
    try clear c4
    try clear c14
    try clear c15
    try clear c17
    try clear c22
    try clear c27
    try clear hcz13_0
    try clear hcz13_1
    try clear hcz13_2
    try clear hcz15_0
    try clear hcz15_1
    try clear hcz15_2
    try clear hcz19_0
    try clear hcz19_1
    try clear hcz19_2
    try clear hcz23_0
    try clear hcz23_1
    try clear hcz23_2
    try clear hcz5_0
    try clear hcz5_1
    try clear hcz5_2
    try clear hfz13_0
    try clear hfz13_1
    try clear hfz13_2
    try clear hfz15_0
    try clear hfz15_1
    try clear hfz15_2
    try clear hfz19_0
    try clear hfz19_1
    try clear hfz19_2
    try clear hfz23_0
    try clear hfz23_1
    try clear hfz23_2
    try clear hfz5_0
    try clear hfz5_1
    try clear hfz5_2
    obtain ⟨kq, x40_10, rfl, HA, HJ10, HO_4, HO_7, HO_399002, BK382, BK398, HB⟩ := hcut
    cases kq with
    | zero => exact absurd HA.out (by simp [laws_FnExactSymmetriesOf.j0])
    | succ kj10 =>
     have H := HA.out
     clear HA
     simp only [laws_FnExactSymmetriesOf.j0] at H
     by_cases c34 : x40_10 = true
     · subst c34
       have H1 : (some false) = some r := by rw [if_pos rfl] at H; exact H
       clear H
       have H := H1
       clear H1
       obtain rfl := Option.some.inj H
       go_wp2
       go_ret
       exact ⟨by first | rfl | (simp [errW_none, errW_some] <;> rfl) | (simp [*, errW_none, errW_some] <;> rfl), by repeat (first | (with_reducible first | exact HB.out | apply below_alloc | apply pw_below_drewN | apply below_drew1 | refine below_set ?_ GE382.out | refine below_set ?_ GE398.out) | exact HB.out)⟩
     · replace c34 := Bool.eq_false_iff.mpr c34
       subst c34
       have H1 : ((laws_toTiling.f kj10 a0_0 a0_1 l0_2).bind fun bt404 => ((laws_eqTiling.f kj10 t393 t394 t395 bt404.1 bt404.2.1 bt404.2.2).bind fun t409 => (if t409 = true then ((laws_markTiling.f kj10 t393 t394 t395 1).bind fun bt410 => (if bt410.1 < 0 then (laws_FnExactSymmetriesOf.j1 kj10 t389 t392 t399 true a0_0 a0_1 l0_2) else ((laws_eqMotionS.f kj10 t399 t389).bind fun t412 => (if t412 = true then (laws_FnExactSymmetriesOf.j1 kj10 t389 t392 t399 (t402 != t392) a0_0 a0_1 l0_2) else (laws_FnExactSymmetriesOf.j1 kj10 t389 t392 t399 true a0_0 a0_1 l0_2))))) else (some false)))) = some r := by rw [if_neg (show ¬ (false = true) by decide)] at H; exact H
       clear H
       have H := H1
       clear H1
       replace H := Option.bind_eq_some_iff.mp H
       obtain ⟨⟨t404, t405, t406⟩, A350, H⟩ := H
       replace H : ((laws_eqTiling.f kj10 t393 t394 t395 t404 t405 t406).bind fun t409 => (if t409 = true then ((laws_markTiling.f kj10 t393 t394 t395 1).bind fun bt410 => (if bt410.1 < 0 then (laws_FnExactSymmetriesOf.j1 kj10 t389 t392 t399 true a0_0 a0_1 l0_2) else ((laws_eqMotionS.f kj10 t399 t389).bind fun t412 => (if t412 = true then (laws_FnExactSymmetriesOf.j1 kj10 t389 t392 t399 (t402 != t392) a0_0 a0_1 l0_2) else (laws_FnExactSymmetriesOf.j1 kj10 t389 t392 t399 true a0_0 a0_1 l0_2))))) else (some false))) = some r := H
       have A35 := mkA A350
       clear A350
       replace H := Option.bind_eq_some_iff.mp H
       obtain ⟨t409, A360, H⟩ := H
       replace H : (if t409 = true then ((laws_markTiling.f kj10 t393 t394 t395 1).bind fun bt410 => (if bt410.1 < 0 then (laws_FnExactSymmetriesOf.j1 kj10 t389 t392 t399 true a0_0 a0_1 l0_2) else ((laws_eqMotionS.f kj10 t399 t389).bind fun t412 => (if t412 = true then (laws_FnExactSymmetriesOf.j1 kj10 t389 t392 t399 (t402 != t392) a0_0 a0_1 l0_2) else (laws_FnExactSymmetriesOf.j1 kj10 t389 t392 t399 true a0_0 a0_1 l0_2))))) else (some false)) = some r := H
       have A36 := mkA A360
       clear A360
       by_cases c37 : t409 = true
       rotate_left
       · replace c37 := Bool.eq_false_iff.mpr c37
         subst c37
         have H1 : (some false) = some r := by rw [if_neg (show ¬ (false = true) by decide)] at H; exact H
         clear H
         have H := H1
         clear H1
         obtain rfl := Option.some.inj H
         try go_wp2
         have n0_ := mkA (Kd.R_drew HO_4.out)
         have n1_ := mkA (Kd.R_drew HO_7.out)
         have n2_ := mkA (Kd.R_drew HO_399002.out)
         have n3_ := mkA (blk_drew BK382.out)
         have n4_ := mkA (blk_drew BK398.out)
         have n5_ := mkA (below_drew1 HB.out)
         clear HO_4
         clear HO_7
         clear HO_399002
         clear BK382
         clear BK398
         clear HB
         have HO_4 := n0_
         have HO_7 := n1_
         have HO_399002 := n2_
         have BK382 := n3_
         have BK398 := n4_
         have HB := n5_
         clear n0_ n1_ n2_ n3_ n4_ n5_
         refine start_ (n := 5) (S := fun w' => w'.cell? ⟨gb398, 0, none⟩ = some (.int .i64 t393) ∧ w'.cell? ⟨gb398, 1, none⟩ = some (.int .i64 t394) ∧ w'.cell? ⟨gb398, 2, none⟩ = some (.slice Ao24 t395.length co24) ∧ w'.cell? ⟨gb382, 0, none⟩ = some (.int .i64 a0_0) ∧ w'.cell? ⟨gb382, 1, none⟩ = some (.int .i64 a0_1) ∧ w'.cell? ⟨gb382, 2, none⟩ = some (.slice A0_2 l0_2.length c0_2)) (ds := []) #[false, false, false, false, false] (by kernel_rfl) rfl rfl ⟨(blk_cell BK398.out 0).trans rfl, (blk_cell BK398.out 1).trans rfl, (blk_cell BK398.out 2).trans rfl, (blk_cell BK382.out 0).trans rfl, (blk_cell BK382.out 1).trans rfl, (blk_cell BK382.out 2).trans rfl⟩ (fun hHeld => ?_)
         generalize wc.drew = w87 at HO_4 HO_7 HO_399002 BK382 BK398 HB hHeld ⊢
         refine take_ (i := 0) (N := some 41) (v := ?_) (a' := ?_) #[true, false, false, false, false] rfl rfl (by kernel_rfl) (fun _ _ _ h => h) (Or.inl ⟨by rfl, ?_⟩) hHeld ?_ ?_
         rotate_left
         · rintro w' ⟨s0, s1, s2, s3, s4, s5⟩
           go_simp
           with_reducible rfl
         rotate_left
         · simp only [Act.put, sA, sB, sC, i64_w, i32_w]
           rfl
         refine take_ (i := 1) (N := some 42) (v := ?_) (a' := ?_) #[true, true, false, false, false] rfl rfl (by kernel_rfl) (fun _ _ _ h => h) (Or.inl ⟨by rfl, ?_⟩) hHeld ?_ ?_
         rotate_left
         · rintro w' ⟨s0, s1, s2, s3, s4, s5⟩
           go_simp
           with_reducible rfl
         rotate_left
         · simp only [Act.put, sA, sB, sC, i64_w, i32_w]
           rfl
         refine one_ (i := 2) (N := some 43) #[true, true, true, false, false] rfl rfl (by kernel_rfl) (by decide) (fun K hK => ?_)
         refine goes_ Try.func17 (by kernel_rfl) rfl #[.agg #[.int .i64 a0_0, .int .i64 a0_1, .slice A0_2 l0_2.length c0_2]] (by rfl) rfl rfl (by (try simp only [List.map_toArray, List.map_cons, List.map_nil]); first | done | rfl | (simp only [List.length_drop, List.length_take]; rfl)) ?_
         with_reducible refine (laws_toTiling.calls kj10 a0_0 a0_1 _ _ l0_2 t404 t405 t406 _ ?side1 ?side2 A35.out).mono ?_
         (case side1 => exact cb_ HR0_2.out HB.out)
         (case side2 => exact HC0_2.out)
         rintro e w88 ⟨v407, rfl, ho0, hb⟩
         refine ⟨_, rfl, ?_⟩
         have n0_ := mkA (Kd.R_below (by (with_reducible repeat (first | apply Kd.R_alloc | apply Kd.R_drewN | apply Kd.R_drew)); exact HO_4.out) hb)
         have n1_ := mkA (Kd.R_below (by (with_reducible repeat (first | apply Kd.R_alloc | apply Kd.R_drewN | apply Kd.R_drew)); exact HO_7.out) hb)
         have n2_ := mkA (Kd.R_elder' (by (with_reducible repeat (first | apply Kd.R_alloc | apply Kd.R_drewN | apply Kd.R_drew)); exact HO_399002.out) (Kd.R_base ho0) hb)
         have n3_ := mkA (Kd.R_lower (Kd.R_new' ho0 (Kd.R_lt (by (with_reducible repeat (first | apply Kd.R_alloc | apply Kd.R_drewN | apply Kd.R_drew)); exact HO_399002.out))) (below_size (bs2_ HB.out GE382.out GE398.out)))
         have n4_ := mkA (blk_below (g := gb382) (o := .cells #[.int .i64 a0_0, .int .i64 a0_1, .slice A0_2 l0_2.length c0_2] 24 (0, 0)) (bl_ BK382.out) hb)
         have n5_ := mkA (blk_below (g := gb398) (o := .cells #[.int .i64 t393, .int .i64 t394, .slice Ao24 t395.length co24] 29 (0, 0)) (bl_ BK398.out) hb)
         have n6_ := mkA (below_step (bs2_ HB.out GE382.out GE398.out) hb)
         clear HO_4
         clear HO_7
         clear HO_399002
         clear BK382
         clear BK398
         clear HB
         have HO_4 := n0_
         have HO_7 := n1_
         have HO_399002 := n2_
         have HO408 := n3_
         have BK382 := n4_
         have BK398 := n5_
         have HB := n6_
         clear n0_ n1_ n2_ n3_ n4_ n5_ n6_
         (try clear hb)
         (try clear hb2)
         (try clear hk)
         (try clear hi)
         (try clear ho0)
         obtain ⟨Ao89, co89, eo89⟩ := Kd.R_slice HO408.out
         (first | subst eo89 | (injection eo89 with f1_ f2_ f3_; have f4_ := f1_.symm; have f5_ := f3_.symm; clear f1_ f2_ f3_; subst f4_; subst f5_))
         refine hK.out _ _ ⟨(blk_cell BK398.out 0).trans rfl, (blk_cell BK398.out 1).trans rfl, (blk_cell BK398.out 2).trans rfl, (blk_cell BK382.out 0).trans rfl, (blk_cell BK382.out 1).trans rfl, (blk_cell BK382.out 2).trans rfl⟩ (fun hHeld => ?_)
         clear hK K
         refine norm_ (a' := ?_) ?_ ?_
         rotate_left
         · show Act.put _ (some 43) _ = _
           simp only [Act.put, sA, sB, sC, i64_w, i32_w]
           rfl
         refine one_ (i := 3) (N := some 44) #[true, true, true, true, false] rfl rfl (by kernel_rfl) (by decide) (fun K hK => ?_)
         refine goes_ Try.func20 (by kernel_rfl) rfl #[.agg #[.int .i64 t393, .int .i64 t394, .slice Ao24 t395.length co24], .agg #[.int .i64 t404, .int .i64 t405, .slice Ao89 t406.length co89]] (by rfl) rfl rfl (by (try simp only [List.map_toArray, List.map_cons, List.map_nil]); first | done | rfl | (simp only [List.length_drop, List.length_take]; rfl)) ?_
         with_reducible refine (laws_eqTiling.calls kj10 t393 t394 _ _ t395 t404 t405 _ _ t406 false _ ?side1 ?side2 ?side3 ?side4 A36.out).mono ?_
         (case side1 => repeat (first | exact (Kd.R_reads' HO_399002.out).2.2 | (with_reducible refine Kd.C_alloc ?_ _) | (with_reducible refine Kd.C_drewN ?_ _) | (with_reducible refine Kd.C_drew ?_)))
         (case side2 => exact (Kd.R_reads' HO_399002.out).2.1)
         (case side3 => repeat (first | exact (Kd.R_reads' HO408.out).2.2 | (with_reducible refine Kd.C_alloc ?_ _) | (with_reducible refine Kd.C_drewN ?_ _) | (with_reducible refine Kd.C_drew ?_)))
         (case side4 => exact (Kd.R_reads' HO408.out).2.1)
         rintro e w90 ⟨rfl, hb⟩
         refine ⟨_, rfl, ?_⟩
         have n0_ := mkA (Kd.R_below (by (with_reducible repeat (first | apply Kd.R_alloc | apply Kd.R_drewN | apply Kd.R_drew)); exact HO_4.out) hb)
         have n1_ := mkA (Kd.R_below (by (with_reducible repeat (first | apply Kd.R_alloc | apply Kd.R_drewN | apply Kd.R_drew)); exact HO_7.out) hb)
         have n2_ := mkA (Kd.R_below (by (with_reducible repeat (first | apply Kd.R_alloc | apply Kd.R_drewN | apply Kd.R_drew)); exact HO_399002.out) hb)
         have n3_ := mkA (Kd.R_below (by (with_reducible repeat (first | apply Kd.R_alloc | apply Kd.R_drewN | apply Kd.R_drew)); exact HO408.out) hb)
         have n4_ := mkA (blk_below (g := gb382) (o := .cells #[.int .i64 a0_0, .int .i64 a0_1, .slice A0_2 l0_2.length c0_2] 24 (0, 0)) (bl_ BK382.out) hb)
         have n5_ := mkA (blk_below (g := gb398) (o := .cells #[.int .i64 t393, .int .i64 t394, .slice Ao24 t395.length co24] 29 (0, 0)) (bl_ BK398.out) hb)
         have n6_ := mkA (below_step (bs2_ HB.out GE382.out GE398.out) hb)
         clear HO_4
         clear HO_7
         clear HO_399002
         clear HO408
         clear BK382
         clear BK398
         clear HB
         have HO_4 := n0_
         have HO_7 := n1_
         have HO_399002 := n2_
         have HO408 := n3_
         have BK382 := n4_
         have BK398 := n5_
         have HB := n6_
         clear n0_ n1_ n2_ n3_ n4_ n5_ n6_
         (try clear hb)
         (try clear hb2)
         (try clear hk)
         (try clear hi)
         refine hK.out _ _ ⟨(blk_cell BK398.out 0).trans rfl, (blk_cell BK398.out 1).trans rfl, (blk_cell BK398.out 2).trans rfl, (blk_cell BK382.out 0).trans rfl, (blk_cell BK382.out 1).trans rfl, (blk_cell BK382.out 2).trans rfl⟩ (fun hHeld => ?_)
         clear hK K
         refine norm_ (a' := ?_) ?_ ?_
         rotate_left
         · show Act.put _ (some 44) _ = _
           simp only [Act.put, sA, sB, sC, i64_w, i32_w]
           rfl
         refine pure_ (i := 4) (N := some 45) (v := ?_) (a' := ?_) #[true, true, true, true, true] rfl rfl (by kernel_rfl) (fun _ _ _ h => h) (Or.inl ⟨by rfl, ?_⟩) ?_ ?_
         rotate_left
         · intro w'
           go_simp
           with_reducible rfl
         rotate_left
         · simp only [Act.put, sA, sB, sC, i64_w, i32_w]
           rfl
         refine done_ (by kernel_rfl) ?_
         try go_wp2
         go_ret
         exact ⟨by first | rfl | (simp [errW_none, errW_some] <;> rfl) | (simp [*, errW_none, errW_some] <;> rfl), by repeat (first | (with_reducible first | exact HB.out | apply below_alloc | apply pw_below_drewN | apply below_drew1 | refine below_set ?_ GE382.out | refine below_set ?_ GE398.out) | exact HB.out)⟩
       subst c37
       have H1 : ((laws_markTiling.f kj10 t393 t394 t395 1).bind fun bt410 => (if bt410.1 < 0 then (laws_FnExactSymmetriesOf.j1 kj10 t389 t392 t399 true a0_0 a0_1 l0_2) else ((laws_eqMotionS.f kj10 t399 t389).bind fun t412 => (if t412 = true then (laws_FnExactSymmetriesOf.j1 kj10 t389 t392 t399 (t402 != t392) a0_0 a0_1 l0_2) else (laws_FnExactSymmetriesOf.j1 kj10 t389 t392 t399 true a0_0 a0_1 l0_2))))) = some r := by rw [if_pos rfl] at H; exact H
       clear H
       have H := H1
       clear H1
       replace H := Option.bind_eq_some_iff.mp H
       obtain ⟨⟨t410, t411⟩, A380, H⟩ := H
       replace H : (if t410 < 0 then (laws_FnExactSymmetriesOf.j1 kj10 t389 t392 t399 true a0_0 a0_1 l0_2) else ((laws_eqMotionS.f kj10 t399 t389).bind fun t412 => (if t412 = true then (laws_FnExactSymmetriesOf.j1 kj10 t389 t392 t399 (t402 != t392) a0_0 a0_1 l0_2) else (laws_FnExactSymmetriesOf.j1 kj10 t389 t392 t399 true a0_0 a0_1 l0_2)))) = some r := H
       have A38 := mkA A380
       clear A380
       have HC39 := mkA H
       clear H
       try go_wp2
       have n0_ := mkA (Kd.R_drew HO_4.out)
       have n1_ := mkA (Kd.R_drew HO_7.out)
       have n2_ := mkA (Kd.R_drew HO_399002.out)
       have n3_ := mkA (blk_drew BK382.out)
       have n4_ := mkA (blk_drew BK398.out)
       have n5_ := mkA (below_drew1 HB.out)
       clear HO_4
       clear HO_7
       clear HO_399002
       clear BK382
       clear BK398
       clear HB
       have HO_4 := n0_
       have HO_7 := n1_
       have HO_399002 := n2_
       have BK382 := n3_
       have BK398 := n4_
       have HB := n5_
       clear n0_ n1_ n2_ n3_ n4_ n5_
       refine start_ (n := 5) (S := fun w' => w'.cell? ⟨gb398, 0, none⟩ = some (.int .i64 t393) ∧ w'.cell? ⟨gb398, 1, none⟩ = some (.int .i64 t394) ∧ w'.cell? ⟨gb398, 2, none⟩ = some (.slice Ao24 t395.length co24) ∧ w'.cell? ⟨gb382, 0, none⟩ = some (.int .i64 a0_0) ∧ w'.cell? ⟨gb382, 1, none⟩ = some (.int .i64 a0_1) ∧ w'.cell? ⟨gb382, 2, none⟩ = some (.slice A0_2 l0_2.length c0_2)) (ds := []) #[false, false, false, false, false] (by kernel_rfl) rfl rfl ⟨(blk_cell BK398.out 0).trans rfl, (blk_cell BK398.out 1).trans rfl, (blk_cell BK398.out 2).trans rfl, (blk_cell BK382.out 0).trans rfl, (blk_cell BK382.out 1).trans rfl, (blk_cell BK382.out 2).trans rfl⟩ (fun hHeld => ?_)
       generalize wc.drew = w40 at HO_4 HO_7 HO_399002 BK382 BK398 HB hHeld ⊢
       refine take_ (i := 0) (N := some 41) (v := ?_) (a' := ?_) #[true, false, false, false, false] rfl rfl (by kernel_rfl) (fun _ _ _ h => h) (Or.inl ⟨by rfl, ?_⟩) hHeld ?_ ?_
       rotate_left
       · rintro w' ⟨s0, s1, s2, s3, s4, s5⟩
         go_simp
         with_reducible rfl
       rotate_left
       · simp only [Act.put, sA, sB, sC, i64_w, i32_w]
         rfl
       refine take_ (i := 1) (N := some 42) (v := ?_) (a' := ?_) #[true, true, false, false, false] rfl rfl (by kernel_rfl) (fun _ _ _ h => h) (Or.inl ⟨by rfl, ?_⟩) hHeld ?_ ?_
       rotate_left
       · rintro w' ⟨s0, s1, s2, s3, s4, s5⟩
         go_simp
         with_reducible rfl
       rotate_left
       · simp only [Act.put, sA, sB, sC, i64_w, i32_w]
         rfl
       refine one_ (i := 2) (N := some 43) #[true, true, true, false, false] rfl rfl (by kernel_rfl) (by decide) (fun K hK => ?_)
       refine goes_ Try.func17 (by kernel_rfl) rfl #[.agg #[.int .i64 a0_0, .int .i64 a0_1, .slice A0_2 l0_2.length c0_2]] (by rfl) rfl rfl (by (try simp only [List.map_toArray, List.map_cons, List.map_nil]); first | done | rfl | (simp only [List.length_drop, List.length_take]; rfl)) ?_
       with_reducible refine (laws_toTiling.calls kj10 a0_0 a0_1 _ _ l0_2 t404 t405 t406 _ ?side1 ?side2 A35.out).mono ?_
       (case side1 => exact cb_ HR0_2.out HB.out)
       (case side2 => exact HC0_2.out)
       rintro e w41 ⟨v407, rfl, ho0, hb⟩
       refine ⟨_, rfl, ?_⟩
       have n0_ := mkA (Kd.R_below (by (with_reducible repeat (first | apply Kd.R_alloc | apply Kd.R_drewN | apply Kd.R_drew)); exact HO_4.out) hb)
       have n1_ := mkA (Kd.R_below (by (with_reducible repeat (first | apply Kd.R_alloc | apply Kd.R_drewN | apply Kd.R_drew)); exact HO_7.out) hb)
       have n2_ := mkA (Kd.R_elder' (by (with_reducible repeat (first | apply Kd.R_alloc | apply Kd.R_drewN | apply Kd.R_drew)); exact HO_399002.out) (Kd.R_base ho0) hb)
       have n3_ := mkA (Kd.R_lower (Kd.R_new' ho0 (Kd.R_lt (by (with_reducible repeat (first | apply Kd.R_alloc | apply Kd.R_drewN | apply Kd.R_drew)); exact HO_399002.out))) (below_size (bs2_ HB.out GE382.out GE398.out)))
       have n4_ := mkA (blk_below (g := gb382) (o := .cells #[.int .i64 a0_0, .int .i64 a0_1, .slice A0_2 l0_2.length c0_2] 24 (0, 0)) (bl_ BK382.out) hb)
       have n5_ := mkA (blk_below (g := gb398) (o := .cells #[.int .i64 t393, .int .i64 t394, .slice Ao24 t395.length co24] 29 (0, 0)) (bl_ BK398.out) hb)
       have n6_ := mkA (below_step (bs2_ HB.out GE382.out GE398.out) hb)
       clear HO_4
       clear HO_7
       clear HO_399002
       clear BK382
       clear BK398
       clear HB
       have HO_4 := n0_
       have HO_7 := n1_
       have HO_399002 := n2_
       have HO408 := n3_
       have BK382 := n4_
       have BK398 := n5_
       have HB := n6_
       clear n0_ n1_ n2_ n3_ n4_ n5_ n6_
       (try clear hb)
       (try clear hb2)
       (try clear hk)
       (try clear hi)
       (try clear ho0)
       obtain ⟨Ao42, co42, eo42⟩ := Kd.R_slice HO408.out
       (first | subst eo42 | (injection eo42 with f1_ f2_ f3_; have f4_ := f1_.symm; have f5_ := f3_.symm; clear f1_ f2_ f3_; subst f4_; subst f5_))
       refine hK.out _ _ ⟨(blk_cell BK398.out 0).trans rfl, (blk_cell BK398.out 1).trans rfl, (blk_cell BK398.out 2).trans rfl, (blk_cell BK382.out 0).trans rfl, (blk_cell BK382.out 1).trans rfl, (blk_cell BK382.out 2).trans rfl⟩ (fun hHeld => ?_)
       clear hK K
       refine norm_ (a' := ?_) ?_ ?_
       rotate_left
       · show Act.put _ (some 43) _ = _
         simp only [Act.put, sA, sB, sC, i64_w, i32_w]
         rfl
       refine one_ (i := 3) (N := some 44) #[true, true, true, true, false] rfl rfl (by kernel_rfl) (by decide) (fun K hK => ?_)
       refine goes_ Try.func20 (by kernel_rfl) rfl #[.agg #[.int .i64 t393, .int .i64 t394, .slice Ao24 t395.length co24], .agg #[.int .i64 t404, .int .i64 t405, .slice Ao42 t406.length co42]] (by rfl) rfl rfl (by (try simp only [List.map_toArray, List.map_cons, List.map_nil]); first | done | rfl | (simp only [List.length_drop, List.length_take]; rfl)) ?_
       with_reducible refine (laws_eqTiling.calls kj10 t393 t394 _ _ t395 t404 t405 _ _ t406 true _ ?side1 ?side2 ?side3 ?side4 A36.out).mono ?_
       (case side1 => repeat (first | exact (Kd.R_reads' HO_399002.out).2.2 | (with_reducible refine Kd.C_alloc ?_ _) | (with_reducible refine Kd.C_drewN ?_ _) | (with_reducible refine Kd.C_drew ?_)))
       (case side2 => exact (Kd.R_reads' HO_399002.out).2.1)
       (case side3 => repeat (first | exact (Kd.R_reads' HO408.out).2.2 | (with_reducible refine Kd.C_alloc ?_ _) | (with_reducible refine Kd.C_drewN ?_ _) | (with_reducible refine Kd.C_drew ?_)))
       (case side4 => exact (Kd.R_reads' HO408.out).2.1)
       rintro e w43 ⟨rfl, hb⟩
       refine ⟨_, rfl, ?_⟩
       have n0_ := mkA (Kd.R_below (by (with_reducible repeat (first | apply Kd.R_alloc | apply Kd.R_drewN | apply Kd.R_drew)); exact HO_4.out) hb)
       have n1_ := mkA (Kd.R_below (by (with_reducible repeat (first | apply Kd.R_alloc | apply Kd.R_drewN | apply Kd.R_drew)); exact HO_7.out) hb)
       have n2_ := mkA (Kd.R_below (by (with_reducible repeat (first | apply Kd.R_alloc | apply Kd.R_drewN | apply Kd.R_drew)); exact HO_399002.out) hb)
       have n3_ := mkA (Kd.R_below (by (with_reducible repeat (first | apply Kd.R_alloc | apply Kd.R_drewN | apply Kd.R_drew)); exact HO408.out) hb)
       have n4_ := mkA (blk_below (g := gb382) (o := .cells #[.int .i64 a0_0, .int .i64 a0_1, .slice A0_2 l0_2.length c0_2] 24 (0, 0)) (bl_ BK382.out) hb)
       have n5_ := mkA (blk_below (g := gb398) (o := .cells #[.int .i64 t393, .int .i64 t394, .slice Ao24 t395.length co24] 29 (0, 0)) (bl_ BK398.out) hb)
       have n6_ := mkA (below_step (bs2_ HB.out GE382.out GE398.out) hb)
       clear HO_4
       clear HO_7
       clear HO_399002
       clear HO408
       clear BK382
       clear BK398
       clear HB
       have HO_4 := n0_
       have HO_7 := n1_
       have HO_399002 := n2_
       have HO408 := n3_
       have BK382 := n4_
       have BK398 := n5_
       have HB := n6_
       clear n0_ n1_ n2_ n3_ n4_ n5_ n6_
       (try clear hb)
       (try clear hb2)
       (try clear hk)
       (try clear hi)
       refine hK.out _ _ ⟨(blk_cell BK398.out 0).trans rfl, (blk_cell BK398.out 1).trans rfl, (blk_cell BK398.out 2).trans rfl, (blk_cell BK382.out 0).trans rfl, (blk_cell BK382.out 1).trans rfl, (blk_cell BK382.out 2).trans rfl⟩ (fun hHeld => ?_)
       clear hK K
       refine norm_ (a' := ?_) ?_ ?_
       rotate_left
       · show Act.put _ (some 44) _ = _
         simp only [Act.put, sA, sB, sC, i64_w, i32_w]
         rfl
       refine pure_ (i := 4) (N := some 45) (v := ?_) (a' := ?_) #[true, true, true, true, true] rfl rfl (by kernel_rfl) (fun _ _ _ h => h) (Or.inl ⟨by rfl, ?_⟩) ?_ ?_
       rotate_left
       · intro w'
         go_simp
         with_reducible rfl
       rotate_left
       · simp only [Act.put, sA, sB, sC, i64_w, i32_w]
         rfl
       refine done_ (by kernel_rfl) ?_
       have hnb44 := NB398_382.out
       have hnc44 := NB382_398.out
       have hcz45_0 : w43.cell? ⟨gb398, 0, none⟩ = some (.int .i64 t393) := (blk_cell BK398.out 0).trans rfl
       have hcz45_1 : w43.cell? ⟨gb398, 1, none⟩ = some (.int .i64 t394) := (blk_cell BK398.out 1).trans rfl
       have hcz45_2 : w43.cell? ⟨gb398, 2, none⟩ = some (.slice Ao24 t395.length co24) := (blk_cell BK398.out 2).trans rfl
       have hfz45_0 := blk_frozen BK398.out 0
       have hfz45_1 := blk_frozen BK398.out 1
       have hfz45_2 := blk_frozen BK398.out 2
       go_upto_region 14 with (first | ((with_reducible refine gate_callee (f := 26) rfl ?_); refine goesL_ (some 48) rfl rfl Try.func26 (by kernel_rfl) rfl #[.agg #[.int .i64 t393, .int .i64 t394, .slice Ao24 t395.length co24], .int .i64 1] rfl (by (try simp only [List.map_toArray, List.map_cons, List.map_nil]); first | done | rfl | (simp only [List.length_drop, List.length_take]; rfl)) ?_; (with_reducible refine (laws_markTiling.calls kj10 t393 t394 (fun k_ => some k_ = (.slice Ao24 t395.length co24 : Value).ownBlock) (.slice Ao24 t395.length co24) t395 1 t410 t411 w _ ?side1 ?side2 A38.out).mono ?_); (case side1 => repeat (first | (with_reducible first | exact HB.out | apply below_alloc | apply pw_below_drewN | apply below_drew1 | refine below_set ?_ GE382.out | refine below_set ?_ GE398.out) | exact HB.out)); (case side2 => exact Kd.R_tight rfl HO_399002.out); rintro e w46 ⟨rfl, hy0, hb, hkp⟩; refine ⟨_, rfl, ?_⟩; have n0_ := mkA (Kd.R_mono (ok' := fun k_ => some k_ ≠ (v400 : Value).ownBlock) (Kd.R_keptB ((Kd.R_apart' HO_4.out (Kd.R_typed HO_399002.out) (by decide))) hkp (fun k_ hk_ hs_ => (hk_.2) hs_)) (fun k_ hk_ => hk_.1.1)); have n1_ := mkA (Kd.R_mono (ok' := fun k_ => some k_ ≠ (v390 : Value).ownBlock) (Kd.R_keptB ((Kd.R_apart' HO_7.out (Kd.R_typed HO_399002.out) (by decide))) hkp (fun k_ hk_ hs_ => (hk_.2) hs_)) (fun k_ hk_ => hk_.1.1)); have n2_ := mkA (Kd.R_reok rfl hy0 (fun k_ e_ => HO_399002.out.1 k_ e_)); have n3_ := mkA (blk_kept (bl_ BK382.out) hkp (fun hs_ => (fun e_ => (Kd.R_ne HO_399002.out BK382.out (by decide)) e_) hs_)); have n4_ := mkA (blk_kept (bl_ BK398.out) hkp (fun hs_ => (fun e_ => (Kd.R_ne HO_399002.out BK398.out (by decide)) e_) hs_)); have n5_ := mkA (Kd.R_mono (ok' := fun k_ => some k_ ≠ (.slice Ao24 t395.length co24 : Value).ownBlock) (Kd.R_keptB (HO408.out) hkp (fun k_ hk_ hs_ => (hk_.2) hs_)) (fun k_ hk_ => hk_.1.2)); have n6_ := mkA (hb); clear HO_4; clear HO_7; clear HO_399002; clear BK382; clear BK398; clear HO408; clear HB; have HO_4 := n0_; have HO_7 := n1_; have HO_399002 := n2_; have BK382 := n3_; have BK398 := n4_; have HO408 := n5_; have HB := n6_; clear n0_ n1_ n2_ n3_ n4_ n5_ n6_; (try clear hb); (try clear hkp); (try clear hy0)))
       (try simp only [Act.put, sA, sB, sC])
       go_cut [61] (fun v61 wc => ∃ (kq : Nat) (x61_38 : Bool), v61 = .bool x61_38 ∧ Aside0 (laws_FnExactSymmetriesOf.j1 kq t389 t392 t399 x61_38 a0_0 a0_1 l0_2 = some r) ∧ Aside0 (kq ≤ kj10) ∧ Aside0 (Kd.R k31 31 wc w.heap.size (fun k_ => some k_ ≠ (v400 : Value).ownBlock) v390 t389) ∧ Aside0 (Kd.R k31 31 wc w.heap.size (fun k_ => some k_ ≠ (v390 : Value).ownBlock) v400 t399) ∧ Aside0 (Kd.R (Kd.int .i64) 2 wc w.heap.size (fun _ => True) (.slice Ao24 t395.length co24) t411) ∧ Aside0 (wc.heap[gb382]? = some (.cells #[.int .i64 a0_0, .int .i64 a0_1, (.slice A0_2 l0_2.length c0_2)] 24 (0, 0))) ∧ Aside0 (wc.heap[gb398]? = some (.cells #[.int .i64 t393, .int .i64 t394, (.slice Ao24 t395.length co24)] 29 (0, 0))) ∧ Aside0 (Below w.heap.size w wc))
       case first =>
        have H := HC39.out
        clear HC39
        by_cases c47 : t410 < 0
        · rw [if_pos c47] at H
          have c47b0 : decide (t410 < 0) = true := decide_eq_true c47
          clear c47
          (first | rw [c47b0] | (simp only [i64_w, i32_w]; rw [c47b0]) | skip)
          have H' := mkA H
          clear H
          go_wp2
          go_meet
          case rel => exact ⟨_, (true), (by first | rfl | (simp; done) | (simp [*]; done) | (simp [i64_w, i32_w]; done)), H', ⟨by have := HJ10.out; first | omega | exact Nat.le_refl _⟩, ⟨by (with_reducible repeat (first | apply Kd.R_alloc | apply Kd.R_drewN | apply Kd.R_drew)); exact HO_4.out⟩, ⟨by (with_reducible repeat (first | apply Kd.R_alloc | apply Kd.R_drewN | apply Kd.R_drew)); exact HO_7.out⟩, ⟨by (with_reducible repeat (first | apply Kd.R_alloc | apply Kd.R_drewN | apply Kd.R_drew)); exact Kd.R_mono HO_399002.out (fun _ hk => trivial)⟩, ⟨by (with_reducible repeat (first | refine blk_drewN ?_ _ | refine blk_drew ?_ | refine blk_alloc ?_ _)); exact BK382.out⟩, ⟨by (with_reducible repeat (first | refine blk_drewN ?_ _ | refine blk_drew ?_ | refine blk_alloc ?_ _)); exact BK398.out⟩, ⟨by repeat (first | (with_reducible first | exact HB.out | apply below_alloc | apply pw_below_drewN | apply below_drew1 | refine below_set ?_ GE382.out | refine below_set ?_ GE398.out) | exact HB.out)⟩⟩
        · rw [if_neg c47] at H
          have c47b0 : decide (t410 < 0) = false := decide_eq_false c47
          clear c47
          (first | rw [c47b0] | (simp only [i64_w, i32_w]; rw [c47b0]) | skip)
          replace H := Option.bind_eq_some_iff.mp H
          obtain ⟨t412, A480, H⟩ := H
          replace H : (if t412 = true then (laws_FnExactSymmetriesOf.j1 kj10 t389 t392 t399 (t402 != t392) a0_0 a0_1 l0_2) else (laws_FnExactSymmetriesOf.j1 kj10 t389 t392 t399 true a0_0 a0_1 l0_2)) = some r := H
          have A48 := mkA A480
          clear A480
          by_cases c49 : t412 = true
          · subst c49
            have H1 : (laws_FnExactSymmetriesOf.j1 kj10 t389 t392 t399 (t402 != t392) a0_0 a0_1 l0_2) = some r := by rw [if_pos rfl] at H; exact H
            clear H
            have H := H1
            clear H1
            have H' := mkA H
            clear H
            obtain ⟨Ao50, co50, eo50⟩ := Kd.R_slice HO_7.out
            subst eo50
            obtain ⟨Ao51, co51, eo51⟩ := Kd.R_slice HO_4.out
            subst eo51
            go_wp2_with (first | (go_at_call 49; (with_reducible refine (laws_eqMotionS.calls kj10 _ _ t399 _ _ t389 true _ ?side1 ?side2 ?side3 ?side4 A48.out).mono ?_); (case side1 => repeat (first | exact (Kd.R_reads' HO_7.out).2.2 | (with_reducible refine Kd.C_alloc ?_ _) | (with_reducible refine Kd.C_drewN ?_ _) | (with_reducible refine Kd.C_drew ?_))); (case side2 => exact (Kd.R_reads' HO_7.out).2.1); (case side3 => repeat (first | exact (Kd.R_reads' HO_4.out).2.2 | (with_reducible refine Kd.C_alloc ?_ _) | (with_reducible refine Kd.C_drewN ?_ _) | (with_reducible refine Kd.C_drew ?_))); (case side4 => exact (Kd.R_reads' HO_4.out).2.1); rintro e w52 ⟨rfl, hb⟩; have n0_ := mkA (Kd.R_below (by (with_reducible repeat (first | apply Kd.R_alloc | apply Kd.R_drewN | apply Kd.R_drew)); exact HO_4.out) hb); have n1_ := mkA (Kd.R_below (by (with_reducible repeat (first | apply Kd.R_alloc | apply Kd.R_drewN | apply Kd.R_drew)); exact HO_7.out) hb); have n2_ := mkA (Kd.R_below (by (with_reducible repeat (first | apply Kd.R_alloc | apply Kd.R_drewN | apply Kd.R_drew)); exact HO_399002.out) hb); have n3_ := mkA (Kd.R_below (by (with_reducible repeat (first | apply Kd.R_alloc | apply Kd.R_drewN | apply Kd.R_drew)); exact HO408.out) hb); have n4_ := mkA (blk_below (g := gb382) (o := .cells #[.int .i64 a0_0, .int .i64 a0_1, .slice A0_2 l0_2.length c0_2] 24 (0, 0)) (bl_ BK382.out) hb); have n5_ := mkA (blk_below (g := gb398) (o := .cells #[.int .i64 t393, .int .i64 t394, .slice Ao24 t395.length co24] 29 (0, 0)) (bl_ BK398.out) hb); have n6_ := mkA (below_step (bs2_ HB.out GE382.out GE398.out) hb); clear HO_4; clear HO_7; clear HO_399002; clear HO408; clear BK382; clear BK398; clear HB; have HO_4 := n0_; have HO_7 := n1_; have HO_399002 := n2_; have HO408 := n3_; have BK382 := n4_; have BK398 := n5_; have HB := n6_; clear n0_ n1_ n2_ n3_ n4_ n5_ n6_; (try clear hb); (try clear hb2); (try clear hk); (try clear hi)))
            go_meet
            case rel => exact ⟨_, ((t402 != t392)), (by first | rfl | (simp; done) | (simp [*]; done) | (simp [i64_w, i32_w]; done)), H', ⟨by have := HJ10.out; first | omega | exact Nat.le_refl _⟩, ⟨by (with_reducible repeat (first | apply Kd.R_alloc | apply Kd.R_drewN | apply Kd.R_drew)); exact HO_4.out⟩, ⟨by (with_reducible repeat (first | apply Kd.R_alloc | apply Kd.R_drewN | apply Kd.R_drew)); exact HO_7.out⟩, ⟨by (with_reducible repeat (first | apply Kd.R_alloc | apply Kd.R_drewN | apply Kd.R_drew)); exact Kd.R_mono HO_399002.out (fun _ hk => trivial)⟩, ⟨by (with_reducible repeat (first | refine blk_drewN ?_ _ | refine blk_drew ?_ | refine blk_alloc ?_ _)); exact BK382.out⟩, ⟨by (with_reducible repeat (first | refine blk_drewN ?_ _ | refine blk_drew ?_ | refine blk_alloc ?_ _)); exact BK398.out⟩, ⟨by repeat (first | (with_reducible first | exact HB.out | apply below_alloc | apply pw_below_drewN | apply below_drew1 | refine below_set ?_ GE382.out | refine below_set ?_ GE398.out) | exact HB.out)⟩⟩
          · replace c49 := Bool.eq_false_iff.mpr c49
            subst c49
            have H1 : (laws_FnExactSymmetriesOf.j1 kj10 t389 t392 t399 true a0_0 a0_1 l0_2) = some r := by rw [if_neg (show ¬ (false = true) by decide)] at H; exact H
            clear H
            have H := H1
            clear H1
            have H' := mkA H
            clear H
            obtain ⟨Ao53, co53, eo53⟩ := Kd.R_slice HO_7.out
            subst eo53
            obtain ⟨Ao54, co54, eo54⟩ := Kd.R_slice HO_4.out
            subst eo54
            go_wp2_with (first | (go_at_call 49; (with_reducible refine (laws_eqMotionS.calls kj10 _ _ t399 _ _ t389 false _ ?side1 ?side2 ?side3 ?side4 A48.out).mono ?_); (case side1 => repeat (first | exact (Kd.R_reads' HO_7.out).2.2 | (with_reducible refine Kd.C_alloc ?_ _) | (with_reducible refine Kd.C_drewN ?_ _) | (with_reducible refine Kd.C_drew ?_))); (case side2 => exact (Kd.R_reads' HO_7.out).2.1); (case side3 => repeat (first | exact (Kd.R_reads' HO_4.out).2.2 | (with_reducible refine Kd.C_alloc ?_ _) | (with_reducible refine Kd.C_drewN ?_ _) | (with_reducible refine Kd.C_drew ?_))); (case side4 => exact (Kd.R_reads' HO_4.out).2.1); rintro e w55 ⟨rfl, hb⟩; have n0_ := mkA (Kd.R_below (by (with_reducible repeat (first | apply Kd.R_alloc | apply Kd.R_drewN | apply Kd.R_drew)); exact HO_4.out) hb); have n1_ := mkA (Kd.R_below (by (with_reducible repeat (first | apply Kd.R_alloc | apply Kd.R_drewN | apply Kd.R_drew)); exact HO_7.out) hb); have n2_ := mkA (Kd.R_below (by (with_reducible repeat (first | apply Kd.R_alloc | apply Kd.R_drewN | apply Kd.R_drew)); exact HO_399002.out) hb); have n3_ := mkA (Kd.R_below (by (with_reducible repeat (first | apply Kd.R_alloc | apply Kd.R_drewN | apply Kd.R_drew)); exact HO408.out) hb); have n4_ := mkA (blk_below (g := gb382) (o := .cells #[.int .i64 a0_0, .int .i64 a0_1, .slice A0_2 l0_2.length c0_2] 24 (0, 0)) (bl_ BK382.out) hb); have n5_ := mkA (blk_below (g := gb398) (o := .cells #[.int .i64 t393, .int .i64 t394, .slice Ao24 t395.length co24] 29 (0, 0)) (bl_ BK398.out) hb); have n6_ := mkA (below_step (bs2_ HB.out GE382.out GE398.out) hb); clear HO_4; clear HO_7; clear HO_399002; clear HO408; clear BK382; clear BK398; clear HB; have HO_4 := n0_; have HO_7 := n1_; have HO_399002 := n2_; have HO408 := n3_; have BK382 := n4_; have BK398 := n5_; have HB := n6_; clear n0_ n1_ n2_ n3_ n4_ n5_ n6_; (try clear hb); (try clear hb2); (try clear hk); (try clear hi)))
            go_meet
            case rel => exact ⟨_, (true), (by first | rfl | (simp; done) | (simp [*]; done) | (simp [i64_w, i32_w]; done)), H', ⟨by have := HJ10.out; first | omega | exact Nat.le_refl _⟩, ⟨by (with_reducible repeat (first | apply Kd.R_alloc | apply Kd.R_drewN | apply Kd.R_drew)); exact HO_4.out⟩, ⟨by (with_reducible repeat (first | apply Kd.R_alloc | apply Kd.R_drewN | apply Kd.R_drew)); exact HO_7.out⟩, ⟨by (with_reducible repeat (first | apply Kd.R_alloc | apply Kd.R_drewN | apply Kd.R_drew)); exact Kd.R_mono HO_399002.out (fun _ hk => trivial)⟩, ⟨by (with_reducible repeat (first | refine blk_drewN ?_ _ | refine blk_drew ?_ | refine blk_alloc ?_ _)); exact BK382.out⟩, ⟨by (with_reducible repeat (first | refine blk_drewN ?_ _ | refine blk_drew ?_ | refine blk_alloc ?_ _)); exact BK398.out⟩, ⟨by repeat (first | (with_reducible first | exact HB.out | apply below_alloc | apply pw_below_drewN | apply below_drew1 | refine below_set ?_ GE382.out | refine below_set ?_ GE398.out) | exact HB.out)⟩⟩
       case rest =>
        clear HC39
        try clear c1
        try clear c2
        try clear p2
        try clear c3
        try clear c3b0
        try clear c4
        try clear c14
        try clear c15
        try clear c17
        try clear c20
        try clear c22
        try clear c26
        try clear c27
        try clear c34
        try clear c37
        try clear c44
        try clear c47
        try clear c47b0
        try clear c48
        try clear c49
        try clear hcz13_0
        try clear hcz13_1
        try clear hcz13_2
        try clear hcz15_0
        try clear hcz15_1
        try clear hcz15_2
        try clear hcz19_0
        try clear hcz19_1
        try clear hcz19_2
        try clear hcz23_0
        try clear hcz23_1
        try clear hcz23_2
        try clear hcz45_0
        try clear hcz45_1
        try clear hcz45_2
        try clear hcz5_0
        try clear hcz5_1
        try clear hcz5_2
        try clear hfz13_0
        try clear hfz13_1
        try clear hfz13_2
        try clear hfz15_0
        try clear hfz15_1
        try clear hfz15_2
        try clear hfz19_0
        try clear hfz19_1
        try clear hfz19_2
        try clear hfz23_0
        try clear hfz23_1
        try clear hfz23_2
        try clear hfz45_0
        try clear hfz45_1
        try clear hfz45_2
        try clear hfz5_0
        try clear hfz5_1
        try clear hfz5_2
        try clear p2
        obtain ⟨kq, x61_38, rfl, HA, HJ38, HO_4, HO_7, HO_399002, BK382, BK398, HB⟩ := hcut
        have hl399002_38 := (Kd.R_reads' HO_399002.out).1
        rw [hl399002_38] at HO_399002
        (try simp only [hl399002_38])
        (try simp only [hl399002_38] at BK382)
        (try simp only [hl399002_38] at BK398)
        (try simp only [hl399002_38] at HO_4)
        (try simp only [hl399002_38] at HO_7)
        cases kq with
        | zero => exact absurd HA.out (by simp [laws_FnExactSymmetriesOf.j1])
        | succ kj38 =>
         have H := HA.out
         clear HA
         simp only [laws_FnExactSymmetriesOf.j1] at H
         by_cases c56 : x61_38 = true
         · subst c56
           have H1 : (some false) = some r := by rw [if_pos rfl] at H; exact H
           clear H
           have H := H1
           clear H1
           obtain rfl := Option.some.inj H
           go_wp2
           go_ret
           exact ⟨by first | rfl | (simp [errW_none, errW_some] <;> rfl) | (simp [*, errW_none, errW_some] <;> rfl), by repeat (first | (with_reducible first | exact HB.out | apply below_alloc | apply pw_below_drewN | apply below_drew1 | refine below_set ?_ GE382.out | refine below_set ?_ GE398.out) | exact HB.out)⟩
         · replace c56 := Bool.eq_false_iff.mpr c56
           subst c56
           have H1 : ((laws_markMotionS.f kj38 t399 1).bind fun bt413 => ((laws_heldMotionS.f kj38 bt413.2 1).bind fun t415 => (if t415 < 0 then (some false) else (if t415 = bt413.1 then ((laws_toTiling.f kj38 a0_0 a0_1 l0_2).bind fun bt416 => ((impl_SymmetriesOf.f kj38 bt416.1 bt416.2.1 bt416.2.2).bind fun bt421 => ((laws_eqMotionS.f kj38 bt421.1 t389).bind fun t425 => (if t425 = true then (laws_FnExactSymmetriesOf.j2 kj38 bt413.2 bt413.1 (bt421.2 != t392)) else (laws_FnExactSymmetriesOf.j2 kj38 bt413.2 bt413.1 true))))) else (some false))))) = some r := by rw [if_neg (show ¬ (false = true) by decide)] at H; exact H
           clear H
           have H := H1
           clear H1
           replace H := Option.bind_eq_some_iff.mp H
           obtain ⟨⟨t413, t414⟩, A570, H⟩ := H
           replace H : ((laws_heldMotionS.f kj38 t414 1).bind fun t415 => (if t415 < 0 then (some false) else (if t415 = t413 then ((laws_toTiling.f kj38 a0_0 a0_1 l0_2).bind fun bt416 => ((impl_SymmetriesOf.f kj38 bt416.1 bt416.2.1 bt416.2.2).bind fun bt421 => ((laws_eqMotionS.f kj38 bt421.1 t389).bind fun t425 => (if t425 = true then (laws_FnExactSymmetriesOf.j2 kj38 t414 t413 (bt421.2 != t392)) else (laws_FnExactSymmetriesOf.j2 kj38 t414 t413 true))))) else (some false)))) = some r := H
           have A57 := mkA A570
           clear A570
           replace H := Option.bind_eq_some_iff.mp H
           obtain ⟨t415, A580, H⟩ := H
           replace H : (if t415 < 0 then (some false) else (if t415 = t413 then ((laws_toTiling.f kj38 a0_0 a0_1 l0_2).bind fun bt416 => ((impl_SymmetriesOf.f kj38 bt416.1 bt416.2.1 bt416.2.2).bind fun bt421 => ((laws_eqMotionS.f kj38 bt421.1 t389).bind fun t425 => (if t425 = true then (laws_FnExactSymmetriesOf.j2 kj38 t414 t413 (bt421.2 != t392)) else (laws_FnExactSymmetriesOf.j2 kj38 t414 t413 true))))) else (some false))) = some r := H
           have A58 := mkA A580
           clear A580
           by_cases c59 : t415 < 0
           · rw [if_pos c59] at H
             have c59b0 : decide (t415 < 0) = true := decide_eq_true c59
             clear c59
             obtain rfl := Option.some.inj H
             obtain ⟨Ao60, co60, eo60⟩ := Kd.R_slice HO_7.out
             subst eo60
             go_wp2_with (first | ((with_reducible refine gate_callee (f := 50) rfl ?_); refine goesL_ (some 64) rfl rfl Try.func50 (by kernel_rfl) rfl #[.slice Ao60 t399.length co60, .int .i64 1] rfl (by (try simp only [List.map_toArray, List.map_cons, List.map_nil]); first | done | rfl | (simp only [List.length_drop, List.length_take]; rfl)) ?_; (with_reducible refine (laws_markMotionS.calls kj38 (fun k_ => some k_ = (.slice Ao60 t399.length co60 : Value).ownBlock) (.slice Ao60 t399.length co60) t399 1 t413 t414 w _ ?side1 ?side2 A57.out).mono ?_); (case side1 => repeat (first | (with_reducible first | exact HB.out | apply below_alloc | apply pw_below_drewN | apply below_drew1 | refine below_set ?_ GE382.out | refine below_set ?_ GE398.out) | exact HB.out)); (case side2 => exact Kd.R_tight rfl HO_7.out); rintro e w61 ⟨rfl, hy0, hb, hkp⟩; refine ⟨_, rfl, ?_⟩; have n0_ := mkA (Kd.R_mono (ok' := fun k_ => some k_ ≠ (.slice Ao60 t399.length co60 : Value).ownBlock) (Kd.R_keptB (HO_4.out) hkp (fun k_ hk_ hs_ => (hk_) hs_)) (fun k_ hk_ => hk_.1)); have n1_ := mkA (Kd.R_reok rfl hy0 (fun k_ e_ => HO_7.out.1 k_ e_)); have n2_ := mkA (Kd.R_mono (ok' := fun k_ => True) (Kd.R_keptB ((Kd.R_apart' HO_399002.out (Kd.R_typed HO_7.out) (by decide))) hkp (fun k_ hk_ hs_ => (hk_.2) hs_)) (fun k_ hk_ => trivial)); have n3_ := mkA (blk_kept (bl_ BK382.out) hkp (fun hs_ => (fun e_ => (Kd.R_ne HO_7.out BK382.out (by decide)) e_) hs_)); have n4_ := mkA (blk_kept (bl_ BK398.out) hkp (fun hs_ => (fun e_ => (Kd.R_ne HO_7.out BK398.out (by decide)) e_) hs_)); have n5_ := mkA (hb); clear HO_4; clear HO_7; clear HO_399002; clear BK382; clear BK398; clear HB; have HO_4 := n0_; have HO_7 := n1_; have HO_399002 := n2_; have BK382 := n3_; have BK398 := n4_; have HB := n5_; clear n0_ n1_ n2_ n3_ n4_ n5_; (try clear hb); (try clear hkp); (try clear hy0)) | ((with_reducible refine gate_callee (f := 51) rfl ?_); refine goesL_ (some 67) rfl rfl Try.func51 (by kernel_rfl) rfl #[.slice Ao60 t414.length co60, .int .i64 1] rfl (by (try simp only [List.map_toArray, List.map_cons, List.map_nil]); first | done | (rw [show t414.length = t399.length from (Kd.R_reads' HO_7.out).1.symm] <;> rfl) | rfl | (simp only [List.length_drop, List.length_take]; rfl)) ?_; (with_reducible refine (laws_heldMotionS.calls kj38 _ _ t414 1 t415 _ ?side1 ?side2 A58.out).mono ?_); (case side1 => repeat (first | exact (Kd.R_reads' HO_7.out).2.2 | (with_reducible refine Kd.C_alloc ?_ _) | (with_reducible refine Kd.C_drewN ?_ _) | (with_reducible refine Kd.C_drew ?_))); (case side2 => rw [show t414.length = t399.length from (Kd.R_reads' HO_7.out).1.symm]; exact (Kd.R_reads' HO_7.out).2.1); rintro e w' ⟨rfl, ⟨nd, rfl⟩⟩; refine ⟨_, rfl, ?_⟩))
             go_ret
             exact ⟨by first | rfl | (simp [errW_none, errW_some] <;> rfl) | (simp [*, errW_none, errW_some] <;> rfl), by repeat (first | (with_reducible first | exact HB.out | apply below_alloc | apply pw_below_drewN | apply below_drew1 | refine below_set ?_ GE382.out | refine below_set ?_ GE398.out) | exact HB.out)⟩
           · rw [if_neg c59] at H
             have c59b0 : decide (t415 < 0) = false := decide_eq_false c59
             clear c59
             by_cases c62 : t415 = t413
             rotate_left
             · rw [if_neg c62] at H
               have c62b0 : (t415 == t413) = false := beq_eq_false_iff_ne.mpr c62
               have c62b1 : (t415 != t413) = true := bne_iff_ne.mpr c62
               obtain rfl := Option.some.inj H
               obtain ⟨Ao85, co85, eo85⟩ := Kd.R_slice HO_7.out
               subst eo85
               go_wp2_with (first | ((with_reducible refine gate_callee (f := 50) rfl ?_); refine goesL_ (some 64) rfl rfl Try.func50 (by kernel_rfl) rfl #[.slice Ao85 t399.length co85, .int .i64 1] rfl (by (try simp only [List.map_toArray, List.map_cons, List.map_nil]); first | done | rfl | (simp only [List.length_drop, List.length_take]; rfl)) ?_; (with_reducible refine (laws_markMotionS.calls kj38 (fun k_ => some k_ = (.slice Ao85 t399.length co85 : Value).ownBlock) (.slice Ao85 t399.length co85) t399 1 t413 t414 w _ ?side1 ?side2 A57.out).mono ?_); (case side1 => repeat (first | (with_reducible first | exact HB.out | apply below_alloc | apply pw_below_drewN | apply below_drew1 | refine below_set ?_ GE382.out | refine below_set ?_ GE398.out) | exact HB.out)); (case side2 => exact Kd.R_tight rfl HO_7.out); rintro e w86 ⟨rfl, hy0, hb, hkp⟩; refine ⟨_, rfl, ?_⟩; have n0_ := mkA (Kd.R_mono (ok' := fun k_ => some k_ ≠ (.slice Ao85 t399.length co85 : Value).ownBlock) (Kd.R_keptB (HO_4.out) hkp (fun k_ hk_ hs_ => (hk_) hs_)) (fun k_ hk_ => hk_.1)); have n1_ := mkA (Kd.R_reok rfl hy0 (fun k_ e_ => HO_7.out.1 k_ e_)); have n2_ := mkA (Kd.R_mono (ok' := fun k_ => True) (Kd.R_keptB ((Kd.R_apart' HO_399002.out (Kd.R_typed HO_7.out) (by decide))) hkp (fun k_ hk_ hs_ => (hk_.2) hs_)) (fun k_ hk_ => trivial)); have n3_ := mkA (blk_kept (bl_ BK382.out) hkp (fun hs_ => (fun e_ => (Kd.R_ne HO_7.out BK382.out (by decide)) e_) hs_)); have n4_ := mkA (blk_kept (bl_ BK398.out) hkp (fun hs_ => (fun e_ => (Kd.R_ne HO_7.out BK398.out (by decide)) e_) hs_)); have n5_ := mkA (hb); clear HO_4; clear HO_7; clear HO_399002; clear BK382; clear BK398; clear HB; have HO_4 := n0_; have HO_7 := n1_; have HO_399002 := n2_; have BK382 := n3_; have BK398 := n4_; have HB := n5_; clear n0_ n1_ n2_ n3_ n4_ n5_; (try clear hb); (try clear hkp); (try clear hy0)) | ((with_reducible refine gate_callee (f := 51) rfl ?_); refine goesL_ (some 67) rfl rfl Try.func51 (by kernel_rfl) rfl #[.slice Ao85 t414.length co85, .int .i64 1] rfl (by (try simp only [List.map_toArray, List.map_cons, List.map_nil]); first | done | (rw [show t414.length = t399.length from (Kd.R_reads' HO_7.out).1.symm] <;> rfl) | rfl | (simp only [List.length_drop, List.length_take]; rfl)) ?_; (with_reducible refine (laws_heldMotionS.calls kj38 _ _ t414 1 t415 _ ?side1 ?side2 A58.out).mono ?_); (case side1 => repeat (first | exact (Kd.R_reads' HO_7.out).2.2 | (with_reducible refine Kd.C_alloc ?_ _) | (with_reducible refine Kd.C_drewN ?_ _) | (with_reducible refine Kd.C_drew ?_))); (case side2 => rw [show t414.length = t399.length from (Kd.R_reads' HO_7.out).1.symm]; exact (Kd.R_reads' HO_7.out).2.1); rintro e w' ⟨rfl, ⟨nd, rfl⟩⟩; refine ⟨_, rfl, ?_⟩))
               go_ret
               exact ⟨by first | rfl | (simp [errW_none, errW_some] <;> rfl) | (simp [*, errW_none, errW_some] <;> rfl), by repeat (first | (with_reducible first | exact HB.out | apply below_alloc | apply pw_below_drewN | apply below_drew1 | refine below_set ?_ GE382.out | refine below_set ?_ GE398.out) | exact HB.out)⟩
             rw [if_pos c62] at H
             have c62b0 : (t415 == t413) = true := beq_iff_eq.mpr c62
             have c62b1 : (t415 != t413) = false := bne_eq_false_iff_eq.mpr c62
             clear c62
             replace H := Option.bind_eq_some_iff.mp H
             obtain ⟨⟨t416, t417, t418⟩, A630, H⟩ := H
             replace H : ((impl_SymmetriesOf.f kj38 t416 t417 t418).bind fun bt421 => ((laws_eqMotionS.f kj38 bt421.1 t389).bind fun t425 => (if t425 = true then (laws_FnExactSymmetriesOf.j2 kj38 t414 t413 (bt421.2 != t392)) else (laws_FnExactSymmetriesOf.j2 kj38 t414 t413 true)))) = some r := H
             have A63 := mkA A630
             clear A630
             replace H := Option.bind_eq_some_iff.mp H
             obtain ⟨⟨t421, t424⟩, A640, H⟩ := H
             replace H : ((laws_eqMotionS.f kj38 t421 t389).bind fun t425 => (if t425 = true then (laws_FnExactSymmetriesOf.j2 kj38 t414 t413 (t424 != t392)) else (laws_FnExactSymmetriesOf.j2 kj38 t414 t413 true))) = some r := H
             have A64 := mkA A640
             clear A640
             have HC65 := mkA H
             clear H
             obtain ⟨Ao66, co66, eo66⟩ := Kd.R_slice HO_7.out
             subst eo66
             go_upto_region 25 with (first | ((with_reducible refine gate_callee (f := 50) rfl ?_); refine goesL_ (some 64) rfl rfl Try.func50 (by kernel_rfl) rfl #[.slice Ao66 t399.length co66, .int .i64 1] rfl (by (try simp only [List.map_toArray, List.map_cons, List.map_nil]); first | done | rfl | (simp only [List.length_drop, List.length_take]; rfl)) ?_; (with_reducible refine (laws_markMotionS.calls kj38 (fun k_ => some k_ = (.slice Ao66 t399.length co66 : Value).ownBlock) (.slice Ao66 t399.length co66) t399 1 t413 t414 w _ ?side1 ?side2 A57.out).mono ?_); (case side1 => repeat (first | (with_reducible first | exact HB.out | apply below_alloc | apply pw_below_drewN | apply below_drew1 | refine below_set ?_ GE382.out | refine below_set ?_ GE398.out) | exact HB.out)); (case side2 => exact Kd.R_tight rfl HO_7.out); rintro e w67 ⟨rfl, hy0, hb, hkp⟩; refine ⟨_, rfl, ?_⟩; have n0_ := mkA (Kd.R_mono (ok' := fun k_ => some k_ ≠ (.slice Ao66 t399.length co66 : Value).ownBlock) (Kd.R_keptB (HO_4.out) hkp (fun k_ hk_ hs_ => (hk_) hs_)) (fun k_ hk_ => hk_.1)); have n1_ := mkA (Kd.R_reok rfl hy0 (fun k_ e_ => HO_7.out.1 k_ e_)); have n2_ := mkA (Kd.R_mono (ok' := fun k_ => True) (Kd.R_keptB ((Kd.R_apart' HO_399002.out (Kd.R_typed HO_7.out) (by decide))) hkp (fun k_ hk_ hs_ => (hk_.2) hs_)) (fun k_ hk_ => trivial)); have n3_ := mkA (blk_kept (bl_ BK382.out) hkp (fun hs_ => (fun e_ => (Kd.R_ne HO_7.out BK382.out (by decide)) e_) hs_)); have n4_ := mkA (blk_kept (bl_ BK398.out) hkp (fun hs_ => (fun e_ => (Kd.R_ne HO_7.out BK398.out (by decide)) e_) hs_)); have n5_ := mkA (hb); clear HO_4; clear HO_7; clear HO_399002; clear BK382; clear BK398; clear HB; have HO_4 := n0_; have HO_7 := n1_; have HO_399002 := n2_; have BK382 := n3_; have BK398 := n4_; have HB := n5_; clear n0_ n1_ n2_ n3_ n4_ n5_; (try clear hb); (try clear hkp); (try clear hy0)) | ((with_reducible refine gate_callee (f := 51) rfl ?_); refine goesL_ (some 67) rfl rfl Try.func51 (by kernel_rfl) rfl #[.slice Ao66 t414.length co66, .int .i64 1] rfl (by (try simp only [List.map_toArray, List.map_cons, List.map_nil]); first | done | (rw [show t414.length = t399.length from (Kd.R_reads' HO_7.out).1.symm] <;> rfl) | rfl | (simp only [List.length_drop, List.length_take]; rfl)) ?_; (with_reducible refine (laws_heldMotionS.calls kj38 _ _ t414 1 t415 _ ?side1 ?side2 A58.out).mono ?_); (case side1 => repeat (first | exact (Kd.R_reads' HO_7.out).2.2 | (with_reducible refine Kd.C_alloc ?_ _) | (with_reducible refine Kd.C_drewN ?_ _) | (with_reducible refine Kd.C_drew ?_))); (case side2 => rw [show t414.length = t399.length from (Kd.R_reads' HO_7.out).1.symm]; exact (Kd.R_reads' HO_7.out).2.1); rintro e w' ⟨rfl, ⟨nd, rfl⟩⟩; refine ⟨_, rfl, ?_⟩; have hnb68 := NB382_398.out; have hnc68 := NB398_382.out; have hcz69_0 : w67.cell? ⟨gb382, 0, none⟩ = some (.int .i64 a0_0) := (blk_cell BK382.out 0).trans rfl; have hcz69_1 : w67.cell? ⟨gb382, 1, none⟩ = some (.int .i64 a0_1) := (blk_cell BK382.out 1).trans rfl; have hcz69_2 : w67.cell? ⟨gb382, 2, none⟩ = some (.slice A0_2 l0_2.length c0_2) := (blk_cell BK382.out 2).trans rfl; have hfz69_0 := blk_frozen BK382.out 0; have hfz69_1 := blk_frozen BK382.out 1; have hfz69_2 := blk_frozen BK382.out 2) | ((with_reducible refine gate_callee (f := 17) rfl ?_); refine goesL_ (some 75) rfl rfl Try.func17 (by kernel_rfl) rfl #[.agg #[.int .i64 a0_0, .int .i64 a0_1, .slice A0_2 l0_2.length c0_2]] rfl (by (try simp only [List.map_toArray, List.map_cons, List.map_nil]); first | done | rfl | (simp only [List.length_drop, List.length_take]; rfl)) ?_; (with_reducible refine (laws_toTiling.calls kj38 a0_0 a0_1 _ _ l0_2 t416 t417 t418 _ ?side1 ?side2 A63.out).mono ?_); (case side1 => repeat (first | exact (Kd.C_below HR0_2.out (bs2_ HB.out GE382.out GE398.out)) | (with_reducible refine Kd.C_alloc ?_ _) | (with_reducible refine Kd.C_drewN ?_ _) | (with_reducible refine Kd.C_drew ?_))); (case side2 => exact HC0_2.out); rintro e w70 ⟨v419, rfl, ho0, hb⟩; refine ⟨_, rfl, ?_⟩; have n0_ := mkA (Kd.R_below (by (with_reducible repeat (first | apply Kd.R_alloc | apply Kd.R_drewN | apply Kd.R_drew)); exact HO_4.out) hb); have n1_ := mkA (Kd.R_below (by (with_reducible repeat (first | apply Kd.R_alloc | apply Kd.R_drewN | apply Kd.R_drew)); exact HO_7.out) hb); have n2_ := mkA (Kd.R_elder' (by (with_reducible repeat (first | apply Kd.R_alloc | apply Kd.R_drewN | apply Kd.R_drew)); exact HO_399002.out) (Kd.R_base ho0) hb); have n3_ := mkA (Kd.R_lower (Kd.R_new' ho0 (Kd.R_lt (by (with_reducible repeat (first | apply Kd.R_alloc | apply Kd.R_drewN | apply Kd.R_drew)); exact HO_399002.out))) (below_size (bs2_ HB.out GE382.out GE398.out))); have n4_ := mkA (blk_below (g := gb382) (o := .cells #[.int .i64 a0_0, .int .i64 a0_1, .slice A0_2 l0_2.length c0_2] 24 (0, 0)) (bl_ BK382.out) hb); have n5_ := mkA (blk_below (g := gb398) (o := .cells #[.int .i64 t393, .int .i64 t394, .slice Ao24 t411.length co24] 29 (0, 0)) (bl_ BK398.out) hb); have n6_ := mkA (below_step (bs2_ HB.out GE382.out GE398.out) hb); clear HO_4; clear HO_7; clear HO_399002; clear BK382; clear BK398; clear HB; have HO_4 := n0_; have HO_7 := n1_; have HO_399002 := n2_; have HO420 := n3_; have BK382 := n4_; have BK398 := n5_; have HB := n6_; clear n0_ n1_ n2_ n3_ n4_ n5_ n6_; (try clear hb); (try clear hb2); (try clear hk); (try clear hi); (try clear ho0); obtain ⟨Ao71, co71, eo71⟩ := Kd.R_slice HO420.out; subst eo71) | ((with_reducible refine gate_callee (f := 48) rfl ?_); refine goesL_ (some 76) rfl rfl Try.func48 (by kernel_rfl) rfl #[.agg #[.int .i64 t416, .int .i64 t417, .slice Ao71 t418.length co71]] rfl (by (try simp only [List.map_toArray, List.map_cons, List.map_nil]); first | done | rfl | (simp only [List.length_drop, List.length_take]; rfl)) ?_; (with_reducible refine (impl_SymmetriesOf.calls kj38 t416 t417 _ _ t418 t421 t424 _ ?side1 ?side2 A64.out).mono ?_); (case side1 => repeat (first | exact (Kd.R_reads' HO420.out).2.2 | (with_reducible refine Kd.C_alloc ?_ _) | (with_reducible refine Kd.C_drewN ?_ _) | (with_reducible refine Kd.C_drew ?_))); (case side2 => exact (Kd.R_reads' HO420.out).2.1); rintro e w72 ⟨v422, rfl, ho0, hb⟩; refine ⟨_, rfl, ?_⟩; have n0_ := mkA (Kd.R_elder' (by (with_reducible repeat (first | apply Kd.R_alloc | apply Kd.R_drewN | apply Kd.R_drew)); exact HO_4.out) (Kd.R_base ho0) hb); have n1_ := mkA (Kd.R_elder' (by (with_reducible repeat (first | apply Kd.R_alloc | apply Kd.R_drewN | apply Kd.R_drew)); exact HO_7.out) (Kd.R_base ho0) hb); have n2_ := mkA (Kd.R_below (by (with_reducible repeat (first | apply Kd.R_alloc | apply Kd.R_drewN | apply Kd.R_drew)); exact HO_399002.out) hb); have n3_ := mkA (Kd.R_below (by (with_reducible repeat (first | apply Kd.R_alloc | apply Kd.R_drewN | apply Kd.R_drew)); exact HO420.out) hb); have n4_ := mkA (Kd.R_lower (Kd.R_new' (Kd.R_new' ho0 (Kd.R_lt (by (with_reducible repeat (first | apply Kd.R_alloc | apply Kd.R_drewN | apply Kd.R_drew)); exact HO_4.out))) (Kd.R_lt (by (with_reducible repeat (first | apply Kd.R_alloc | apply Kd.R_drewN | apply Kd.R_drew)); exact HO_7.out))) (below_size (bs2_ HB.out GE382.out GE398.out))); have n5_ := mkA (blk_below (g := gb382) (o := .cells #[.int .i64 a0_0, .int .i64 a0_1, .slice A0_2 l0_2.length c0_2] 24 (0, 0)) (bl_ BK382.out) hb); have n6_ := mkA (blk_below (g := gb398) (o := .cells #[.int .i64 t393, .int .i64 t394, .slice Ao24 t411.length co24] 29 (0, 0)) (bl_ BK398.out) hb); have n7_ := mkA (below_step (bs2_ HB.out GE382.out GE398.out) hb); clear HO_4; clear HO_7; clear HO_399002; clear HO420; clear BK382; clear BK398; clear HB; have HO_4 := n0_; have HO_7 := n1_; have HO_399002 := n2_; have HO420 := n3_; have HO423 := n4_; have BK382 := n5_; have BK398 := n6_; have HB := n7_; clear n0_ n1_ n2_ n3_ n4_ n5_ n6_ n7_; (try clear hb); (try clear hb2); (try clear hk); (try clear hi); (try clear ho0)))
             (try simp only [Act.put, sA, sB, sC])
             go_cut [87] (fun v87 wc => ∃ (kq : Nat) (x87_64 : Bool), v87 = .bool x87_64 ∧ Aside0 (laws_FnExactSymmetriesOf.j2 kq t414 t413 x87_64 = some r) ∧ Aside0 (kq ≤ kj38) ∧ Aside0 (Kd.R k31 31 wc w.heap.size (fun _ => True) (.slice Ao66 t399.length co66) t414) ∧ Aside0 (Kd.R (Kd.int .i64) 2 wc w.heap.size (fun _ => True) (.slice Ao24 t411.length co24) t411) ∧ Aside0 (wc.heap[gb382]? = some (.cells #[.int .i64 a0_0, .int .i64 a0_1, (.slice A0_2 l0_2.length c0_2)] 24 (0, 0))) ∧ Aside0 (wc.heap[gb398]? = some (.cells #[.int .i64 t393, .int .i64 t394, (.slice Ao24 t411.length co24)] 29 (0, 0))) ∧ Aside0 (Below w.heap.size w wc))
             case first =>
              have H := HC65.out
              clear HC65
              replace H := Option.bind_eq_some_iff.mp H
              obtain ⟨t425, A730, H⟩ := H
              replace H : (if t425 = true then (laws_FnExactSymmetriesOf.j2 kj38 t414 t413 (t424 != t392)) else (laws_FnExactSymmetriesOf.j2 kj38 t414 t413 true)) = some r := H
              have A73 := mkA A730
              clear A730
              by_cases c74 : t425 = true
              · subst c74
                have H1 : (laws_FnExactSymmetriesOf.j2 kj38 t414 t413 (t424 != t392)) = some r := by rw [if_pos rfl] at H; exact H
                clear H
                have H := H1
                clear H1
                have H' := mkA H
                clear H
                obtain ⟨Ao75, co75, eo75⟩ := Kd.R_slice HO423.out
                subst eo75
                obtain ⟨Ao76, co76, eo76⟩ := Kd.R_slice HO_4.out
                subst eo76
                go_wp2_with (first | ((with_reducible refine gate_callee (f := 49) rfl ?_); refine goesL_ (some 81) rfl rfl Try.func49 (by kernel_rfl) rfl #[.slice Ao75 t421.length co75, .slice Ao76 t389.length co76] rfl (by (try simp only [List.map_toArray, List.map_cons, List.map_nil]); first | done | rfl | (simp only [List.length_drop, List.length_take]; rfl)) ?_; (with_reducible refine (laws_eqMotionS.calls kj38 _ _ t421 _ _ t389 true _ ?side1 ?side2 ?side3 ?side4 A73.out).mono ?_); (case side1 => repeat (first | exact (Kd.R_reads' HO423.out).2.2 | (with_reducible refine Kd.C_alloc ?_ _) | (with_reducible refine Kd.C_drewN ?_ _) | (with_reducible refine Kd.C_drew ?_))); (case side2 => exact (Kd.R_reads' HO423.out).2.1); (case side3 => repeat (first | exact (Kd.R_reads' HO_4.out).2.2 | (with_reducible refine Kd.C_alloc ?_ _) | (with_reducible refine Kd.C_drewN ?_ _) | (with_reducible refine Kd.C_drew ?_))); (case side4 => exact (Kd.R_reads' HO_4.out).2.1); rintro e w77 ⟨rfl, hb⟩; refine ⟨_, rfl, ?_⟩; have n0_ := mkA (Kd.R_below (by (with_reducible repeat (first | apply Kd.R_alloc | apply Kd.R_drewN | apply Kd.R_drew)); exact HO_4.out) hb); have n1_ := mkA (Kd.R_below (by (with_reducible repeat (first | apply Kd.R_alloc | apply Kd.R_drewN | apply Kd.R_drew)); exact HO_7.out) hb); have n2_ := mkA (Kd.R_below (by (with_reducible repeat (first | apply Kd.R_alloc | apply Kd.R_drewN | apply Kd.R_drew)); exact HO_399002.out) hb); have n3_ := mkA (Kd.R_below (by (with_reducible repeat (first | apply Kd.R_alloc | apply Kd.R_drewN | apply Kd.R_drew)); exact HO420.out) hb); have n4_ := mkA (Kd.R_below (by (with_reducible repeat (first | apply Kd.R_alloc | apply Kd.R_drewN | apply Kd.R_drew)); exact HO423.out) hb); have n5_ := mkA (blk_below (g := gb382) (o := .cells #[.int .i64 a0_0, .int .i64 a0_1, .slice A0_2 l0_2.length c0_2] 24 (0, 0)) (bl_ BK382.out) hb); have n6_ := mkA (blk_below (g := gb398) (o := .cells #[.int .i64 t393, .int .i64 t394, .slice Ao24 t411.length co24] 29 (0, 0)) (bl_ BK398.out) hb); have n7_ := mkA (below_step (bs2_ HB.out GE382.out GE398.out) hb); clear HO_4; clear HO_7; clear HO_399002; clear HO420; clear HO423; clear BK382; clear BK398; clear HB; have HO_4 := n0_; have HO_7 := n1_; have HO_399002 := n2_; have HO420 := n3_; have HO423 := n4_; have BK382 := n5_; have BK398 := n6_; have HB := n7_; clear n0_ n1_ n2_ n3_ n4_ n5_ n6_ n7_; (try clear hb); (try clear hb2); (try clear hk); (try clear hi)))
                go_meet
                case rel => exact ⟨_, ((t424 != t392)), (by first | rfl | (simp; done) | (simp [*]; done) | (simp [i64_w, i32_w]; done)), H', ⟨by have := HJ10.out; have := HJ38.out; first | omega | exact Nat.le_refl _⟩, ⟨by (try simp only [hl399002_38]); (with_reducible repeat (first | apply Kd.R_alloc | apply Kd.R_drewN | apply Kd.R_drew)); exact Kd.R_mono HO_7.out (fun _ hk => trivial)⟩, ⟨by (try simp only [hl399002_38]); (with_reducible repeat (first | apply Kd.R_alloc | apply Kd.R_drewN | apply Kd.R_drew)); exact Kd.R_mono HO_399002.out (fun _ hk => trivial)⟩, ⟨by (try simp only [hl399002_38]); (with_reducible repeat (first | refine blk_drewN ?_ _ | refine blk_drew ?_ | refine blk_alloc ?_ _)); exact BK382.out⟩, ⟨by (try simp only [hl399002_38]); (with_reducible repeat (first | refine blk_drewN ?_ _ | refine blk_drew ?_ | refine blk_alloc ?_ _)); exact BK398.out⟩, ⟨by repeat (first | (with_reducible first | exact HB.out | apply below_alloc | apply pw_below_drewN | apply below_drew1 | refine below_set ?_ GE382.out | refine below_set ?_ GE398.out) | exact HB.out)⟩⟩
              · replace c74 := Bool.eq_false_iff.mpr c74
                subst c74
                have H1 : (laws_FnExactSymmetriesOf.j2 kj38 t414 t413 true) = some r := by rw [if_neg (show ¬ (false = true) by decide)] at H; exact H
                clear H
                have H := H1
                clear H1
                have H' := mkA H
                clear H
                obtain ⟨Ao78, co78, eo78⟩ := Kd.R_slice HO423.out
                subst eo78
                obtain ⟨Ao79, co79, eo79⟩ := Kd.R_slice HO_4.out
                subst eo79
                go_wp2_with (first | ((with_reducible refine gate_callee (f := 49) rfl ?_); refine goesL_ (some 81) rfl rfl Try.func49 (by kernel_rfl) rfl #[.slice Ao78 t421.length co78, .slice Ao79 t389.length co79] rfl (by (try simp only [List.map_toArray, List.map_cons, List.map_nil]); first | done | rfl | (simp only [List.length_drop, List.length_take]; rfl)) ?_; (with_reducible refine (laws_eqMotionS.calls kj38 _ _ t421 _ _ t389 false _ ?side1 ?side2 ?side3 ?side4 A73.out).mono ?_); (case side1 => repeat (first | exact (Kd.R_reads' HO423.out).2.2 | (with_reducible refine Kd.C_alloc ?_ _) | (with_reducible refine Kd.C_drewN ?_ _) | (with_reducible refine Kd.C_drew ?_))); (case side2 => exact (Kd.R_reads' HO423.out).2.1); (case side3 => repeat (first | exact (Kd.R_reads' HO_4.out).2.2 | (with_reducible refine Kd.C_alloc ?_ _) | (with_reducible refine Kd.C_drewN ?_ _) | (with_reducible refine Kd.C_drew ?_))); (case side4 => exact (Kd.R_reads' HO_4.out).2.1); rintro e w80 ⟨rfl, hb⟩; refine ⟨_, rfl, ?_⟩; have n0_ := mkA (Kd.R_below (by (with_reducible repeat (first | apply Kd.R_alloc | apply Kd.R_drewN | apply Kd.R_drew)); exact HO_4.out) hb); have n1_ := mkA (Kd.R_below (by (with_reducible repeat (first | apply Kd.R_alloc | apply Kd.R_drewN | apply Kd.R_drew)); exact HO_7.out) hb); have n2_ := mkA (Kd.R_below (by (with_reducible repeat (first | apply Kd.R_alloc | apply Kd.R_drewN | apply Kd.R_drew)); exact HO_399002.out) hb); have n3_ := mkA (Kd.R_below (by (with_reducible repeat (first | apply Kd.R_alloc | apply Kd.R_drewN | apply Kd.R_drew)); exact HO420.out) hb); have n4_ := mkA (Kd.R_below (by (with_reducible repeat (first | apply Kd.R_alloc | apply Kd.R_drewN | apply Kd.R_drew)); exact HO423.out) hb); have n5_ := mkA (blk_below (g := gb382) (o := .cells #[.int .i64 a0_0, .int .i64 a0_1, .slice A0_2 l0_2.length c0_2] 24 (0, 0)) (bl_ BK382.out) hb); have n6_ := mkA (blk_below (g := gb398) (o := .cells #[.int .i64 t393, .int .i64 t394, .slice Ao24 t411.length co24] 29 (0, 0)) (bl_ BK398.out) hb); have n7_ := mkA (below_step (bs2_ HB.out GE382.out GE398.out) hb); clear HO_4; clear HO_7; clear HO_399002; clear HO420; clear HO423; clear BK382; clear BK398; clear HB; have HO_4 := n0_; have HO_7 := n1_; have HO_399002 := n2_; have HO420 := n3_; have HO423 := n4_; have BK382 := n5_; have BK398 := n6_; have HB := n7_; clear n0_ n1_ n2_ n3_ n4_ n5_ n6_ n7_; (try clear hb); (try clear hb2); (try clear hk); (try clear hi)))
                go_meet
                case rel => exact ⟨_, (true), (by first | rfl | (simp; done) | (simp [*]; done) | (simp [i64_w, i32_w]; done)), H', ⟨by have := HJ10.out; have := HJ38.out; first | omega | exact Nat.le_refl _⟩, ⟨by (try simp only [hl399002_38]); (with_reducible repeat (first | apply Kd.R_alloc | apply Kd.R_drewN | apply Kd.R_drew)); exact Kd.R_mono HO_7.out (fun _ hk => trivial)⟩, ⟨by (try simp only [hl399002_38]); (with_reducible repeat (first | apply Kd.R_alloc | apply Kd.R_drewN | apply Kd.R_drew)); exact Kd.R_mono HO_399002.out (fun _ hk => trivial)⟩, ⟨by (try simp only [hl399002_38]); (with_reducible repeat (first | refine blk_drewN ?_ _ | refine blk_drew ?_ | refine blk_alloc ?_ _)); exact BK382.out⟩, ⟨by (try simp only [hl399002_38]); (with_reducible repeat (first | refine blk_drewN ?_ _ | refine blk_drew ?_ | refine blk_alloc ?_ _)); exact BK398.out⟩, ⟨by repeat (first | (with_reducible first | exact HB.out | apply below_alloc | apply pw_below_drewN | apply below_drew1 | refine below_set ?_ GE382.out | refine below_set ?_ GE398.out) | exact HB.out)⟩⟩
             case rest =>
              clear HC65
              try clear c1
              try clear c2
              try clear p2
              try clear c3
              try clear c3b0
              try clear c4
              try clear c5
              try clear c6
              try clear c7
              try clear c14
              try clear c15
              try clear c17
              try clear c20
              try clear c22
              try clear c26
              try clear c27
              try clear c34
              try clear c37
              try clear c44
              try clear c47
              try clear c47b0
              try clear c48
              try clear c49
              try clear c50
              try clear c51
              try clear c56
              try clear c59
              try clear c59b0
              try clear c62
              try clear c62b0
              try clear c62b1
              try clear c68
              try clear c74
              try clear hcz13_0
              try clear hcz13_1
              try clear hcz13_2
              try clear hcz15_0
              try clear hcz15_1
              try clear hcz15_2
              try clear hcz19_0
              try clear hcz19_1
              try clear hcz19_2
              try clear hcz23_0
              try clear hcz23_1
              try clear hcz23_2
              try clear hcz45_0
              try clear hcz45_1
              try clear hcz45_2
              try clear hcz5_0
              try clear hcz5_1
              try clear hcz5_2
              try clear hcz69_0
              try clear hcz69_1
              try clear hcz69_2
              try clear hfz13_0
              try clear hfz13_1
              try clear hfz13_2
              try clear hfz15_0
              try clear hfz15_1
              try clear hfz15_2
              try clear hfz19_0
              try clear hfz19_1
              try clear hfz19_2
              try clear hfz23_0
              try clear hfz23_1
              try clear hfz23_2
              try clear hfz45_0
              try clear hfz45_1
              try clear hfz45_2
              try clear hfz5_0
              try clear hfz5_1
              try clear hfz5_2
              try clear hfz69_0
              try clear hfz69_1
              try clear hfz69_2
              try clear p2
              obtain ⟨kq, x87_64, rfl, HA, HJ64, HO_7, HO_399002, BK382, BK398, HB⟩ := hcut
              have hl7_64 := (Kd.R_reads' HO_7.out).1
              rw [hl7_64] at HO_7
              (try simp only [hl7_64])
              (try simp only [hl7_64] at BK382)
              (try simp only [hl7_64] at BK398)
              (try simp only [hl7_64] at HO_399002)
              cases kq with
              | zero => exact absurd HA.out (by simp [laws_FnExactSymmetriesOf.j2])
              | succ kj64 =>
               have H := HA.out
               clear HA
               simp only [laws_FnExactSymmetriesOf.j2] at H
               by_cases c81 : x87_64 = true
               · subst c81
                 have H1 : (some false) = some r := by rw [if_pos rfl] at H; exact H
                 clear H
                 have H := H1
                 clear H1
                 obtain rfl := Option.some.inj H
                 go_wp2
                 go_ret
                 exact ⟨by first | rfl | (simp [errW_none, errW_some] <;> rfl) | (simp [*, errW_none, errW_some] <;> rfl), by repeat (first | (with_reducible first | exact HB.out | apply below_alloc | apply pw_below_drewN | apply below_drew1 | refine below_set ?_ GE382.out | refine below_set ?_ GE398.out) | exact HB.out)⟩
               · replace c81 := Bool.eq_false_iff.mpr c81
                 subst c81
                 have H1 : ((laws_heldMotionS.f kj64 t414 1).bind fun t426 => (if t426 < 0 then (some false) else (if t426 = t413 then (some true) else (some false)))) = some r := by rw [if_neg (show ¬ (false = true) by decide)] at H; exact H
                 clear H
                 have H := H1
                 clear H1
                 replace H := Option.bind_eq_some_iff.mp H
                 obtain ⟨t426, A820, H⟩ := H
                 replace H : (if t426 < 0 then (some false) else (if t426 = t413 then (some true) else (some false))) = some r := H
                 have A82 := mkA A820
                 clear A820
                 by_cases c83 : t426 < 0
                 · rw [if_pos c83] at H
                   have c83b0 : decide (t426 < 0) = true := decide_eq_true c83
                   clear c83
                   obtain rfl := Option.some.inj H
                   go_wp2_with (first | ((with_reducible refine gate_callee (f := 51) rfl ?_); refine goesL_ (some 90) rfl rfl Try.func51 (by kernel_rfl) rfl #[.slice Ao66 t414.length co66, .int .i64 1] rfl (by (try simp only [List.map_toArray, List.map_cons, List.map_nil]); first | done | rfl | (simp only [List.length_drop, List.length_take]; rfl)) ?_; (with_reducible refine (laws_heldMotionS.calls kj64 _ _ t414 1 t426 _ ?side1 ?side2 A82.out).mono ?_); (case side1 => repeat (first | exact (Kd.R_reads' HO_7.out).2.2 | (with_reducible refine Kd.C_alloc ?_ _) | (with_reducible refine Kd.C_drewN ?_ _) | (with_reducible refine Kd.C_drew ?_))); (case side2 => exact (Kd.R_reads' HO_7.out).2.1); rintro e w' ⟨rfl, ⟨nd, rfl⟩⟩; refine ⟨_, rfl, ?_⟩))
                   go_ret
                   exact ⟨by first | rfl | (simp [errW_none, errW_some] <;> rfl) | (simp [*, errW_none, errW_some] <;> rfl), by repeat (first | (with_reducible first | exact HB.out | apply below_alloc | apply pw_below_drewN | apply below_drew1 | refine below_set ?_ GE382.out | refine below_set ?_ GE398.out) | exact HB.out)⟩
                 · rw [if_neg c83] at H
                   have c83b0 : decide (t426 < 0) = false := decide_eq_false c83
                   clear c83
                   by_cases c84 : t426 = t413
                   rotate_left
                   · rw [if_neg c84] at H
                     have c84b0 : (t426 == t413) = false := beq_eq_false_iff_ne.mpr c84
                     have c84b1 : (t426 != t413) = true := bne_iff_ne.mpr c84
                     obtain rfl := Option.some.inj H
                     go_wp2_with (first | ((with_reducible refine gate_callee (f := 51) rfl ?_); refine goesL_ (some 90) rfl rfl Try.func51 (by kernel_rfl) rfl #[.slice Ao66 t414.length co66, .int .i64 1] rfl (by (try simp only [List.map_toArray, List.map_cons, List.map_nil]); first | done | rfl | (simp only [List.length_drop, List.length_take]; rfl)) ?_; (with_reducible refine (laws_heldMotionS.calls kj64 _ _ t414 1 t426 _ ?side1 ?side2 A82.out).mono ?_); (case side1 => repeat (first | exact (Kd.R_reads' HO_7.out).2.2 | (with_reducible refine Kd.C_alloc ?_ _) | (with_reducible refine Kd.C_drewN ?_ _) | (with_reducible refine Kd.C_drew ?_))); (case side2 => exact (Kd.R_reads' HO_7.out).2.1); rintro e w' ⟨rfl, ⟨nd, rfl⟩⟩; refine ⟨_, rfl, ?_⟩))
                     go_ret
                     exact ⟨by first | rfl | (simp [errW_none, errW_some] <;> rfl) | (simp [*, errW_none, errW_some] <;> rfl), by repeat (first | (with_reducible first | exact HB.out | apply below_alloc | apply pw_below_drewN | apply below_drew1 | refine below_set ?_ GE382.out | refine below_set ?_ GE398.out) | exact HB.out)⟩
                   rw [if_pos c84] at H
                   have c84b0 : (t426 == t413) = true := beq_iff_eq.mpr c84
                   have c84b1 : (t426 != t413) = false := bne_eq_false_iff_eq.mpr c84
                   clear c84
                   obtain rfl := Option.some.inj H
                   go_wp2_with (first | ((with_reducible refine gate_callee (f := 51) rfl ?_); refine goesL_ (some 90) rfl rfl Try.func51 (by kernel_rfl) rfl #[.slice Ao66 t414.length co66, .int .i64 1] rfl (by (try simp only [List.map_toArray, List.map_cons, List.map_nil]); first | done | rfl | (simp only [List.length_drop, List.length_take]; rfl)) ?_; (with_reducible refine (laws_heldMotionS.calls kj64 _ _ t414 1 t426 _ ?side1 ?side2 A82.out).mono ?_); (case side1 => repeat (first | exact (Kd.R_reads' HO_7.out).2.2 | (with_reducible refine Kd.C_alloc ?_ _) | (with_reducible refine Kd.C_drewN ?_ _) | (with_reducible refine Kd.C_drew ?_))); (case side2 => exact (Kd.R_reads' HO_7.out).2.1); rintro e w' ⟨rfl, ⟨nd, rfl⟩⟩; refine ⟨_, rfl, ?_⟩))
                   go_ret
                   exact ⟨by first | rfl | (simp [errW_none, errW_some] <;> rfl) | (simp [*, errW_none, errW_some] <;> rfl), by repeat (first | (with_reducible first | exact HB.out | apply below_alloc | apply pw_below_drewN | apply below_drew1 | refine below_set ?_ GE382.out | refine below_set ?_ GE398.out) | exact HB.out)⟩
def G24 (x : S24) : Prop := (Lit.int .i64 x.f0).wf = true ∧ (Lit.int .i64 x.f1).wf = true ∧ (x.f2.length ≤ maxLen ∧ ∀ y0 ∈ x.f2, (Lit.int .i64 y0).wf = true)

/-- THE ONE PURE STATEMENT of laws_FnExactSymmetriesOf. -/
def laws_FnExactSymmetriesOf.Pure : Prop := ∀ (a0_0 : Int) (a0_1 : Int) (l0_2 : List Int), G24 (⟨a0_0, a0_1, l0_2⟩ : S24) → ∃ k, laws_FnExactSymmetriesOf.f k a0_0 a0_1 l0_2 = some true

end Go.Proofs.Ytnidibnhojedoaa.GFnExactSymmetriesOf

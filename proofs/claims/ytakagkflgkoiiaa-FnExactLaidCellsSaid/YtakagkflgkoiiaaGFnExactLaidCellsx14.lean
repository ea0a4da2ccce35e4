-- Written by the session's own program (gen.py) out of the translation's print. Lean checks it.
import Derived.Test.YtakagkflgkoiiaaGFnExactLaidCellsx0
import Derived.Test.YtakagkflgkoiiaaGFnExactLaidCellsx2
import Derived.Test.YtakagkflgkoiiaaGFnExactLaidCellsx8
import Derived.Test.YtakagkflgkoiiaaGFnExactLaidCellsx13
namespace Go.Proofs.Ytakagkflgkoiiaa.GFnExactLaidCells
open Go.RowKit Go.Proofs.YtakagkflgkoiiaaW.PrintWords Go.Proofs.YtakagkflgkoiiaaW.PrintLast Go.Proofs.YtakagkflgkoiiaaW.PrintMore
attribute [local go_sem] max2_int min2_int max_two min_two max_three min_three max_four min_four   -- for this text's walks alone
set_option linter.unusedVariables false
set_option linter.unusedSimpArgs false

/-! ### laws_FnExactLaidCells: function 10 -/
mutual
def laws_FnExactLaidCells.j0 : Nat → Int → Int → Int → List (S105) → Int → List (S105) → Int → Bool → ByteArray → List (S123) → Int → Bool → ByteArray → List (S105) → Int → Bool → Option (Bool)
  | 0, _, _, _, _, _, _, _, _, _, _, _, _, _, _, _, _ => none
  | k + 1, x1, x2, x3, x10, x11, x13, x14, x52, x350000, x350001, x350002, x350003, x368000, x368001, x368002, x368003 => if x52 = true then (some false) else ((laws_toPiece.f k x350000 x350001 x350002 x350003).bind fun bt373 => ((laws_eqPiece.f k x368000 x368001 x368002 x368003 bt373.1 bt373.2.1 bt373.2.2.1 bt373.2.2.2).bind fun t379 => (if t379 = true then ((laws_markPiece.f k x368000 x368001 x368002 x368003 1).bind fun bt380 => (if bt380.1 < 0 then (laws_FnExactLaidCells.j1 k x1 x2 x3 x10 x11 x13 true x350000 x350001 x350002 x350003) else ((laws_eqPointS.f k x13 x10).bind fun t382 => (if t382 = true then (laws_FnExactLaidCells.j1 k x1 x2 x3 x10 x11 x13 (x14 != x11) x350000 x350001 x350002 x350003) else (laws_FnExactLaidCells.j1 k x1 x2 x3 x10 x11 x13 true x350000 x350001 x350002 x350003))))) else (some false))))
def laws_FnExactLaidCells.j1 : Nat → Int → Int → Int → List (S105) → Int → List (S105) → Bool → ByteArray → List (S123) → Int → Bool → Option (Bool)
  | 0, _, _, _, _, _, _, _, _, _, _, _ => none
  | k + 1, x1, x2, x3, x10, x11, x13, x73, x350000, x350001, x350002, x350003 => if x73 = true then (some false) else ((laws_markPointS.f k x13 1).bind fun bt383 => ((laws_heldPointS.f k bt383.2 1).bind fun t385 => (if t385 < 0 then (some false) else (if t385 = bt383.1 then ((laws_toPiece.f k x350000 x350001 x350002 x350003).bind fun bt386 => ((impl_LaidCells.f k bt386.1 bt386.2.1 bt386.2.2.1 bt386.2.2.2 x1 x2 x3).bind fun bt392 => ((laws_eqPointS.f k bt392.1 x10).bind fun t396 => (if t396 = true then (laws_FnExactLaidCells.j2 k bt383.2 bt383.1 (bt392.2 != x11)) else (laws_FnExactLaidCells.j2 k bt383.2 bt383.1 true))))) else (some false)))))
def laws_FnExactLaidCells.j2 : Nat → List (S105) → Int → Bool → Option (Bool)
  | 0, _, _, _ => none
  | k + 1, x13, x16, x102 => if x102 = true then (some false) else ((laws_heldPointS.f k x13 1).bind fun t397 => (if t397 < 0 then (some false) else (if t397 = x16 then (some true) else (some false))))
end
def laws_FnExactLaidCells.f (k : Nat) (a0_0 : ByteArray) (l0_1 : List (S123)) (a0_2 : Int) (a0_3 : Bool) (a1 : Int) (a2 : Int) (a3 : Int) : Option (Bool) := (laws_szPiece.f a0_0 l0_1 a0_2 a0_3 1048576).bind fun t350 => (if t350 < 0 then (some true) else ((laws_toPiece.f k a0_0 l0_1 a0_2 a0_3).bind fun bt351 => ((spec_LaidCells.f k bt351.1 bt351.2.1 bt351.2.2.1 bt351.2.2.2 a1 a2 a3).bind fun bt357 => ((laws_toPiece.f k a0_0 l0_1 a0_2 a0_3).bind fun bt361 => ((impl_LaidCells.f k bt361.1 bt361.2.1 bt361.2.2.1 bt361.2.2.2 a1 a2 a3).bind fun bt368 => ((laws_eqPointS.f k bt368.1 bt357.1).bind fun t372 => (if t372 = true then (laws_FnExactLaidCells.j0 k a1 a2 a3 bt357.1 bt357.2 bt368.1 bt368.2 (bt368.2 != bt357.2) a0_0 l0_1 a0_2 a0_3 bt361.1 bt361.2.1 bt361.2.2.1 bt361.2.2.2) else (laws_FnExactLaidCells.j0 k a1 a2 a3 bt357.1 bt357.2 bt368.1 bt368.2 true a0_0 l0_1 a0_2 a0_3 bt361.1 bt361.2.1 bt361.2.2.1 bt361.2.2.2))))))))
theorem laws_FnExactLaidCells.mono_l : ∀ k, (∀ y0 y1 y2 y3 y4 y5 y6 y7 y8 y9 y10 y11 y12 y13 y14 y15, LeO (laws_FnExactLaidCells.j0 k y0 y1 y2 y3 y4 y5 y6 y7 y8 y9 y10 y11 y12 y13 y14 y15) (laws_FnExactLaidCells.j0 (k + 1) y0 y1 y2 y3 y4 y5 y6 y7 y8 y9 y10 y11 y12 y13 y14 y15)) ∧ (∀ y0 y1 y2 y3 y4 y5 y6 y7 y8 y9 y10, LeO (laws_FnExactLaidCells.j1 k y0 y1 y2 y3 y4 y5 y6 y7 y8 y9 y10) (laws_FnExactLaidCells.j1 (k + 1) y0 y1 y2 y3 y4 y5 y6 y7 y8 y9 y10)) ∧ (∀ y0 y1 y2, LeO (laws_FnExactLaidCells.j2 k y0 y1 y2) (laws_FnExactLaidCells.j2 (k + 1) y0 y1 y2))
  | 0 => ⟨fun _ _ _ _ _ _ _ _ _ _ _ _ _ _ _ _ r h => by simp [laws_FnExactLaidCells.j0] at h, fun _ _ _ _ _ _ _ _ _ _ _ r h => by simp [laws_FnExactLaidCells.j1] at h, fun _ _ _ r h => by simp [laws_FnExactLaidCells.j2] at h⟩
  | k + 1 => by
    obtain ⟨ih0, ih1, ih2⟩ := laws_FnExactLaidCells.mono_l k
    refine ⟨?_, ?_, ?_⟩
    · intro y0 y1 y2 y3 y4 y5 y6 y7 y8 y9 y10 y11 y12 y13 y14 y15
      unfold laws_FnExactLaidCells.j0
      repeat' first
      | (with_reducible exact ih0 _ _ _ _ _ _ _ _ _ _ _ _ _ _ _ _)
      | (with_reducible exact ih1 _ _ _ _ _ _ _ _ _ _ _)
      | (with_reducible exact ih2 _ _ _)
      | (with_reducible exact impl_LaidCells.mono _ _ _ _ _ _ _ _)
      | (with_reducible exact laws_eqPiece.mono _ _ _ _ _ _ _ _ _)
      | (with_reducible exact laws_eqPointS.mono _ _ _)
      | (with_reducible exact laws_heldPointS.mono _ _ _)
      | (with_reducible exact laws_markPiece.mono _ _ _ _ _ _)
      | (with_reducible exact laws_markPointS.mono _ _ _)
      | (with_reducible exact laws_toPiece.mono _ _ _ _ _)
      | (with_reducible exact spec_LaidCells.mono _ _ _ _ _ _ _ _)
      | (with_reducible exact LeO.refl _)
      | (with_reducible exact LeO.none _)
      | (with_reducible refine LeO.ite ?_ ?_)
      | (with_reducible refine LeO.bind ?_ (fun _ => ?_))
      | exact ih0 _ _ _ _ _ _ _ _ _ _ _ _ _ _ _ _
      | exact ih1 _ _ _ _ _ _ _ _ _ _ _
      | exact ih2 _ _ _
      | exact impl_LaidCells.mono _ _ _ _ _ _ _ _
      | exact laws_eqPiece.mono _ _ _ _ _ _ _ _ _
      | exact laws_eqPointS.mono _ _ _
      | exact laws_heldPointS.mono _ _ _
      | exact laws_markPiece.mono _ _ _ _ _ _
      | exact laws_markPointS.mono _ _ _
      | exact laws_toPiece.mono _ _ _ _ _
      | exact spec_LaidCells.mono _ _ _ _ _ _ _ _
      | exact LeO.none _
      | refine LeO.ite ?_ ?_
      | refine LeO.bind ?_ (fun _ => ?_)
    · intro y0 y1 y2 y3 y4 y5 y6 y7 y8 y9 y10
      unfold laws_FnExactLaidCells.j1
      repeat' first
      | (with_reducible exact ih0 _ _ _ _ _ _ _ _ _ _ _ _ _ _ _ _)
      | (with_reducible exact ih1 _ _ _ _ _ _ _ _ _ _ _)
      | (with_reducible exact ih2 _ _ _)
      | (with_reducible exact impl_LaidCells.mono _ _ _ _ _ _ _ _)
      | (with_reducible exact laws_eqPiece.mono _ _ _ _ _ _ _ _ _)
      | (with_reducible exact laws_eqPointS.mono _ _ _)
      | (with_reducible exact laws_heldPointS.mono _ _ _)
      | (with_reducible exact laws_markPiece.mono _ _ _ _ _ _)
      | (with_reducible exact laws_markPointS.mono _ _ _)
      | (with_reducible exact laws_toPiece.mono _ _ _ _ _)
      | (with_reducible exact spec_LaidCells.mono _ _ _ _ _ _ _ _)
      | (with_reducible exact LeO.refl _)
      | (with_reducible exact LeO.none _)
      | (with_reducible refine LeO.ite ?_ ?_)
      | (with_reducible refine LeO.bind ?_ (fun _ => ?_))
      | exact ih0 _ _ _ _ _ _ _ _ _ _ _ _ _ _ _ _
      | exact ih1 _ _ _ _ _ _ _ _ _ _ _
      | exact ih2 _ _ _
      | exact impl_LaidCells.mono _ _ _ _ _ _ _ _
      | exact laws_eqPiece.mono _ _ _ _ _ _ _ _ _
      | exact laws_eqPointS.mono _ _ _
      | exact laws_heldPointS.mono _ _ _
      | exact laws_markPiece.mono _ _ _ _ _ _
      | exact laws_markPointS.mono _ _ _
      | exact laws_toPiece.mono _ _ _ _ _
      | exact spec_LaidCells.mono _ _ _ _ _ _ _ _
      | exact LeO.none _
      | refine LeO.ite ?_ ?_
      | refine LeO.bind ?_ (fun _ => ?_)
    · intro y0 y1 y2
      unfold laws_FnExactLaidCells.j2
      repeat' first
      | (with_reducible exact ih0 _ _ _ _ _ _ _ _ _ _ _ _ _ _ _ _)
      | (with_reducible exact ih1 _ _ _ _ _ _ _ _ _ _ _)
      | (with_reducible exact ih2 _ _ _)
      | (with_reducible exact impl_LaidCells.mono _ _ _ _ _ _ _ _)
      | (with_reducible exact laws_eqPiece.mono _ _ _ _ _ _ _ _ _)
      | (with_reducible exact laws_eqPointS.mono _ _ _)
      | (with_reducible exact laws_heldPointS.mono _ _ _)
      | (with_reducible exact laws_markPiece.mono _ _ _ _ _ _)
      | (with_reducible exact laws_markPointS.mono _ _ _)
      | (with_reducible exact laws_toPiece.mono _ _ _ _ _)
      | (with_reducible exact spec_LaidCells.mono _ _ _ _ _ _ _ _)
      | (with_reducible exact LeO.refl _)
      | (with_reducible exact LeO.none _)
      | (with_reducible refine LeO.ite ?_ ?_)
      | (with_reducible refine LeO.bind ?_ (fun _ => ?_))
      | exact ih0 _ _ _ _ _ _ _ _ _ _ _ _ _ _ _ _
      | exact ih1 _ _ _ _ _ _ _ _ _ _ _
      | exact ih2 _ _ _
      | exact impl_LaidCells.mono _ _ _ _ _ _ _ _
      | exact laws_eqPiece.mono _ _ _ _ _ _ _ _ _
      | exact laws_eqPointS.mono _ _ _
      | exact laws_heldPointS.mono _ _ _
      | exact laws_markPiece.mono _ _ _ _ _ _
      | exact laws_markPointS.mono _ _ _
      | exact laws_toPiece.mono _ _ _ _ _
      | exact spec_LaidCells.mono _ _ _ _ _ _ _ _
      | exact LeO.none _
      | refine LeO.ite ?_ ?_
      | refine LeO.bind ?_ (fun _ => ?_)
theorem laws_FnExactLaidCells.mono : ∀ a0 a1 a2 a3 a4 a5 a6 k, LeO (laws_FnExactLaidCells.f k a0 a1 a2 a3 a4 a5 a6) (laws_FnExactLaidCells.f (k + 1) a0 a1 a2 a3 a4 a5 a6) := by
  intro a0 a1 a2 a3 a4 a5 a6 k
  obtain ⟨ih0, ih1, ih2⟩ := laws_FnExactLaidCells.mono_l k
  unfold laws_FnExactLaidCells.f
  repeat' first
      | (with_reducible exact ih0 _ _ _ _ _ _ _ _ _ _ _ _ _ _ _ _)
      | (with_reducible exact ih1 _ _ _ _ _ _ _ _ _ _ _)
      | (with_reducible exact ih2 _ _ _)
      | (with_reducible exact impl_LaidCells.mono _ _ _ _ _ _ _ _)
      | (with_reducible exact laws_eqPiece.mono _ _ _ _ _ _ _ _ _)
      | (with_reducible exact laws_eqPointS.mono _ _ _)
      | (with_reducible exact laws_heldPointS.mono _ _ _)
      | (with_reducible exact laws_markPiece.mono _ _ _ _ _ _)
      | (with_reducible exact laws_markPointS.mono _ _ _)
      | (with_reducible exact laws_toPiece.mono _ _ _ _ _)
      | (with_reducible exact spec_LaidCells.mono _ _ _ _ _ _ _ _)
      | (with_reducible exact LeO.refl _)
      | (with_reducible exact LeO.none _)
      | (with_reducible refine LeO.ite ?_ ?_)
      | (with_reducible refine LeO.bind ?_ (fun _ => ?_))
      | exact ih0 _ _ _ _ _ _ _ _ _ _ _ _ _ _ _ _
      | exact ih1 _ _ _ _ _ _ _ _ _ _ _
      | exact ih2 _ _ _
      | exact impl_LaidCells.mono _ _ _ _ _ _ _ _
      | exact laws_eqPiece.mono _ _ _ _ _ _ _ _ _
      | exact laws_eqPointS.mono _ _ _
      | exact laws_heldPointS.mono _ _ _
      | exact laws_markPiece.mono _ _ _ _ _ _
      | exact laws_markPointS.mono _ _ _
      | exact laws_toPiece.mono _ _ _ _ _
      | exact spec_LaidCells.mono _ _ _ _ _ _ _ _
      | exact LeO.none _
      | refine LeO.ite ?_ ?_
      | refine LeO.bind ?_ (fun _ => ?_)
open List renaming setIfInBounds_toArray → sA, set_cons_zero → sB, set_cons_succ → sC
open Go.Proofs.YtakagkflgkoiiaaW.PrintWords.Aside0 renaming mk → mkA
open Go.Proofs.YtakagkflgkoiiaaX (dt_ bc_ p0_ p1_ bl_ cb_ bs0_ bs1_ bs2_ bs3_ bs4_ bs5_ bs6_ bs7_ bs8_ bs9_ bs10_ bs11_ bs12_)
set_option maxHeartbeats 8000000 in
set_option maxRecDepth 100000 in
theorem laws_FnExactLaidCells.calls (k : Nat) (a0_0 : ByteArray) (A0_1 : Option Addr) (c0_1 : Nat) (l0_1 : List (S123)) (a0_2 : Int) (a0_3 : Bool) (a1 : Int) (a2 : Int) (a3 : Int) (r : Bool) (w : World) (hr0_1 : Kd.C k123 w A0_1 l0_1.length l0_1) (hc0_1 : l0_1.length ≤ c0_1) (h : laws_FnExactLaidCells.f k a0_0 l0_1 a0_2 a0_3 a1 a2 a3 = some r) :
 Calls Try.prog 10 #[.agg #[.string a0_0, .slice A0_1 l0_1.length c0_1, .int .i64 a0_2, .bool a0_3], .int .i64 a1, .int .i64 a2, .int .i64 a3] w fun e w' => e = .returned (.bool r) ∧ Below w.heap.size w w' := by
 have hu47 := Try.underlying47
 have hu53 := Try.underlying53
 have HR0_1 := mkA hr0_1
 have HC0_1 := mkA hc0_1
 clear hr0_1 hc0_1
 have HB := mkA (Below.refl w.heap.size w)
 have H : ((laws_szPiece.f a0_0 l0_1 a0_2 a0_3 1048576).bind fun t350 => (if t350 < 0 then (some true) else ((laws_toPiece.f k a0_0 l0_1 a0_2 a0_3).bind fun bt351 => ((spec_LaidCells.f k bt351.1 bt351.2.1 bt351.2.2.1 bt351.2.2.2 a1 a2 a3).bind fun bt357 => ((laws_toPiece.f k a0_0 l0_1 a0_2 a0_3).bind fun bt361 => ((impl_LaidCells.f k bt361.1 bt361.2.1 bt361.2.2.1 bt361.2.2.2 a1 a2 a3).bind fun bt368 => ((laws_eqPointS.f k bt368.1 bt357.1).bind fun t372 => (if t372 = true then (laws_FnExactLaidCells.j0 k a1 a2 a3 bt357.1 bt357.2 bt368.1 bt368.2 (bt368.2 != bt357.2) a0_0 l0_1 a0_2 a0_3 bt361.1 bt361.2.1 bt361.2.2.1 bt361.2.2.2) else (laws_FnExactLaidCells.j0 k a1 a2 a3 bt357.1 bt357.2 bt368.1 bt368.2 true a0_0 l0_1 a0_2 a0_3 bt361.1 bt361.2.1 bt361.2.2.1 bt361.2.2.2))))))))) = some r := h
 clear h
 replace H := Option.bind_eq_some_iff.mp H
 obtain ⟨t350, A50, H⟩ := H
 replace H : (if t350 < 0 then (some true) else ((laws_toPiece.f k a0_0 l0_1 a0_2 a0_3).bind fun bt351 => ((spec_LaidCells.f k bt351.1 bt351.2.1 bt351.2.2.1 bt351.2.2.2 a1 a2 a3).bind fun bt357 => ((laws_toPiece.f k a0_0 l0_1 a0_2 a0_3).bind fun bt361 => ((impl_LaidCells.f k bt361.1 bt361.2.1 bt361.2.2.1 bt361.2.2.2 a1 a2 a3).bind fun bt368 => ((laws_eqPointS.f k bt368.1 bt357.1).bind fun t372 => (if t372 = true then (laws_FnExactLaidCells.j0 k a1 a2 a3 bt357.1 bt357.2 bt368.1 bt368.2 (bt368.2 != bt357.2) a0_0 l0_1 a0_2 a0_3 bt361.1 bt361.2.1 bt361.2.2.1 bt361.2.2.2) else (laws_FnExactLaidCells.j0 k a1 a2 a3 bt357.1 bt357.2 bt368.1 bt368.2 true a0_0 l0_1 a0_2 a0_3 bt361.1 bt361.2.1 bt361.2.2.1 bt361.2.2.2)))))))) = some r := H
 have A5 := mkA A50
 clear A50
 by_cases c6 : t350 < 0
 · rw [if_pos c6] at H
   have c6b0 : decide (t350 < 0) = true := decide_eq_true c6
   clear c6
   obtain rfl := Option.some.inj H
   go_enter Try.func10, Try.ntmps10
   go_wp2_with (first | ((with_reducible refine gate_dst (N := 4) rfl ?_); refine box_event ?hg (N := 4) ?hd (cs := #[.string a0_0, .slice A0_1 l0_1.length c0_1, .int .i64 a0_2, .bool a0_3]) (t := 47) ?hr ?_; (case hd => rfl); (case hg => rfl); (case hr => first | (go_simp; done) | (go_simp; rfl)); intro gb349 hg w7 hbox hb; have n0_ := mkA (below_step (bs0_ HB.out) hb); have n1_ := mkA (hbox); have n2_ := mkA ((by rw [hg]; exact (below_size (bs0_ HB.out)) : w.heap.size ≤ gb349)); have n3_ := mkA ((by rw [hg]; exact (below_size (bs0_ HB.out)) : w.heap.size ≤ gb349)); clear HB; have HB := n0_; have BK349 := n1_; have GW349 := n2_; have GE349 := n3_; clear n0_ n1_ n2_ n3_; clear hb hbox hg; have hcz8_0 : w7.cell? ⟨gb349, 0, none⟩ = some (.string a0_0) := (blk_cell BK349.out 0).trans rfl; have hcz8_1 : w7.cell? ⟨gb349, 1, none⟩ = some (.slice A0_1 l0_1.length c0_1) := (blk_cell BK349.out 1).trans rfl; have hcz8_2 : w7.cell? ⟨gb349, 2, none⟩ = some (.int .i64 a0_2) := (blk_cell BK349.out 2).trans rfl; have hcz8_3 : w7.cell? ⟨gb349, 3, none⟩ = some (.bool a0_3) := (blk_cell BK349.out 3).trans rfl; have hfz8_0 := blk_frozen BK349.out 0; have hfz8_1 := blk_frozen BK349.out 1; have hfz8_2 := blk_frozen BK349.out 2; have hfz8_3 := blk_frozen BK349.out 3) | ((with_reducible refine gate_callee (f := 33) rfl ?_); refine goesL_ (some 22) rfl rfl Try.func33 (by kernel_rfl) rfl #[.agg #[.string a0_0, .slice A0_1 l0_1.length c0_1, .int .i64 a0_2, .bool a0_3], .int .i64 1048576] rfl (by (try simp only [List.map_toArray, List.map_cons, List.map_nil]); first | done | rfl | (simp only [List.length_drop, List.length_take]; rfl)) ?_; (with_reducible refine (laws_szPiece.calls a0_0 _ _ l0_1 a0_2 a0_3 1048576 t350 _ ?side1 ?side2 A5.out).mono ?_); (case side1 => exact cb_ HR0_1.out HB.out); (case side2 => exact HC0_1.out); rintro e w9 ⟨rfl, hb⟩; refine ⟨_, rfl, ?_⟩; have n0_ := mkA (blk_below (g := gb349) (o := .cells #[.string a0_0, .slice A0_1 l0_1.length c0_1, .int .i64 a0_2, .bool a0_3] 47 (0, 0)) (bl_ BK349.out) hb); have n1_ := mkA (below_step (bs1_ HB.out GE349.out) hb); clear BK349; clear HB; have BK349 := n0_; have HB := n1_; clear n0_ n1_; (try clear hb); (try clear hb2); (try clear hk); (try clear hi)))
   go_ret
   exact ⟨by first | rfl | (simp [errW_none, errW_some] <;> rfl) | (simp [*, errW_none, errW_some] <;> rfl), by repeat (first | (with_reducible first | exact HB.out | apply below_alloc | apply pw_below_drewN | apply below_drew1 | refine below_set ?_ GE349.out) | exact HB.out)⟩
 · rw [if_neg c6] at H
   have c6b0 : decide (t350 < 0) = false := decide_eq_false c6
   clear c6
   replace H := Option.bind_eq_some_iff.mp H
   obtain ⟨⟨t351, t352, t355, t356⟩, A100, H⟩ := H
   replace H : ((spec_LaidCells.f k t351 t352 t355 t356 a1 a2 a3).bind fun bt357 => ((laws_toPiece.f k a0_0 l0_1 a0_2 a0_3).bind fun bt361 => ((impl_LaidCells.f k bt361.1 bt361.2.1 bt361.2.2.1 bt361.2.2.2 a1 a2 a3).bind fun bt368 => ((laws_eqPointS.f k bt368.1 bt357.1).bind fun t372 => (if t372 = true then (laws_FnExactLaidCells.j0 k a1 a2 a3 bt357.1 bt357.2 bt368.1 bt368.2 (bt368.2 != bt357.2) a0_0 l0_1 a0_2 a0_3 bt361.1 bt361.2.1 bt361.2.2.1 bt361.2.2.2) else (laws_FnExactLaidCells.j0 k a1 a2 a3 bt357.1 bt357.2 bt368.1 bt368.2 true a0_0 l0_1 a0_2 a0_3 bt361.1 bt361.2.1 bt361.2.2.1 bt361.2.2.2)))))) = some r := H
   have A10 := mkA A100
   clear A100
   replace H := Option.bind_eq_some_iff.mp H
   obtain ⟨⟨t357, t360⟩, A110, H⟩ := H
   replace H : ((laws_toPiece.f k a0_0 l0_1 a0_2 a0_3).bind fun bt361 => ((impl_LaidCells.f k bt361.1 bt361.2.1 bt361.2.2.1 bt361.2.2.2 a1 a2 a3).bind fun bt368 => ((laws_eqPointS.f k bt368.1 t357).bind fun t372 => (if t372 = true then (laws_FnExactLaidCells.j0 k a1 a2 a3 t357 t360 bt368.1 bt368.2 (bt368.2 != t360) a0_0 l0_1 a0_2 a0_3 bt361.1 bt361.2.1 bt361.2.2.1 bt361.2.2.2) else (laws_FnExactLaidCells.j0 k a1 a2 a3 t357 t360 bt368.1 bt368.2 true a0_0 l0_1 a0_2 a0_3 bt361.1 bt361.2.1 bt361.2.2.1 bt361.2.2.2))))) = some r := H
   have A11 := mkA A110
   clear A110
   replace H := Option.bind_eq_some_iff.mp H
   obtain ⟨⟨t361, t362, t365, t366⟩, A120, H⟩ := H
   replace H : ((impl_LaidCells.f k t361 t362 t365 t366 a1 a2 a3).bind fun bt368 => ((laws_eqPointS.f k bt368.1 t357).bind fun t372 => (if t372 = true then (laws_FnExactLaidCells.j0 k a1 a2 a3 t357 t360 bt368.1 bt368.2 (bt368.2 != t360) a0_0 l0_1 a0_2 a0_3 t361 t362 t365 t366) else (laws_FnExactLaidCells.j0 k a1 a2 a3 t357 t360 bt368.1 bt368.2 true a0_0 l0_1 a0_2 a0_3 t361 t362 t365 t366)))) = some r := H
   have A12 := mkA A120
   clear A120
   replace H := Option.bind_eq_some_iff.mp H
   obtain ⟨⟨t368, t371⟩, A130, H⟩ := H
   replace H : ((laws_eqPointS.f k t368 t357).bind fun t372 => (if t372 = true then (laws_FnExactLaidCells.j0 k a1 a2 a3 t357 t360 t368 t371 (t371 != t360) a0_0 l0_1 a0_2 a0_3 t361 t362 t365 t366) else (laws_FnExactLaidCells.j0 k a1 a2 a3 t357 t360 t368 t371 true a0_0 l0_1 a0_2 a0_3 t361 t362 t365 t366))) = some r := H
   have A13 := mkA A130
   clear A130
   have HC14 := mkA H
   clear H
   go_enter Try.func10, Try.ntmps10
   go_upto_region 8 with (first | ((with_reducible refine gate_dst (N := 4) rfl ?_); refine box_event ?hg (N := 4) ?hd (cs := #[.string a0_0, .slice A0_1 l0_1.length c0_1, .int .i64 a0_2, .bool a0_3]) (t := 47) ?hr ?_; (case hd => rfl); (case hg => rfl); (case hr => first | (go_simp; done) | (go_simp; rfl)); intro gb349 hg w15 hbox hb; have n0_ := mkA (below_step (bs0_ HB.out) hb); have n1_ := mkA (hbox); have n2_ := mkA ((by rw [hg]; exact (below_size (bs0_ HB.out)) : w.heap.size ≤ gb349)); have n3_ := mkA ((by rw [hg]; exact (below_size (bs0_ HB.out)) : w.heap.size ≤ gb349)); clear HB; have HB := n0_; have BK349 := n1_; have GW349 := n2_; have GE349 := n3_; clear n0_ n1_ n2_ n3_; clear hb hbox hg; have hcz16_0 : w15.cell? ⟨gb349, 0, none⟩ = some (.string a0_0) := (blk_cell BK349.out 0).trans rfl; have hcz16_1 : w15.cell? ⟨gb349, 1, none⟩ = some (.slice A0_1 l0_1.length c0_1) := (blk_cell BK349.out 1).trans rfl; have hcz16_2 : w15.cell? ⟨gb349, 2, none⟩ = some (.int .i64 a0_2) := (blk_cell BK349.out 2).trans rfl; have hcz16_3 : w15.cell? ⟨gb349, 3, none⟩ = some (.bool a0_3) := (blk_cell BK349.out 3).trans rfl; have hfz16_0 := blk_frozen BK349.out 0; have hfz16_1 := blk_frozen BK349.out 1; have hfz16_2 := blk_frozen BK349.out 2; have hfz16_3 := blk_frozen BK349.out 3) | ((with_reducible refine gate_callee (f := 33) rfl ?_); refine goesL_ (some 22) rfl rfl Try.func33 (by kernel_rfl) rfl #[.agg #[.string a0_0, .slice A0_1 l0_1.length c0_1, .int .i64 a0_2, .bool a0_3], .int .i64 1048576] rfl (by (try simp only [List.map_toArray, List.map_cons, List.map_nil]); first | done | rfl | (simp only [List.length_drop, List.length_take]; rfl)) ?_; (with_reducible refine (laws_szPiece.calls a0_0 _ _ l0_1 a0_2 a0_3 1048576 t350 _ ?side1 ?side2 A5.out).mono ?_); (case side1 => exact cb_ HR0_1.out HB.out); (case side2 => exact HC0_1.out); rintro e w17 ⟨rfl, hb⟩; refine ⟨_, rfl, ?_⟩; have n0_ := mkA (blk_below (g := gb349) (o := .cells #[.string a0_0, .slice A0_1 l0_1.length c0_1, .int .i64 a0_2, .bool a0_3] 47 (0, 0)) (bl_ BK349.out) hb); have n1_ := mkA (below_step (bs1_ HB.out GE349.out) hb); clear BK349; clear HB; have BK349 := n0_; have HB := n1_; clear n0_ n1_; (try clear hb); (try clear hb2); (try clear hk); (try clear hi); have hcz18_0 : w17.cell? ⟨gb349, 0, none⟩ = some (.string a0_0) := (blk_cell BK349.out 0).trans rfl; have hcz18_1 : w17.cell? ⟨gb349, 1, none⟩ = some (.slice A0_1 l0_1.length c0_1) := (blk_cell BK349.out 1).trans rfl; have hcz18_2 : w17.cell? ⟨gb349, 2, none⟩ = some (.int .i64 a0_2) := (blk_cell BK349.out 2).trans rfl; have hcz18_3 : w17.cell? ⟨gb349, 3, none⟩ = some (.bool a0_3) := (blk_cell BK349.out 3).trans rfl; have hfz18_0 := blk_frozen BK349.out 0; have hfz18_1 := blk_frozen BK349.out 1; have hfz18_2 := blk_frozen BK349.out 2; have hfz18_3 := blk_frozen BK349.out 3) | ((with_reducible refine gate_callee (f := 35) rfl ?_); refine goesL_ (some 27) rfl rfl Try.func35 (by kernel_rfl) rfl #[.agg #[.string a0_0, .slice A0_1 l0_1.length c0_1, .int .i64 a0_2, .bool a0_3]] rfl (by (try simp only [List.map_toArray, List.map_cons, List.map_nil]); first | done | rfl | (simp only [List.length_drop, List.length_take]; rfl)) ?_; (with_reducible refine (laws_toPiece.calls k a0_0 _ _ l0_1 a0_2 a0_3 t351 t352 t355 t356 _ ?side1 ?side2 A10.out).mono ?_); (case side1 => exact cb_ HR0_1.out HB.out); (case side2 => exact HC0_1.out); rintro e w19 ⟨v353, rfl, ho0, hb⟩; refine ⟨_, rfl, ?_⟩; have n0_ := mkA (Kd.R_lower ho0 (below_size (bs1_ HB.out GE349.out))); have n1_ := mkA (blk_below (g := gb349) (o := .cells #[.string a0_0, .slice A0_1 l0_1.length c0_1, .int .i64 a0_2, .bool a0_3] 47 (0, 0)) (bl_ BK349.out) hb); have n2_ := mkA (below_step (bs1_ HB.out GE349.out) hb); clear BK349; clear HB; have HO354 := n0_; have BK349 := n1_; have HB := n2_; clear n0_ n1_ n2_; (try clear hb); (try clear hb2); (try clear hk); (try clear hi); (try clear ho0); obtain ⟨Ao20, co20, eo20⟩ := Kd.R_slice HO354.out; subst eo20) | ((with_reducible refine gate_callee (f := 42) rfl ?_); refine goesL_ (some 31) rfl rfl Try.func42 (by kernel_rfl) rfl #[.agg #[.string t351, .slice Ao20 t352.length co20, .int .i64 t355, .bool t356], .int .i64 a1, .int .i64 a2, .int .i64 a3] rfl (by (try simp only [List.map_toArray, List.map_cons, List.map_nil]); first | done | rfl | (simp only [List.length_drop, List.length_take]; rfl)) ?_; (with_reducible refine (spec_LaidCells.calls k t351 _ _ t352 t355 t356 a1 a2 a3 t357 t360 _ ?side1 ?side2 A11.out).mono ?_); (case side1 => repeat (first | exact (Kd.R_reads' HO354.out).2.2 | (with_reducible refine Kd.C_alloc ?_ _) | (with_reducible refine Kd.C_drewN ?_ _) | (with_reducible refine Kd.C_drew ?_))); (case side2 => exact (Kd.R_reads' HO354.out).2.1); rintro e w21 ⟨v358, rfl, ho0, hb⟩; refine ⟨_, rfl, ?_⟩; have n0_ := mkA (Kd.R_elder' (by (with_reducible repeat (first | apply Kd.R_alloc | apply Kd.R_drewN | apply Kd.R_drew)); exact HO354.out) (Kd.R_base ho0) hb); have n1_ := mkA (Kd.R_lower (Kd.R_new' ho0 (Kd.R_lt (by (with_reducible repeat (first | apply Kd.R_alloc | apply Kd.R_drewN | apply Kd.R_drew)); exact HO354.out))) (below_size (bs1_ HB.out GE349.out))); have n2_ := mkA (blk_below (g := gb349) (o := .cells #[.string a0_0, .slice A0_1 l0_1.length c0_1, .int .i64 a0_2, .bool a0_3] 47 (0, 0)) (bl_ BK349.out) hb); have n3_ := mkA (below_step (bs1_ HB.out GE349.out) hb); clear HO354; clear BK349; clear HB; have HO354 := n0_; have HO359 := n1_; have BK349 := n2_; have HB := n3_; clear n0_ n1_ n2_ n3_; (try clear hb); (try clear hb2); (try clear hk); (try clear hi); (try clear ho0); have hcz22_0 : w21.cell? ⟨gb349, 0, none⟩ = some (.string a0_0) := (blk_cell BK349.out 0).trans rfl; have hcz22_1 : w21.cell? ⟨gb349, 1, none⟩ = some (.slice A0_1 l0_1.length c0_1) := (blk_cell BK349.out 1).trans rfl; have hcz22_2 : w21.cell? ⟨gb349, 2, none⟩ = some (.int .i64 a0_2) := (blk_cell BK349.out 2).trans rfl; have hcz22_3 : w21.cell? ⟨gb349, 3, none⟩ = some (.bool a0_3) := (blk_cell BK349.out 3).trans rfl; have hfz22_0 := blk_frozen BK349.out 0; have hfz22_1 := blk_frozen BK349.out 1; have hfz22_2 := blk_frozen BK349.out 2; have hfz22_3 := blk_frozen BK349.out 3) | ((with_reducible refine gate_callee (f := 35) rfl ?_); refine goesL_ (some 35) rfl rfl Try.func35 (by kernel_rfl) rfl #[.agg #[.string a0_0, .slice A0_1 l0_1.length c0_1, .int .i64 a0_2, .bool a0_3]] rfl (by (try simp only [List.map_toArray, List.map_cons, List.map_nil]); first | done | rfl | (simp only [List.length_drop, List.length_take]; rfl)) ?_; (with_reducible refine (laws_toPiece.calls k a0_0 _ _ l0_1 a0_2 a0_3 t361 t362 t365 t366 _ ?side1 ?side2 A12.out).mono ?_); (case side1 => exact cb_ HR0_1.out HB.out); (case side2 => exact HC0_1.out); rintro e w23 ⟨v363, rfl, ho0, hb⟩; refine ⟨_, rfl, ?_⟩; have n0_ := mkA (Kd.R_elder' (by (with_reducible repeat (first | apply Kd.R_alloc | apply Kd.R_drewN | apply Kd.R_drew)); exact HO354.out) (Kd.R_base ho0) hb); have n1_ := mkA (Kd.R_elder' (by (with_reducible repeat (first | apply Kd.R_alloc | apply Kd.R_drewN | apply Kd.R_drew)); exact HO359.out) (Kd.R_base ho0) hb); have n2_ := mkA (Kd.R_lower (Kd.R_new' (Kd.R_new' ho0 (Kd.R_lt (by (with_reducible repeat (first | apply Kd.R_alloc | apply Kd.R_drewN | apply Kd.R_drew)); exact HO354.out))) (Kd.R_lt (by (with_reducible repeat (first | apply Kd.R_alloc | apply Kd.R_drewN | apply Kd.R_drew)); exact HO359.out))) (below_size (bs1_ HB.out GE349.out))); have n3_ := mkA (blk_below (g := gb349) (o := .cells #[.string a0_0, .slice A0_1 l0_1.length c0_1, .int .i64 a0_2, .bool a0_3] 47 (0, 0)) (bl_ BK349.out) hb); have n4_ := mkA (below_step (bs1_ HB.out GE349.out) hb); clear HO354; clear HO359; clear BK349; clear HB; have HO354 := n0_; have HO359 := n1_; have HO364 := n2_; have BK349 := n3_; have HB := n4_; clear n0_ n1_ n2_ n3_ n4_; (try clear hb); (try clear hb2); (try clear hk); (try clear hi); (try clear ho0)) | ((with_reducible refine gate_dst (N := 12) rfl ?_); refine box_event ?hg (N := 12) ?hd (cs := #[.string (⟨#[]⟩ : ByteArray), .slice none 0 0, .int .i64 0, .bool false]) (t := 53) ?hr ?_; (case hd => rfl); (case hg => rfl); (case hr => first | (go_simp; done) | (go_simp; rfl)); intro gb367 hg w24 hbox hb; have n0_ := mkA (Kd.R_below (by (with_reducible repeat (first | apply Kd.R_alloc | apply Kd.R_drewN | apply Kd.R_drew)); exact HO354.out) hb); have n1_ := mkA (Kd.R_below (by (with_reducible repeat (first | apply Kd.R_alloc | apply Kd.R_drewN | apply Kd.R_drew)); exact HO359.out) hb); have n2_ := mkA (Kd.R_below (by (with_reducible repeat (first | apply Kd.R_alloc | apply Kd.R_drewN | apply Kd.R_drew)); exact HO364.out) hb); have n3_ := mkA (blk_below (g := gb349) (o := .cells #[.string a0_0, .slice A0_1 l0_1.length c0_1, .int .i64 a0_2, .bool a0_3] 47 (0, 0)) (bl_ BK349.out) hb); have n4_ := mkA (below_step (bs1_ HB.out GE349.out) hb); have n5_ := mkA (hbox); have n6_ := mkA ((by rw [hg]; exact (below_size (bs1_ HB.out GE349.out)) : w.heap.size ≤ gb367)); have n7_ := mkA ((by rw [hg]; exact (below_size (bs1_ HB.out GE349.out)) : w.heap.size ≤ gb367)); have n8_ := mkA ((by rw [hg]; exact Nat.ne_of_lt (blk_lt (g := gb349) (o := .cells #[.string a0_0, .slice A0_1 l0_1.length c0_1, .int .i64 a0_2, .bool a0_3] 47 (0, 0)) (bl_ BK349.out)) : gb349 ≠ gb367)); have n9_ := mkA ((by rw [hg]; exact Nat.ne_of_gt (blk_lt (g := gb349) (o := .cells #[.string a0_0, .slice A0_1 l0_1.length c0_1, .int .i64 a0_2, .bool a0_3] 47 (0, 0)) (bl_ BK349.out)) : gb367 ≠ gb349)); clear HO354; clear HO359; clear HO364; clear BK349; clear HB; have HO354 := n0_; have HO359 := n1_; have HO364 := n2_; have BK349 := n3_; have HB := n4_; have BK367 := n5_; have GW367 := n6_; have GE367 := n7_; have NB349_367 := n8_; have NB367_349 := n9_; clear n0_ n1_ n2_ n3_ n4_ n5_ n6_ n7_ n8_ n9_; clear hb hbox hg; have hnb25 := NB367_349.out; have hnc25 := NB349_367.out; have hcz26_0 : w24.cell? ⟨gb367, 0, none⟩ = some (.string (⟨#[]⟩ : ByteArray)) := (blk_cell BK367.out 0).trans rfl; have hcz26_1 : w24.cell? ⟨gb367, 1, none⟩ = some (.slice none 0 0) := (blk_cell BK367.out 1).trans rfl; have hcz26_2 : w24.cell? ⟨gb367, 2, none⟩ = some (.int .i64 0) := (blk_cell BK367.out 2).trans rfl; have hcz26_3 : w24.cell? ⟨gb367, 3, none⟩ = some (.bool false) := (blk_cell BK367.out 3).trans rfl; have hfz26_0 := blk_frozen BK367.out 0; have hfz26_1 := blk_frozen BK367.out 1; have hfz26_2 := blk_frozen BK367.out 2; have hfz26_3 := blk_frozen BK367.out 3; obtain ⟨Ao27, co27, eo27⟩ := Kd.R_slice HO364.out; subst eo27) | ((with_reducible refine gate_callee (f := 43) rfl ?_); refine goesL_ (some 41) rfl rfl Try.func43 (by kernel_rfl) rfl #[.agg #[.string t361, .slice Ao27 t362.length co27, .int .i64 t365, .bool t366], .int .i64 a1, .int .i64 a2, .int .i64 a3] rfl (by (try simp only [List.map_toArray, List.map_cons, List.map_nil]); first | done | rfl | (simp only [List.length_drop, List.length_take]; rfl)) ?_; (with_reducible refine (impl_LaidCells.calls k t361 _ _ t362 t365 t366 a1 a2 a3 t368 t371 _ ?side1 ?side2 A13.out).mono ?_); (case side1 => refine (Kd.R_reads' (e := 105) (base := w.heap.size) (ok := fun k_ => ((True ∧ some k_ ≠ (.slice Ao20 t352.length co20 : Value).ownBlock) ∧ some k_ ≠ (v358 : Value).ownBlock)) (n := t362.length) (c := co27) ?_).2.2; exact (by (with_reducible repeat (first | apply Kd.R_alloc | apply Kd.R_drewN | apply Kd.R_drew)); exact (Kd.R_mono (Kd.R_far (p := ⟨gb367, 3, none⟩) (Kd.R_far (p := ⟨gb367, 2, none⟩) (Kd.R_far (p := ⟨gb367, 1, none⟩) (Kd.R_far (p := ⟨gb367, 0, none⟩) (Kd.R_types HO364.out BK367.out (by decide)) (fun _ hk => hk.2) (.string t361)) (fun _ hk => hk.2) (.slice Ao27 t362.length co27)) (fun _ hk => hk.2) (.int .i64 t365)) (fun _ hk => hk.2) (.bool t366)) (fun _ h_ => h_.1)))); (case side2 => exact (Kd.R_reads' HO364.out).2.1); rintro e w28 ⟨v369, rfl, ho0, hb⟩; refine ⟨_, rfl, ?_⟩; have n0_ := mkA (Kd.R_elder' (by (with_reducible repeat (first | apply Kd.R_alloc | apply Kd.R_drewN | apply Kd.R_drew)); exact (Kd.R_mono (Kd.R_far (p := ⟨gb367, 3, none⟩) (Kd.R_far (p := ⟨gb367, 2, none⟩) (Kd.R_far (p := ⟨gb367, 1, none⟩) (Kd.R_far (p := ⟨gb367, 0, none⟩) (Kd.R_types HO354.out BK367.out (by decide)) (fun _ hk => hk.2) (.string t361)) (fun _ hk => hk.2) (.slice Ao27 t362.length co27)) (fun _ hk => hk.2) (.int .i64 t365)) (fun _ hk => hk.2) (.bool t366)) (fun _ h_ => h_.1))) (Kd.R_base ho0) hb); have n1_ := mkA (Kd.R_elder' (by (with_reducible repeat (first | apply Kd.R_alloc | apply Kd.R_drewN | apply Kd.R_drew)); exact (Kd.R_mono (Kd.R_far (p := ⟨gb367, 3, none⟩) (Kd.R_far (p := ⟨gb367, 2, none⟩) (Kd.R_far (p := ⟨gb367, 1, none⟩) (Kd.R_far (p := ⟨gb367, 0, none⟩) (Kd.R_types HO359.out BK367.out (by decide)) (fun _ hk => hk.2) (.string t361)) (fun _ hk => hk.2) (.slice Ao27 t362.length co27)) (fun _ hk => hk.2) (.int .i64 t365)) (fun _ hk => hk.2) (.bool t366)) (fun _ h_ => h_.1))) (Kd.R_base ho0) hb); have n2_ := mkA (Kd.R_elder' (by (with_reducible repeat (first | apply Kd.R_alloc | apply Kd.R_drewN | apply Kd.R_drew)); exact (Kd.R_mono (Kd.R_far (p := ⟨gb367, 3, none⟩) (Kd.R_far (p := ⟨gb367, 2, none⟩) (Kd.R_far (p := ⟨gb367, 1, none⟩) (Kd.R_far (p := ⟨gb367, 0, none⟩) (Kd.R_types HO364.out BK367.out (by decide)) (fun _ hk => hk.2) (.string t361)) (fun _ hk => hk.2) (.slice Ao27 t362.length co27)) (fun _ hk => hk.2) (.int .i64 t365)) (fun _ hk => hk.2) (.bool t366)) (fun _ h_ => h_.1))) (Kd.R_base ho0) hb); have n3_ := mkA (Kd.R_lower (Kd.R_new' (Kd.R_new' (Kd.R_new' ho0 (Kd.R_lt (by (with_reducible repeat (first | apply Kd.R_alloc | apply Kd.R_drewN | apply Kd.R_drew)); exact (Kd.R_mono (Kd.R_far (p := ⟨gb367, 3, none⟩) (Kd.R_far (p := ⟨gb367, 2, none⟩) (Kd.R_far (p := ⟨gb367, 1, none⟩) (Kd.R_far (p := ⟨gb367, 0, none⟩) (Kd.R_types HO354.out BK367.out (by decide)) (fun _ hk => hk.2) (.string t361)) (fun _ hk => hk.2) (.slice Ao27 t362.length co27)) (fun _ hk => hk.2) (.int .i64 t365)) (fun _ hk => hk.2) (.bool t366)) (fun _ h_ => h_.1))))) (Kd.R_lt (by (with_reducible repeat (first | apply Kd.R_alloc | apply Kd.R_drewN | apply Kd.R_drew)); exact (Kd.R_mono (Kd.R_far (p := ⟨gb367, 3, none⟩) (Kd.R_far (p := ⟨gb367, 2, none⟩) (Kd.R_far (p := ⟨gb367, 1, none⟩) (Kd.R_far (p := ⟨gb367, 0, none⟩) (Kd.R_types HO359.out BK367.out (by decide)) (fun _ hk => hk.2) (.string t361)) (fun _ hk => hk.2) (.slice Ao27 t362.length co27)) (fun _ hk => hk.2) (.int .i64 t365)) (fun _ hk => hk.2) (.bool t366)) (fun _ h_ => h_.1))))) (Kd.R_lt (by (with_reducible repeat (first | apply Kd.R_alloc | apply Kd.R_drewN | apply Kd.R_drew)); exact (Kd.R_mono (Kd.R_far (p := ⟨gb367, 3, none⟩) (Kd.R_far (p := ⟨gb367, 2, none⟩) (Kd.R_far (p := ⟨gb367, 1, none⟩) (Kd.R_far (p := ⟨gb367, 0, none⟩) (Kd.R_types HO364.out BK367.out (by decide)) (fun _ hk => hk.2) (.string t361)) (fun _ hk => hk.2) (.slice Ao27 t362.length co27)) (fun _ hk => hk.2) (.int .i64 t365)) (fun _ hk => hk.2) (.bool t366)) (fun _ h_ => h_.1))))) (below_size (bs2_ HB.out GE349.out GE367.out))); have n4_ := mkA (blk_below (g := gb349) (o := .cells #[.string a0_0, .slice A0_1 l0_1.length c0_1, .int .i64 a0_2, .bool a0_3] 47 (0, 0)) (by (with_reducible repeat (first | refine blk_drewN ?_ _ | refine blk_drew ?_ | refine blk_alloc ?_ _)); refine blk_far ?_ NB349_367.out _; (with_reducible repeat (first | refine blk_drewN ?_ _ | refine blk_drew ?_ | refine blk_alloc ?_ _)); refine blk_far ?_ NB349_367.out _; (with_reducible repeat (first | refine blk_drewN ?_ _ | refine blk_drew ?_ | refine blk_alloc ?_ _)); refine blk_far ?_ NB349_367.out _; (with_reducible repeat (first | refine blk_drewN ?_ _ | refine blk_drew ?_ | refine blk_alloc ?_ _)); refine blk_far ?_ NB349_367.out _; (with_reducible repeat (first | refine blk_drewN ?_ _ | refine blk_drew ?_ | refine blk_alloc ?_ _)); exact BK349.out) hb); have n5_ := mkA (blk_below (g := gb367) (o := .cells #[.string t361, .slice Ao27 t362.length co27, .int .i64 t365, .bool t366] 53 (0, 0)) (by (with_reducible repeat (first | refine blk_drewN ?_ _ | refine blk_drew ?_ | refine blk_alloc ?_ _)); refine blk_put (cs := #[.string t361, .slice Ao27 t362.length co27, .int .i64 t365, .bool false]) ?_ 3 _ rfl; (with_reducible repeat (first | refine blk_drewN ?_ _ | refine blk_drew ?_ | refine blk_alloc ?_ _)); refine blk_put (cs := #[.string t361, .slice Ao27 t362.length co27, .int .i64 0, .bool false]) ?_ 2 _ rfl; (with_reducible repeat (first | refine blk_drewN ?_ _ | refine blk_drew ?_ | refine blk_alloc ?_ _)); refine blk_put (cs := #[.string t361, .slice none 0 0, .int .i64 0, .bool false]) ?_ 1 _ rfl; (with_reducible repeat (first | refine blk_drewN ?_ _ | refine blk_drew ?_ | refine blk_alloc ?_ _)); refine blk_put (cs := #[.string (⟨#[]⟩ : ByteArray), .slice none 0 0, .int .i64 0, .bool false]) ?_ 0 _ rfl; (with_reducible repeat (first | refine blk_drewN ?_ _ | refine blk_drew ?_ | refine blk_alloc ?_ _)); exact BK367.out) hb); have n6_ := mkA (below_step (bs2_ HB.out GE349.out GE367.out) hb); clear HO354; clear HO359; clear HO364; clear BK349; clear BK367; clear HB; have HO354 := n0_; have HO359 := n1_; have HO364 := n2_; have HO370 := n3_; have BK349 := n4_; have BK367 := n5_; have HB := n6_; clear n0_ n1_ n2_ n3_ n4_ n5_ n6_; (try clear hb); (try clear hb2); (try clear hk); (try clear hi); (try clear ho0)))
   (try simp only [Act.put, sA, sB, sC])
   go_cut [52] (fun v52 wc => ∃ (kq : Nat) (x52_13 : Bool), v52 = .bool x52_13 ∧ Aside0 (laws_FnExactLaidCells.j0 kq a1 a2 a3 t357 t360 t368 t371 x52_13 a0_0 l0_1 a0_2 a0_3 t361 t362 t365 t366 = some r) ∧ Aside0 (kq ≤ k) ∧ Aside0 (Kd.R k105 105 wc w.heap.size (fun k_ => some k_ ≠ (v369 : Value).ownBlock ∧ some k_ ≠ ((.slice Ao27 t362.length co27) : Value).ownBlock) v358 t357) ∧ Aside0 (Kd.R k105 105 wc w.heap.size (fun k_ => some k_ ≠ (v358 : Value).ownBlock ∧ some k_ ≠ ((.slice Ao27 t362.length co27) : Value).ownBlock) v369 t368) ∧ Aside0 (Kd.R k105 105 wc w.heap.size (fun k_ => some k_ ≠ (v358 : Value).ownBlock ∧ some k_ ≠ (v369 : Value).ownBlock) (.slice Ao27 t362.length co27) t362) ∧ Aside0 (wc.heap[gb349]? = some (.cells #[.string a0_0, (.slice A0_1 l0_1.length c0_1), .int .i64 a0_2, .bool a0_3] 47 (0, 0))) ∧ Aside0 (wc.heap[gb367]? = some (.cells #[.string t361, (.slice Ao27 t362.length co27), .int .i64 t365, .bool t366] 53 (0, 0))) ∧ Aside0 (Below w.heap.size w wc))
   case first =>
    have H := HC14.out
    clear HC14
    replace H := Option.bind_eq_some_iff.mp H
    obtain ⟨t372, A290, H⟩ := H
    replace H : (if t372 = true then (laws_FnExactLaidCells.j0 k a1 a2 a3 t357 t360 t368 t371 (t371 != t360) a0_0 l0_1 a0_2 a0_3 t361 t362 t365 t366) else (laws_FnExactLaidCells.j0 k a1 a2 a3 t357 t360 t368 t371 true a0_0 l0_1 a0_2 a0_3 t361 t362 t365 t366)) = some r := H
    have A29 := mkA A290
    clear A290
    by_cases c30 : t372 = true
    · subst c30
      have H1 : (laws_FnExactLaidCells.j0 k a1 a2 a3 t357 t360 t368 t371 (t371 != t360) a0_0 l0_1 a0_2 a0_3 t361 t362 t365 t366) = some r := by rw [if_pos rfl] at H; exact H
      clear H
      have H := H1
      clear H1
      have H' := mkA H
      clear H
      obtain ⟨Ao31, co31, eo31⟩ := Kd.R_slice HO370.out
      subst eo31
      obtain ⟨Ao32, co32, eo32⟩ := Kd.R_slice HO359.out
      subst eo32
      go_wp2_with (first | ((with_reducible refine gate_callee (f := 44) rfl ?_); refine goesL_ (some 46) rfl rfl Try.func44 (by kernel_rfl) rfl #[.slice Ao31 t368.length co31, .slice Ao32 t357.length co32] rfl (by (try simp only [List.map_toArray, List.map_cons, List.map_nil]); first | done | rfl | (simp only [List.length_drop, List.length_take]; rfl)) ?_; (with_reducible refine (laws_eqPointS.calls k _ _ t368 _ _ t357 true _ ?side1 ?side2 ?side3 ?side4 A29.out).mono ?_); (case side1 => repeat (first | exact (Kd.R_reads' HO370.out).2.2 | (with_reducible refine Kd.C_alloc ?_ _) | (with_reducible refine Kd.C_drewN ?_ _) | (with_reducible refine Kd.C_drew ?_))); (case side2 => exact (Kd.R_reads' HO370.out).2.1); (case side3 => repeat (first | exact (Kd.R_reads' HO359.out).2.2 | (with_reducible refine Kd.C_alloc ?_ _) | (with_reducible refine Kd.C_drewN ?_ _) | (with_reducible refine Kd.C_drew ?_))); (case side4 => exact (Kd.R_reads' HO359.out).2.1); rintro e w33 ⟨rfl, hb⟩; refine ⟨_, rfl, ?_⟩; have n0_ := mkA (Kd.R_below (by (with_reducible repeat (first | apply Kd.R_alloc | apply Kd.R_drewN | apply Kd.R_drew)); exact HO354.out) hb); have n1_ := mkA (Kd.R_below (by (with_reducible repeat (first | apply Kd.R_alloc | apply Kd.R_drewN | apply Kd.R_drew)); exact HO359.out) hb); have n2_ := mkA (Kd.R_below (by (with_reducible repeat (first | apply Kd.R_alloc | apply Kd.R_drewN | apply Kd.R_drew)); exact HO364.out) hb); have n3_ := mkA (Kd.R_below (by (with_reducible repeat (first | apply Kd.R_alloc | apply Kd.R_drewN | apply Kd.R_drew)); exact HO370.out) hb); have n4_ := mkA (blk_below (g := gb349) (o := .cells #[.string a0_0, .slice A0_1 l0_1.length c0_1, .int .i64 a0_2, .bool a0_3] 47 (0, 0)) (bl_ BK349.out) hb); have n5_ := mkA (blk_below (g := gb367) (o := .cells #[.string t361, .slice Ao27 t362.length co27, .int .i64 t365, .bool t366] 53 (0, 0)) (bl_ BK367.out) hb); have n6_ := mkA (below_step (bs2_ HB.out GE349.out GE367.out) hb); clear HO354; clear HO359; clear HO364; clear HO370; clear BK349; clear BK367; clear HB; have HO354 := n0_; have HO359 := n1_; have HO364 := n2_; have HO370 := n3_; have BK349 := n4_; have BK367 := n5_; have HB := n6_; clear n0_ n1_ n2_ n3_ n4_ n5_ n6_; (try clear hb); (try clear hb2); (try clear hk); (try clear hi)))
      go_meet
      case rel => exact ⟨_, ((t371 != t360)), (by first | rfl | (simp; done) | (simp [*]; done) | (simp [i64_w, i32_w]; done)), H', ⟨by first | omega | exact Nat.le_refl _⟩, ⟨by (with_reducible repeat (first | apply Kd.R_alloc | apply Kd.R_drewN | apply Kd.R_drew)); exact Kd.R_mono HO359.out (fun _ hk => ⟨hk.2, hk.1.2⟩)⟩, ⟨by (with_reducible repeat (first | apply Kd.R_alloc | apply Kd.R_drewN | apply Kd.R_drew)); exact Kd.R_mono HO370.out (fun _ hk => ⟨hk.1.2, hk.2⟩)⟩, ⟨by (with_reducible repeat (first | apply Kd.R_alloc | apply Kd.R_drewN | apply Kd.R_drew)); exact Kd.R_mono HO364.out (fun _ hk => ⟨hk.1.2, hk.2⟩)⟩, ⟨by (with_reducible repeat (first | refine blk_drewN ?_ _ | refine blk_drew ?_ | refine blk_alloc ?_ _)); exact BK349.out⟩, ⟨by (with_reducible repeat (first | refine blk_drewN ?_ _ | refine blk_drew ?_ | refine blk_alloc ?_ _)); exact BK367.out⟩, ⟨by repeat (first | (with_reducible first | exact HB.out | apply below_alloc | apply pw_below_drewN | apply below_drew1 | refine below_set ?_ GE349.out | refine below_set ?_ GE367.out) | exact HB.out)⟩⟩
    · replace c30 := Bool.eq_false_iff.mpr c30
      subst c30
      have H1 : (laws_FnExactLaidCells.j0 k a1 a2 a3 t357 t360 t368 t371 true a0_0 l0_1 a0_2 a0_3 t361 t362 t365 t366) = some r := by rw [if_neg (show ¬ (false = true) by decide)] at H; exact H
      clear H
      have H := H1
      clear H1
      have H' := mkA H
      clear H
      obtain ⟨Ao34, co34, eo34⟩ := Kd.R_slice HO370.out
      subst eo34
      obtain ⟨Ao35, co35, eo35⟩ := Kd.R_slice HO359.out
      subst eo35
      go_wp2_with (first | ((with_reducible refine gate_callee (f := 44) rfl ?_); refine goesL_ (some 46) rfl rfl Try.func44 (by kernel_rfl) rfl #[.slice Ao34 t368.length co34, .slice Ao35 t357.length co35] rfl (by (try simp only [List.map_toArray, List.map_cons, List.map_nil]); first | done | rfl | (simp only [List.length_drop, List.length_take]; rfl)) ?_; (with_reducible refine (laws_eqPointS.calls k _ _ t368 _ _ t357 false _ ?side1 ?side2 ?side3 ?side4 A29.out).mono ?_); (case side1 => repeat (first | exact (Kd.R_reads' HO370.out).2.2 | (with_reducible refine Kd.C_alloc ?_ _) | (with_reducible refine Kd.C_drewN ?_ _) | (with_reducible refine Kd.C_drew ?_))); (case side2 => exact (Kd.R_reads' HO370.out).2.1); (case side3 => repeat (first | exact (Kd.R_reads' HO359.out).2.2 | (with_reducible refine Kd.C_alloc ?_ _) | (with_reducible refine Kd.C_drewN ?_ _) | (with_reducible refine Kd.C_drew ?_))); (case side4 => exact (Kd.R_reads' HO359.out).2.1); rintro e w36 ⟨rfl, hb⟩; refine ⟨_, rfl, ?_⟩; have n0_ := mkA (Kd.R_below (by (with_reducible repeat (first | apply Kd.R_alloc | apply Kd.R_drewN | apply Kd.R_drew)); exact HO354.out) hb); have n1_ := mkA (Kd.R_below (by (with_reducible repeat (first | apply Kd.R_alloc | apply Kd.R_drewN | apply Kd.R_drew)); exact HO359.out) hb); have n2_ := mkA (Kd.R_below (by (with_reducible repeat (first | apply Kd.R_alloc | apply Kd.R_drewN | apply Kd.R_drew)); exact HO364.out) hb); have n3_ := mkA (Kd.R_below (by (with_reducible repeat (first | apply Kd.R_alloc | apply Kd.R_drewN | apply Kd.R_drew)); exact HO370.out) hb); have n4_ := mkA (blk_below (g := gb349) (o := .cells #[.string a0_0, .slice A0_1 l0_1.length c0_1, .int .i64 a0_2, .bool a0_3] 47 (0, 0)) (bl_ BK349.out) hb); have n5_ := mkA (blk_below (g := gb367) (o := .cells #[.string t361, .slice Ao27 t362.length co27, .int .i64 t365, .bool t366] 53 (0, 0)) (bl_ BK367.out) hb); have n6_ := mkA (below_step (bs2_ HB.out GE349.out GE367.out) hb); clear HO354; clear HO359; clear HO364; clear HO370; clear BK349; clear BK367; clear HB; have HO354 := n0_; have HO359 := n1_; have HO364 := n2_; have HO370 := n3_; have BK349 := n4_; have BK367 := n5_; have HB := n6_; clear n0_ n1_ n2_ n3_ n4_ n5_ n6_; (try clear hb); (try clear hb2); (try clear hk); (try clear hi)))
      go_meet
      case rel => exact ⟨_, (true), (by first | rfl | (simp; done) | (simp [*]; done) | (simp [i64_w, i32_w]; done)), H', ⟨by first | omega | exact Nat.le_refl _⟩, ⟨by (with_reducible repeat (first | apply Kd.R_alloc | apply Kd.R_drewN | apply Kd.R_drew)); exact Kd.R_mono HO359.out (fun _ hk => ⟨hk.2, hk.1.2⟩)⟩, ⟨by (with_reducible repeat (first | apply Kd.R_alloc | apply Kd.R_drewN | apply Kd.R_drew)); exact Kd.R_mono HO370.out (fun _ hk => ⟨hk.1.2, hk.2⟩)⟩, ⟨by (with_reducible repeat (first | apply Kd.R_alloc | apply Kd.R_drewN | apply Kd.R_drew)); exact Kd.R_mono HO364.out (fun _ hk => ⟨hk.1.2, hk.2⟩)⟩, ⟨by (with_reducible repeat (first | refine blk_drewN ?_ _ | refine blk_drew ?_ | refine blk_alloc ?_ _)); exact BK349.out⟩, ⟨by (with_reducible repeat (first | refine blk_drewN ?_ _ | refine blk_drew ?_ | refine blk_alloc ?_ _)); exact BK367.out⟩, ⟨by repeat (first | (with_reducible first | exact HB.out | apply below_alloc | apply pw_below_drewN | apply below_drew1 | refine below_set ?_ GE349.out | refine below_set ?_ GE367.out) | exact HB.out)⟩⟩
   case rest =>
    clear HC14
    try clear c1
    try clear c2
    try clear p2
    try clear c3
    try clear c4
    try clear c6
    try clear c6b0
    try clear c10
    try clear c25
    try clear c30
    try clear c33
    try clear c35
    try clear hcz16_0
    try clear hcz16_1
    try clear hcz16_2
    try clear hcz16_3
    try clear hcz18_0
    try clear hcz18_1
    try clear hcz18_2
    try clear hcz18_3
    try clear hcz22_0
    try clear hcz22_1
    try clear hcz22_2
    try clear hcz22_3
    try clear hcz26_0
    try clear hcz26_1
    try clear hcz26_2
    try clear hcz26_3
    try clear hcz8_0
    try clear hcz8_1
    try clear hcz8_2
    try clear hcz8_3
    try clear hfz16_0
    try clear hfz16_1
    try clear hfz16_2
    try clear hfz16_3
    try clear hfz18_0
    try clear hfz18_1
    try clear hfz18_2
    try clear hfz18_3
    try clear hfz22_0
    try clear hfz22_1
    try clear hfz22_2
    try clear hfz22_3
    try clear hfz26_0
    try clear hfz26_1
    try clear hfz26_2
    try clear hfz26_3
    try clear hfz8_0
    try clear hfz8_1
    try clear hfz8_2
    try clear hfz8_3
    obtain ⟨kq, x52_13, rfl, HA, HJ13, HO_10, HO_13, HO_368001, BK349, BK367, HB⟩ := hcut
    cases kq with
    | zero => exact absurd HA.out (by simp [laws_FnExactLaidCells.j0])
    | succ kj13 =>
     have H := HA.out
     clear HA
     simp only [laws_FnExactLaidCells.j0] at H
     by_cases c37 : x52_13 = true
     · subst c37
       have H1 : (some false) = some r := by rw [if_pos rfl] at H; exact H
       clear H
       have H := H1
       clear H1
       obtain rfl := Option.some.inj H
       go_wp2
       go_ret
       exact ⟨by first | rfl | (simp [errW_none, errW_some] <;> rfl) | (simp [*, errW_none, errW_some] <;> rfl), by repeat (first | (with_reducible first | exact HB.out | apply below_alloc | apply pw_below_drewN | apply below_drew1 | refine below_set ?_ GE349.out | refine below_set ?_ GE367.out) | exact HB.out)⟩
     · replace c37 := Bool.eq_false_iff.mpr c37
       subst c37
       have H1 : ((laws_toPiece.f kj13 a0_0 l0_1 a0_2 a0_3).bind fun bt373 => ((laws_eqPiece.f kj13 t361 t362 t365 t366 bt373.1 bt373.2.1 bt373.2.2.1 bt373.2.2.2).bind fun t379 => (if t379 = true then ((laws_markPiece.f kj13 t361 t362 t365 t366 1).bind fun bt380 => (if bt380.1 < 0 then (laws_FnExactLaidCells.j1 kj13 a1 a2 a3 t357 t360 t368 true a0_0 l0_1 a0_2 a0_3) else ((laws_eqPointS.f kj13 t368 t357).bind fun t382 => (if t382 = true then (laws_FnExactLaidCells.j1 kj13 a1 a2 a3 t357 t360 t368 (t371 != t360) a0_0 l0_1 a0_2 a0_3) else (laws_FnExactLaidCells.j1 kj13 a1 a2 a3 t357 t360 t368 true a0_0 l0_1 a0_2 a0_3))))) else (some false)))) = some r := by rw [if_neg (show ¬ (false = true) by decide)] at H; exact H
       clear H
       have H := H1
       clear H1
       replace H := Option.bind_eq_some_iff.mp H
       obtain ⟨⟨t373, t374, t377, t378⟩, A380, H⟩ := H
       replace H : ((laws_eqPiece.f kj13 t361 t362 t365 t366 t373 t374 t377 t378).bind fun t379 => (if t379 = true then ((laws_markPiece.f kj13 t361 t362 t365 t366 1).bind fun bt380 => (if bt380.1 < 0 then (laws_FnExactLaidCells.j1 kj13 a1 a2 a3 t357 t360 t368 true a0_0 l0_1 a0_2 a0_3) else ((laws_eqPointS.f kj13 t368 t357).bind fun t382 => (if t382 = true then (laws_FnExactLaidCells.j1 kj13 a1 a2 a3 t357 t360 t368 (t371 != t360) a0_0 l0_1 a0_2 a0_3) else (laws_FnExactLaidCells.j1 kj13 a1 a2 a3 t357 t360 t368 true a0_0 l0_1 a0_2 a0_3))))) else (some false))) = some r := H
       have A38 := mkA A380
       clear A380
       replace H := Option.bind_eq_some_iff.mp H
       obtain ⟨t379, A390, H⟩ := H
       replace H : (if t379 = true then ((laws_markPiece.f kj13 t361 t362 t365 t366 1).bind fun bt380 => (if bt380.1 < 0 then (laws_FnExactLaidCells.j1 kj13 a1 a2 a3 t357 t360 t368 true a0_0 l0_1 a0_2 a0_3) else ((laws_eqPointS.f kj13 t368 t357).bind fun t382 => (if t382 = true then (laws_FnExactLaidCells.j1 kj13 a1 a2 a3 t357 t360 t368 (t371 != t360) a0_0 l0_1 a0_2 a0_3) else (laws_FnExactLaidCells.j1 kj13 a1 a2 a3 t357 t360 t368 true a0_0 l0_1 a0_2 a0_3))))) else (some false)) = some r := H
       have A39 := mkA A390
       clear A390
       by_cases c40 : t379 = true
       rotate_left
       · replace c40 := Bool.eq_false_iff.mpr c40
         subst c40
         have H1 : (some false) = some r := by rw [if_neg (show ¬ (false = true) by decide)] at H; exact H
         clear H
         have H := H1
         clear H1
         obtain rfl := Option.some.inj H
         try go_wp2
         have n0_ := mkA (Kd.R_drew HO_10.out)
         have n1_ := mkA (Kd.R_drew HO_13.out)
         have n2_ := mkA (Kd.R_drew HO_368001.out)
         have n3_ := mkA (blk_drew BK349.out)
         have n4_ := mkA (blk_drew BK367.out)
         have n5_ := mkA (below_drew1 HB.out)
         clear HO_10
         clear HO_13
         clear HO_368001
         clear BK349
         clear BK367
         clear HB
         have HO_10 := n0_
         have HO_13 := n1_
         have HO_368001 := n2_
         have BK349 := n3_
         have BK367 := n4_
         have HB := n5_
         clear n0_ n1_ n2_ n3_ n4_ n5_
         refine start_ (n := 5) (S := fun w' => w'.cell? ⟨gb367, 0, none⟩ = some (.string t361) ∧ w'.cell? ⟨gb367, 1, none⟩ = some (.slice Ao27 t362.length co27) ∧ w'.cell? ⟨gb367, 2, none⟩ = some (.int .i64 t365) ∧ w'.cell? ⟨gb367, 3, none⟩ = some (.bool t366) ∧ w'.cell? ⟨gb349, 0, none⟩ = some (.string a0_0) ∧ w'.cell? ⟨gb349, 1, none⟩ = some (.slice A0_1 l0_1.length c0_1) ∧ w'.cell? ⟨gb349, 2, none⟩ = some (.int .i64 a0_2) ∧ w'.cell? ⟨gb349, 3, none⟩ = some (.bool a0_3)) (ds := []) #[false, false, false, false, false] (by kernel_rfl) rfl rfl ⟨(blk_cell BK367.out 0).trans rfl, (blk_cell BK367.out 1).trans rfl, (blk_cell BK367.out 2).trans rfl, (blk_cell BK367.out 3).trans rfl, (blk_cell BK349.out 0).trans rfl, (blk_cell BK349.out 1).trans rfl, (blk_cell BK349.out 2).trans rfl, (blk_cell BK349.out 3).trans rfl⟩ (fun hHeld => ?_)
         generalize wc.drew = w90 at HO_10 HO_13 HO_368001 BK349 BK367 HB hHeld ⊢
         refine take_ (i := 0) (N := some 53) (v := ?_) (a' := ?_) #[true, false, false, false, false] rfl rfl (by kernel_rfl) (fun _ _ _ h => h) (Or.inl ⟨by rfl, ?_⟩) hHeld ?_ ?_
         rotate_left
         · rintro w' ⟨s0, s1, s2, s3, s4, s5, s6, s7⟩
           go_simp
           with_reducible rfl
         rotate_left
         · simp only [Act.put, sA, sB, sC, i64_w, i32_w]
           rfl
         refine take_ (i := 1) (N := some 54) (v := ?_) (a' := ?_) #[true, true, false, false, false] rfl rfl (by kernel_rfl) (fun _ _ _ h => h) (Or.inl ⟨by rfl, ?_⟩) hHeld ?_ ?_
         rotate_left
         · rintro w' ⟨s0, s1, s2, s3, s4, s5, s6, s7⟩
           go_simp
           with_reducible rfl
         rotate_left
         · simp only [Act.put, sA, sB, sC, i64_w, i32_w]
           rfl
         refine one_ (i := 2) (N := some 55) #[true, true, true, false, false] rfl rfl (by kernel_rfl) (by decide) (fun K hK => ?_)
         refine goes_ Try.func35 (by kernel_rfl) rfl #[.agg #[.string a0_0, .slice A0_1 l0_1.length c0_1, .int .i64 a0_2, .bool a0_3]] (by rfl) rfl rfl (by (try simp only [List.map_toArray, List.map_cons, List.map_nil]); first | done | rfl | (simp only [List.length_drop, List.length_take]; rfl)) ?_
         with_reducible refine (laws_toPiece.calls kj13 a0_0 _ _ l0_1 a0_2 a0_3 t373 t374 t377 t378 _ ?side1 ?side2 A38.out).mono ?_
         (case side1 => exact cb_ HR0_1.out HB.out)
         (case side2 => exact HC0_1.out)
         rintro e w91 ⟨v375, rfl, ho0, hb⟩
         refine ⟨_, rfl, ?_⟩
         have n0_ := mkA (Kd.R_elder' (by (with_reducible repeat (first | apply Kd.R_alloc | apply Kd.R_drewN | apply Kd.R_drew)); exact HO_10.out) (Kd.R_base ho0) hb)
         have n1_ := mkA (Kd.R_elder' (by (with_reducible repeat (first | apply Kd.R_alloc | apply Kd.R_drewN | apply Kd.R_drew)); exact HO_13.out) (Kd.R_base ho0) hb)
         have n2_ := mkA (Kd.R_elder' (by (with_reducible repeat (first | apply Kd.R_alloc | apply Kd.R_drewN | apply Kd.R_drew)); exact HO_368001.out) (Kd.R_base ho0) hb)
         have n3_ := mkA (Kd.R_lower (Kd.R_new' (Kd.R_new' (Kd.R_new' ho0 (Kd.R_lt (by (with_reducible repeat (first | apply Kd.R_alloc | apply Kd.R_drewN | apply Kd.R_drew)); exact HO_10.out))) (Kd.R_lt (by (with_reducible repeat (first | apply Kd.R_alloc | apply Kd.R_drewN | apply Kd.R_drew)); exact HO_13.out))) (Kd.R_lt (by (with_reducible repeat (first | apply Kd.R_alloc | apply Kd.R_drewN | apply Kd.R_drew)); exact HO_368001.out))) (below_size (bs2_ HB.out GE349.out GE367.out)))
         have n4_ := mkA (blk_below (g := gb349) (o := .cells #[.string a0_0, .slice A0_1 l0_1.length c0_1, .int .i64 a0_2, .bool a0_3] 47 (0, 0)) (bl_ BK349.out) hb)
         have n5_ := mkA (blk_below (g := gb367) (o := .cells #[.string t361, .slice Ao27 t362.length co27, .int .i64 t365, .bool t366] 53 (0, 0)) (bl_ BK367.out) hb)
         have n6_ := mkA (below_step (bs2_ HB.out GE349.out GE367.out) hb)
         clear HO_10
         clear HO_13
         clear HO_368001
         clear BK349
         clear BK367
         clear HB
         have HO_10 := n0_
         have HO_13 := n1_
         have HO_368001 := n2_
         have HO376 := n3_
         have BK349 := n4_
         have BK367 := n5_
         have HB := n6_
         clear n0_ n1_ n2_ n3_ n4_ n5_ n6_
         (try clear hb)
         (try clear hb2)
         (try clear hk)
         (try clear hi)
         (try clear ho0)
         obtain ⟨Ao92, co92, eo92⟩ := Kd.R_slice HO376.out
         (first | subst eo92 | (injection eo92 with f1_ f2_ f3_; have f4_ := f1_.symm; have f5_ := f3_.symm; clear f1_ f2_ f3_; subst f4_; subst f5_))
         refine hK.out _ _ ⟨(blk_cell BK367.out 0).trans rfl, (blk_cell BK367.out 1).trans rfl, (blk_cell BK367.out 2).trans rfl, (blk_cell BK367.out 3).trans rfl, (blk_cell BK349.out 0).trans rfl, (blk_cell BK349.out 1).trans rfl, (blk_cell BK349.out 2).trans rfl, (blk_cell BK349.out 3).trans rfl⟩ (fun hHeld => ?_)
         clear hK K
         refine norm_ (a' := ?_) ?_ ?_
         rotate_left
         · show Act.put _ (some 55) _ = _
           simp only [Act.put, sA, sB, sC, i64_w, i32_w]
           rfl
         refine one_ (i := 3) (N := some 56) #[true, true, true, true, false] rfl rfl (by kernel_rfl) (by decide) (fun K hK => ?_)
         refine goes_ Try.func38 (by kernel_rfl) rfl #[.agg #[.string t361, .slice Ao27 t362.length co27, .int .i64 t365, .bool t366], .agg #[.string t373, .slice Ao92 t374.length co92, .int .i64 t377, .bool t378]] (by rfl) rfl rfl (by (try simp only [List.map_toArray, List.map_cons, List.map_nil]); first | done | rfl | (simp only [List.length_drop, List.length_take]; rfl)) ?_
         with_reducible refine (laws_eqPiece.calls kj13 t361 _ _ t362 t365 t366 t373 _ _ t374 t377 t378 false _ ?side1 ?side2 ?side3 ?side4 A39.out).mono ?_
         (case side1 => repeat (first | exact (Kd.R_reads' HO_368001.out).2.2 | (with_reducible refine Kd.C_alloc ?_ _) | (with_reducible refine Kd.C_drewN ?_ _) | (with_reducible refine Kd.C_drew ?_)))
         (case side2 => exact (Kd.R_reads' HO_368001.out).2.1)
         (case side3 => repeat (first | exact (Kd.R_reads' HO376.out).2.2 | (with_reducible refine Kd.C_alloc ?_ _) | (with_reducible refine Kd.C_drewN ?_ _) | (with_reducible refine Kd.C_drew ?_)))
         (case side4 => exact (Kd.R_reads' HO376.out).2.1)
         rintro e w93 ⟨rfl, hb⟩
         refine ⟨_, rfl, ?_⟩
         have n0_ := mkA (Kd.R_below (by (with_reducible repeat (first | apply Kd.R_alloc | apply Kd.R_drewN | apply Kd.R_drew)); exact HO_10.out) hb)
         have n1_ := mkA (Kd.R_below (by (with_reducible repeat (first | apply Kd.R_alloc | apply Kd.R_drewN | apply Kd.R_drew)); exact HO_13.out) hb)
         have n2_ := mkA (Kd.R_below (by (with_reducible repeat (first | apply Kd.R_alloc | apply Kd.R_drewN | apply Kd.R_drew)); exact HO_368001.out) hb)
         have n3_ := mkA (Kd.R_below (by (with_reducible repeat (first | apply Kd.R_alloc | apply Kd.R_drewN | apply Kd.R_drew)); exact HO376.out) hb)
         have n4_ := mkA (blk_below (g := gb349) (o := .cells #[.string a0_0, .slice A0_1 l0_1.length c0_1, .int .i64 a0_2, .bool a0_3] 47 (0, 0)) (bl_ BK349.out) hb)
         have n5_ := mkA (blk_below (g := gb367) (o := .cells #[.string t361, .slice Ao27 t362.length co27, .int .i64 t365, .bool t366] 53 (0, 0)) (bl_ BK367.out) hb)
         have n6_ := mkA (below_step (bs2_ HB.out GE349.out GE367.out) hb)
         clear HO_10
         clear HO_13
         clear HO_368001
         clear HO376
         clear BK349
         clear BK367
         clear HB
         have HO_10 := n0_
         have HO_13 := n1_
         have HO_368001 := n2_
         have HO376 := n3_
         have BK349 := n4_
         have BK367 := n5_
         have HB := n6_
         clear n0_ n1_ n2_ n3_ n4_ n5_ n6_
         (try clear hb)
         (try clear hb2)
         (try clear hk)
         (try clear hi)
         refine hK.out _ _ ⟨(blk_cell BK367.out 0).trans rfl, (blk_cell BK367.out 1).trans rfl, (blk_cell BK367.out 2).trans rfl, (blk_cell BK367.out 3).trans rfl, (blk_cell BK349.out 0).trans rfl, (blk_cell BK349.out 1).trans rfl, (blk_cell BK349.out 2).trans rfl, (blk_cell BK349.out 3).trans rfl⟩ (fun hHeld => ?_)
         clear hK K
         refine norm_ (a' := ?_) ?_ ?_
         rotate_left
         · show Act.put _ (some 56) _ = _
           simp only [Act.put, sA, sB, sC, i64_w, i32_w]
           rfl
         refine pure_ (i := 4) (N := some 57) (v := ?_) (a' := ?_) #[true, true, true, true, true] rfl rfl (by kernel_rfl) (fun _ _ _ h => h) (Or.inl ⟨by rfl, ?_⟩) ?_ ?_
         rotate_left
         · intro w'
           go_simp
           with_reducible rfl
         rotate_left
         · simp only [Act.put, sA, sB, sC, i64_w, i32_w]
           rfl
         refine done_ (by kernel_rfl) ?_
         try go_wp2
         go_ret
         exact ⟨by first | rfl | (simp [errW_none, errW_some] <;> rfl) | (simp [*, errW_none, errW_some] <;> rfl), by repeat (first | (with_reducible first | exact HB.out | apply below_alloc | apply pw_below_drewN | apply below_drew1 | refine below_set ?_ GE349.out | refine below_set ?_ GE367.out) | exact HB.out)⟩
       subst c40
       have H1 : ((laws_markPiece.f kj13 t361 t362 t365 t366 1).bind fun bt380 => (if bt380.1 < 0 then (laws_FnExactLaidCells.j1 kj13 a1 a2 a3 t357 t360 t368 true a0_0 l0_1 a0_2 a0_3) else ((laws_eqPointS.f kj13 t368 t357).bind fun t382 => (if t382 = true then (laws_FnExactLaidCells.j1 kj13 a1 a2 a3 t357 t360 t368 (t371 != t360) a0_0 l0_1 a0_2 a0_3) else (laws_FnExactLaidCells.j1 kj13 a1 a2 a3 t357 t360 t368 true a0_0 l0_1 a0_2 a0_3))))) = some r := by rw [if_pos rfl] at H; exact H
       clear H
       have H := H1
       clear H1
       replace H := Option.bind_eq_some_iff.mp H
       obtain ⟨⟨t380, t381⟩, A410, H⟩ := H
       replace H : (if t380 < 0 then (laws_FnExactLaidCells.j1 kj13 a1 a2 a3 t357 t360 t368 true a0_0 l0_1 a0_2 a0_3) else ((laws_eqPointS.f kj13 t368 t357).bind fun t382 => (if t382 = true then (laws_FnExactLaidCells.j1 kj13 a1 a2 a3 t357 t360 t368 (t371 != t360) a0_0 l0_1 a0_2 a0_3) else (laws_FnExactLaidCells.j1 kj13 a1 a2 a3 t357 t360 t368 true a0_0 l0_1 a0_2 a0_3)))) = some r := H
       have A41 := mkA A410
       clear A410
       have HC42 := mkA H
       clear H
       try go_wp2
       have n0_ := mkA (Kd.R_drew HO_10.out)
       have n1_ := mkA (Kd.R_drew HO_13.out)
       have n2_ := mkA (Kd.R_drew HO_368001.out)
       have n3_ := mkA (blk_drew BK349.out)
       have n4_ := mkA (blk_drew BK367.out)
       have n5_ := mkA (below_drew1 HB.out)
       clear HO_10
       clear HO_13
       clear HO_368001
       clear BK349
       clear BK367
       clear HB
       have HO_10 := n0_
       have HO_13 := n1_
       have HO_368001 := n2_
       have BK349 := n3_
       have BK367 := n4_
       have HB := n5_
       clear n0_ n1_ n2_ n3_ n4_ n5_
       refine start_ (n := 5) (S := fun w' => w'.cell? ⟨gb367, 0, none⟩ = some (.string t361) ∧ w'.cell? ⟨gb367, 1, none⟩ = some (.slice Ao27 t362.length co27) ∧ w'.cell? ⟨gb367, 2, none⟩ = some (.int .i64 t365) ∧ w'.cell? ⟨gb367, 3, none⟩ = some (.bool t366) ∧ w'.cell? ⟨gb349, 0, none⟩ = some (.string a0_0) ∧ w'.cell? ⟨gb349, 1, none⟩ = some (.slice A0_1 l0_1.length c0_1) ∧ w'.cell? ⟨gb349, 2, none⟩ = some (.int .i64 a0_2) ∧ w'.cell? ⟨gb349, 3, none⟩ = some (.bool a0_3)) (ds := []) #[false, false, false, false, false] (by kernel_rfl) rfl rfl ⟨(blk_cell BK367.out 0).trans rfl, (blk_cell BK367.out 1).trans rfl, (blk_cell BK367.out 2).trans rfl, (blk_cell BK367.out 3).trans rfl, (blk_cell BK349.out 0).trans rfl, (blk_cell BK349.out 1).trans rfl, (blk_cell BK349.out 2).trans rfl, (blk_cell BK349.out 3).trans rfl⟩ (fun hHeld => ?_)
       generalize wc.drew = w43 at HO_10 HO_13 HO_368001 BK349 BK367 HB hHeld ⊢
       refine take_ (i := 0) (N := some 53) (v := ?_) (a' := ?_) #[true, false, false, false, false] rfl rfl (by kernel_rfl) (fun _ _ _ h => h) (Or.inl ⟨by rfl, ?_⟩) hHeld ?_ ?_
       rotate_left
       · rintro w' ⟨s0, s1, s2, s3, s4, s5, s6, s7⟩
         go_simp
         with_reducible rfl
       rotate_left
       · simp only [Act.put, sA, sB, sC, i64_w, i32_w]
         rfl
       refine take_ (i := 1) (N := some 54) (v := ?_) (a' := ?_) #[true, true, false, false, false] rfl rfl (by kernel_rfl) (fun _ _ _ h => h) (Or.inl ⟨by rfl, ?_⟩) hHeld ?_ ?_
       rotate_left
       · rintro w' ⟨s0, s1, s2, s3, s4, s5, s6, s7⟩
         go_simp
         with_reducible rfl
       rotate_left
       · simp only [Act.put, sA, sB, sC, i64_w, i32_w]
         rfl
       refine one_ (i := 2) (N := some 55) #[true, true, true, false, false] rfl rfl (by kernel_rfl) (by decide) (fun K hK => ?_)
       refine goes_ Try.func35 (by kernel_rfl) rfl #[.agg #[.string a0_0, .slice A0_1 l0_1.length c0_1, .int .i64 a0_2, .bool a0_3]] (by rfl) rfl rfl (by (try simp only [List.map_toArray, List.map_cons, List.map_nil]); first | done | rfl | (simp only [List.length_drop, List.length_take]; rfl)) ?_
       with_reducible refine (laws_toPiece.calls kj13 a0_0 _ _ l0_1 a0_2 a0_3 t373 t374 t377 t378 _ ?side1 ?side2 A38.out).mono ?_
       (case side1 => exact cb_ HR0_1.out HB.out)
       (case side2 => exact HC0_1.out)
       rintro e w44 ⟨v375, rfl, ho0, hb⟩
       refine ⟨_, rfl, ?_⟩
       have n0_ := mkA (Kd.R_elder' (by (with_reducible repeat (first | apply Kd.R_alloc | apply Kd.R_drewN | apply Kd.R_drew)); exact HO_10.out) (Kd.R_base ho0) hb)
       have n1_ := mkA (Kd.R_elder' (by (with_reducible repeat (first | apply Kd.R_alloc | apply Kd.R_drewN | apply Kd.R_drew)); exact HO_13.out) (Kd.R_base ho0) hb)
       have n2_ := mkA (Kd.R_elder' (by (with_reducible repeat (first | apply Kd.R_alloc | apply Kd.R_drewN | apply Kd.R_drew)); exact HO_368001.out) (Kd.R_base ho0) hb)
       have n3_ := mkA (Kd.R_lower (Kd.R_new' (Kd.R_new' (Kd.R_new' ho0 (Kd.R_lt (by (with_reducible repeat (first | apply Kd.R_alloc | apply Kd.R_drewN | apply Kd.R_drew)); exact HO_10.out))) (Kd.R_lt (by (with_reducible repeat (first | apply Kd.R_alloc | apply Kd.R_drewN | apply Kd.R_drew)); exact HO_13.out))) (Kd.R_lt (by (with_reducible repeat (first | apply Kd.R_alloc | apply Kd.R_drewN | apply Kd.R_drew)); exact HO_368001.out))) (below_size (bs2_ HB.out GE349.out GE367.out)))
       have n4_ := mkA (blk_below (g := gb349) (o := .cells #[.string a0_0, .slice A0_1 l0_1.length c0_1, .int .i64 a0_2, .bool a0_3] 47 (0, 0)) (bl_ BK349.out) hb)
       have n5_ := mkA (blk_below (g := gb367) (o := .cells #[.string t361, .slice Ao27 t362.length co27, .int .i64 t365, .bool t366] 53 (0, 0)) (bl_ BK367.out) hb)
       have n6_ := mkA (below_step (bs2_ HB.out GE349.out GE367.out) hb)
       clear HO_10
       clear HO_13
       clear HO_368001
       clear BK349
       clear BK367
       clear HB
       have HO_10 := n0_
       have HO_13 := n1_
       have HO_368001 := n2_
       have HO376 := n3_
       have BK349 := n4_
       have BK367 := n5_
       have HB := n6_
       clear n0_ n1_ n2_ n3_ n4_ n5_ n6_
       (try clear hb)
       (try clear hb2)
       (try clear hk)
       (try clear hi)
       (try clear ho0)
       obtain ⟨Ao45, co45, eo45⟩ := Kd.R_slice HO376.out
       (first | subst eo45 | (injection eo45 with f1_ f2_ f3_; have f4_ := f1_.symm; have f5_ := f3_.symm; clear f1_ f2_ f3_; subst f4_; subst f5_))
       refine hK.out _ _ ⟨(blk_cell BK367.out 0).trans rfl, (blk_cell BK367.out 1).trans rfl, (blk_cell BK367.out 2).trans rfl, (blk_cell BK367.out 3).trans rfl, (blk_cell BK349.out 0).trans rfl, (blk_cell BK349.out 1).trans rfl, (blk_cell BK349.out 2).trans rfl, (blk_cell BK349.out 3).trans rfl⟩ (fun hHeld => ?_)
       clear hK K
       refine norm_ (a' := ?_) ?_ ?_
       rotate_left
       · show Act.put _ (some 55) _ = _
         simp only [Act.put, sA, sB, sC, i64_w, i32_w]
         rfl
       refine one_ (i := 3) (N := some 56) #[true, true, true, true, false] rfl rfl (by kernel_rfl) (by decide) (fun K hK => ?_)
       refine goes_ Try.func38 (by kernel_rfl) rfl #[.agg #[.string t361, .slice Ao27 t362.length co27, .int .i64 t365, .bool t366], .agg #[.string t373, .slice Ao45 t374.length co45, .int .i64 t377, .bool t378]] (by rfl) rfl rfl (by (try simp only [List.map_toArray, List.map_cons, List.map_nil]); first | done | rfl | (simp only [List.length_drop, List.length_take]; rfl)) ?_
       with_reducible refine (laws_eqPiece.calls kj13 t361 _ _ t362 t365 t366 t373 _ _ t374 t377 t378 true _ ?side1 ?side2 ?side3 ?side4 A39.out).mono ?_
       (case side1 => repeat (first | exact (Kd.R_reads' HO_368001.out).2.2 | (with_reducible refine Kd.C_alloc ?_ _) | (with_reducible refine Kd.C_drewN ?_ _) | (with_reducible refine Kd.C_drew ?_)))
       (case side2 => exact (Kd.R_reads' HO_368001.out).2.1)
       (case side3 => repeat (first | exact (Kd.R_reads' HO376.out).2.2 | (with_reducible refine Kd.C_alloc ?_ _) | (with_reducible refine Kd.C_drewN ?_ _) | (with_reducible refine Kd.C_drew ?_)))
       (case side4 => exact (Kd.R_reads' HO376.out).2.1)
       rintro e w46 ⟨rfl, hb⟩
       refine ⟨_, rfl, ?_⟩
       have n0_ := mkA (Kd.R_below (by (with_reducible repeat (first | apply Kd.R_alloc | apply Kd.R_drewN | apply Kd.R_drew)); exact HO_10.out) hb)
       have n1_ := mkA (Kd.R_below (by (with_reducible repeat (first | apply Kd.R_alloc | apply Kd.R_drewN | apply Kd.R_drew)); exact HO_13.out) hb)
       have n2_ := mkA (Kd.R_below (by (with_reducible repeat (first | apply Kd.R_alloc | apply Kd.R_drewN | apply Kd.R_drew)); exact HO_368001.out) hb)
       have n3_ := mkA (Kd.R_below (by (with_reducible repeat (first | apply Kd.R_alloc | apply Kd.R_drewN | apply Kd.R_drew)); exact HO376.out) hb)
       have n4_ := mkA (blk_below (g := gb349) (o := .cells #[.string a0_0, .slice A0_1 l0_1.length c0_1, .int .i64 a0_2, .bool a0_3] 47 (0, 0)) (bl_ BK349.out) hb)
       have n5_ := mkA (blk_below (g := gb367) (o := .cells #[.string t361, .slice Ao27 t362.length co27, .int .i64 t365, .bool t366] 53 (0, 0)) (bl_ BK367.out) hb)
       have n6_ := mkA (below_step (bs2_ HB.out GE349.out GE367.out) hb)
       clear HO_10
       clear HO_13
       clear HO_368001
       clear HO376
       clear BK349
       clear BK367
       clear HB
       have HO_10 := n0_
       have HO_13 := n1_
       have HO_368001 := n2_
       have HO376 := n3_
       have BK349 := n4_
       have BK367 := n5_
       have HB := n6_
       clear n0_ n1_ n2_ n3_ n4_ n5_ n6_
       (try clear hb)
       (try clear hb2)
       (try clear hk)
       (try clear hi)
       refine hK.out _ _ ⟨(blk_cell BK367.out 0).trans rfl, (blk_cell BK367.out 1).trans rfl, (blk_cell BK367.out 2).trans rfl, (blk_cell BK367.out 3).trans rfl, (blk_cell BK349.out 0).trans rfl, (blk_cell BK349.out 1).trans rfl, (blk_cell BK349.out 2).trans rfl, (blk_cell BK349.out 3).trans rfl⟩ (fun hHeld => ?_)
       clear hK K
       refine norm_ (a' := ?_) ?_ ?_
       rotate_left
       · show Act.put _ (some 56) _ = _
         simp only [Act.put, sA, sB, sC, i64_w, i32_w]
         rfl
       refine pure_ (i := 4) (N := some 57) (v := ?_) (a' := ?_) #[true, true, true, true, true] rfl rfl (by kernel_rfl) (fun _ _ _ h => h) (Or.inl ⟨by rfl, ?_⟩) ?_ ?_
       rotate_left
       · intro w'
         go_simp
         with_reducible rfl
       rotate_left
       · simp only [Act.put, sA, sB, sC, i64_w, i32_w]
         rfl
       refine done_ (by kernel_rfl) ?_
       have hnb47 := NB367_349.out
       have hnc47 := NB349_367.out
       have hcz48_0 : w46.cell? ⟨gb367, 0, none⟩ = some (.string t361) := (blk_cell BK367.out 0).trans rfl
       have hcz48_1 : w46.cell? ⟨gb367, 1, none⟩ = some (.slice Ao27 t362.length co27) := (blk_cell BK367.out 1).trans rfl
       have hcz48_2 : w46.cell? ⟨gb367, 2, none⟩ = some (.int .i64 t365) := (blk_cell BK367.out 2).trans rfl
       have hcz48_3 : w46.cell? ⟨gb367, 3, none⟩ = some (.bool t366) := (blk_cell BK367.out 3).trans rfl
       have hfz48_0 := blk_frozen BK367.out 0
       have hfz48_1 := blk_frozen BK367.out 1
       have hfz48_2 := blk_frozen BK367.out 2
       have hfz48_3 := blk_frozen BK367.out 3
       go_upto_region 14 with (first | ((with_reducible refine gate_callee (f := 39) rfl ?_); refine goesL_ (some 60) rfl rfl Try.func39 (by kernel_rfl) rfl #[.agg #[.string t361, .slice Ao27 t362.length co27, .int .i64 t365, .bool t366], .int .i64 1] rfl (by (try simp only [List.map_toArray, List.map_cons, List.map_nil]); first | done | rfl | (simp only [List.length_drop, List.length_take]; rfl)) ?_; (with_reducible refine (laws_markPiece.calls kj13 t361 (fun k_ => some k_ = (.slice Ao27 t362.length co27 : Value).ownBlock) (.slice Ao27 t362.length co27) t362 t365 t366 1 t380 t381 w _ ?side1 ?side2 A41.out).mono ?_); (case side1 => repeat (first | (with_reducible first | exact HB.out | apply below_alloc | apply pw_below_drewN | apply below_drew1 | refine below_set ?_ GE349.out | refine below_set ?_ GE367.out) | exact HB.out)); (case side2 => exact Kd.R_tight rfl HO_368001.out); rintro e w49 ⟨rfl, hy0, hb, hkp⟩; refine ⟨_, rfl, ?_⟩; have n0_ := mkA (Kd.R_mono (ok' := fun k_ => some k_ ≠ (v369 : Value).ownBlock ∧ some k_ ≠ (.slice Ao27 t362.length co27 : Value).ownBlock ∧ some k_ ≠ (.slice Ao45 t374.length co45 : Value).ownBlock) (Kd.R_keptB (HO_10.out) hkp (fun k_ hk_ hs_ => (hk_.1.2) hs_)) (fun k_ hk_ => ⟨hk_.1.1.1, hk_.1.1.2, hk_.1.2⟩)); have n1_ := mkA (Kd.R_mono (ok' := fun k_ => some k_ ≠ (v358 : Value).ownBlock ∧ some k_ ≠ (.slice Ao27 t362.length co27 : Value).ownBlock ∧ some k_ ≠ (.slice Ao45 t374.length co45 : Value).ownBlock) (Kd.R_keptB (HO_13.out) hkp (fun k_ hk_ hs_ => (hk_.1.2) hs_)) (fun k_ hk_ => ⟨hk_.1.1.1, hk_.1.1.2, hk_.1.2⟩)); have n2_ := mkA (Kd.R_reok rfl hy0 (fun k_ e_ => HO_368001.out.1 k_ e_)); have n3_ := mkA (blk_kept (bl_ BK349.out) hkp (fun hs_ => (fun e_ => (Kd.R_ne HO_368001.out BK349.out (by decide)) e_) hs_)); have n4_ := mkA (blk_kept (bl_ BK367.out) hkp (fun hs_ => (fun e_ => (Kd.R_ne HO_368001.out BK367.out (by decide)) e_) hs_)); have n5_ := mkA (Kd.R_mono (ok' := fun k_ => some k_ ≠ (v358 : Value).ownBlock ∧ some k_ ≠ (v369 : Value).ownBlock ∧ some k_ ≠ (.slice Ao27 t362.length co27 : Value).ownBlock) (Kd.R_keptB (HO376.out) hkp (fun k_ hk_ hs_ => (hk_.2) hs_)) (fun k_ hk_ => ⟨hk_.1.1.1.2, hk_.1.1.2, hk_.1.2⟩)); have n6_ := mkA (hb); clear HO_10; clear HO_13; clear HO_368001; clear BK349; clear BK367; clear HO376; clear HB; have HO_10 := n0_; have HO_13 := n1_; have HO_368001 := n2_; have BK349 := n3_; have BK367 := n4_; have HO376 := n5_; have HB := n6_; clear n0_ n1_ n2_ n3_ n4_ n5_ n6_; (try clear hb); (try clear hkp); (try clear hy0)))
       (try simp only [Act.put, sA, sB, sC])
       go_cut [73] (fun v73 wc => ∃ (kq : Nat) (x73_41 : Bool), v73 = .bool x73_41 ∧ Aside0 (laws_FnExactLaidCells.j1 kq a1 a2 a3 t357 t360 t368 x73_41 a0_0 l0_1 a0_2 a0_3 = some r) ∧ Aside0 (kq ≤ kj13) ∧ Aside0 (Kd.R k105 105 wc w.heap.size (fun k_ => some k_ ≠ (v369 : Value).ownBlock ∧ some k_ ≠ ((.slice Ao27 t362.length co27) : Value).ownBlock) v358 t357) ∧ Aside0 (Kd.R k105 105 wc w.heap.size (fun k_ => some k_ ≠ (v358 : Value).ownBlock ∧ some k_ ≠ ((.slice Ao27 t362.length co27) : Value).ownBlock) v369 t368) ∧ Aside0 (Kd.R k105 105 wc w.heap.size (fun k_ => some k_ ≠ (v358 : Value).ownBlock ∧ some k_ ≠ (v369 : Value).ownBlock) (.slice Ao27 t362.length co27) t381) ∧ Aside0 (wc.heap[gb349]? = some (.cells #[.string a0_0, (.slice A0_1 l0_1.length c0_1), .int .i64 a0_2, .bool a0_3] 47 (0, 0))) ∧ Aside0 (wc.heap[gb367]? = some (.cells #[.string t361, (.slice Ao27 t362.length co27), .int .i64 t365, .bool t366] 53 (0, 0))) ∧ Aside0 (Below w.heap.size w wc))
       case first =>
        have H := HC42.out
        clear HC42
        by_cases c50 : t380 < 0
        · rw [if_pos c50] at H
          have c50b0 : decide (t380 < 0) = true := decide_eq_true c50
          clear c50
          (first | rw [c50b0] | (simp only [i64_w, i32_w]; rw [c50b0]) | skip)
          have H' := mkA H
          clear H
          go_wp2
          go_meet
          case rel => exact ⟨_, (true), (by first | rfl | (simp; done) | (simp [*]; done) | (simp [i64_w, i32_w]; done)), H', ⟨by have := HJ13.out; first | omega | exact Nat.le_refl _⟩, ⟨by (with_reducible repeat (first | apply Kd.R_alloc | apply Kd.R_drewN | apply Kd.R_drew)); exact Kd.R_mono HO_10.out (fun _ hk => ⟨hk.1, hk.2.1⟩)⟩, ⟨by (with_reducible repeat (first | apply Kd.R_alloc | apply Kd.R_drewN | apply Kd.R_drew)); exact Kd.R_mono HO_13.out (fun _ hk => ⟨hk.1, hk.2.1⟩)⟩, ⟨by (with_reducible repeat (first | apply Kd.R_alloc | apply Kd.R_drewN | apply Kd.R_drew)); exact Kd.R_mono HO_368001.out (fun _ hk => ⟨hk.1.1, hk.1.2⟩)⟩, ⟨by (with_reducible repeat (first | refine blk_drewN ?_ _ | refine blk_drew ?_ | refine blk_alloc ?_ _)); exact BK349.out⟩, ⟨by (with_reducible repeat (first | refine blk_drewN ?_ _ | refine blk_drew ?_ | refine blk_alloc ?_ _)); exact BK367.out⟩, ⟨by repeat (first | (with_reducible first | exact HB.out | apply below_alloc | apply pw_below_drewN | apply below_drew1 | refine below_set ?_ GE349.out | refine below_set ?_ GE367.out) | exact HB.out)⟩⟩
        · rw [if_neg c50] at H
          have c50b0 : decide (t380 < 0) = false := decide_eq_false c50
          clear c50
          (first | rw [c50b0] | (simp only [i64_w, i32_w]; rw [c50b0]) | skip)
          replace H := Option.bind_eq_some_iff.mp H
          obtain ⟨t382, A510, H⟩ := H
          replace H : (if t382 = true then (laws_FnExactLaidCells.j1 kj13 a1 a2 a3 t357 t360 t368 (t371 != t360) a0_0 l0_1 a0_2 a0_3) else (laws_FnExactLaidCells.j1 kj13 a1 a2 a3 t357 t360 t368 true a0_0 l0_1 a0_2 a0_3)) = some r := H
          have A51 := mkA A510
          clear A510
          by_cases c52 : t382 = true
          · subst c52
            have H1 : (laws_FnExactLaidCells.j1 kj13 a1 a2 a3 t357 t360 t368 (t371 != t360) a0_0 l0_1 a0_2 a0_3) = some r := by rw [if_pos rfl] at H; exact H
            clear H
            have H := H1
            clear H1
            have H' := mkA H
            clear H
            obtain ⟨Ao53, co53, eo53⟩ := Kd.R_slice HO_13.out
            subst eo53
            obtain ⟨Ao54, co54, eo54⟩ := Kd.R_slice HO_10.out
            subst eo54
            go_wp2_with (first | (go_at_call 44; (with_reducible refine (laws_eqPointS.calls kj13 _ _ t368 _ _ t357 true _ ?side1 ?side2 ?side3 ?side4 A51.out).mono ?_); (case side1 => repeat (first | exact (Kd.R_reads' HO_13.out).2.2 | (with_reducible refine Kd.C_alloc ?_ _) | (with_reducible refine Kd.C_drewN ?_ _) | (with_reducible refine Kd.C_drew ?_))); (case side2 => exact (Kd.R_reads' HO_13.out).2.1); (case side3 => repeat (first | exact (Kd.R_reads' HO_10.out).2.2 | (with_reducible refine Kd.C_alloc ?_ _) | (with_reducible refine Kd.C_drewN ?_ _) | (with_reducible refine Kd.C_drew ?_))); (case side4 => exact (Kd.R_reads' HO_10.out).2.1); rintro e w55 ⟨rfl, hb⟩; have n0_ := mkA (Kd.R_below (by (with_reducible repeat (first | apply Kd.R_alloc | apply Kd.R_drewN | apply Kd.R_drew)); exact HO_10.out) hb); have n1_ := mkA (Kd.R_below (by (with_reducible repeat (first | apply Kd.R_alloc | apply Kd.R_drewN | apply Kd.R_drew)); exact HO_13.out) hb); have n2_ := mkA (Kd.R_below (by (with_reducible repeat (first | apply Kd.R_alloc | apply Kd.R_drewN | apply Kd.R_drew)); exact HO_368001.out) hb); have n3_ := mkA (Kd.R_below (by (with_reducible repeat (first | apply Kd.R_alloc | apply Kd.R_drewN | apply Kd.R_drew)); exact HO376.out) hb); have n4_ := mkA (blk_below (g := gb349) (o := .cells #[.string a0_0, .slice A0_1 l0_1.length c0_1, .int .i64 a0_2, .bool a0_3] 47 (0, 0)) (bl_ BK349.out) hb); have n5_ := mkA (blk_below (g := gb367) (o := .cells #[.string t361, .slice Ao27 t362.length co27, .int .i64 t365, .bool t366] 53 (0, 0)) (bl_ BK367.out) hb); have n6_ := mkA (below_step (bs2_ HB.out GE349.out GE367.out) hb); clear HO_10; clear HO_13; clear HO_368001; clear HO376; clear BK349; clear BK367; clear HB; have HO_10 := n0_; have HO_13 := n1_; have HO_368001 := n2_; have HO376 := n3_; have BK349 := n4_; have BK367 := n5_; have HB := n6_; clear n0_ n1_ n2_ n3_ n4_ n5_ n6_; (try clear hb); (try clear hb2); (try clear hk); (try clear hi)))
            go_meet
            case rel => exact ⟨_, ((t371 != t360)), (by first | rfl | (simp; done) | (simp [*]; done) | (simp [i64_w, i32_w]; done)), H', ⟨by have := HJ13.out; first | omega | exact Nat.le_refl _⟩, ⟨by (with_reducible repeat (first | apply Kd.R_alloc | apply Kd.R_drewN | apply Kd.R_drew)); exact Kd.R_mono HO_10.out (fun _ hk => ⟨hk.1, hk.2.1⟩)⟩, ⟨by (with_reducible repeat (first | apply Kd.R_alloc | apply Kd.R_drewN | apply Kd.R_drew)); exact Kd.R_mono HO_13.out (fun _ hk => ⟨hk.1, hk.2.1⟩)⟩, ⟨by (with_reducible repeat (first | apply Kd.R_alloc | apply Kd.R_drewN | apply Kd.R_drew)); exact Kd.R_mono HO_368001.out (fun _ hk => ⟨hk.1.1, hk.1.2⟩)⟩, ⟨by (with_reducible repeat (first | refine blk_drewN ?_ _ | refine blk_drew ?_ | refine blk_alloc ?_ _)); exact BK349.out⟩, ⟨by (with_reducible repeat (first | refine blk_drewN ?_ _ | refine blk_drew ?_ | refine blk_alloc ?_ _)); exact BK367.out⟩, ⟨by repeat (first | (with_reducible first | exact HB.out | apply below_alloc | apply pw_below_drewN | apply below_drew1 | refine below_set ?_ GE349.out | refine below_set ?_ GE367.out) | exact HB.out)⟩⟩
          · replace c52 := Bool.eq_false_iff.mpr c52
            subst c52
            have H1 : (laws_FnExactLaidCells.j1 kj13 a1 a2 a3 t357 t360 t368 true a0_0 l0_1 a0_2 a0_3) = some r := by rw [if_neg (show ¬ (false = true) by decide)] at H; exact H
            clear H
            have H := H1
            clear H1
            have H' := mkA H
            clear H
            obtain ⟨Ao56, co56, eo56⟩ := Kd.R_slice HO_13.out
            subst eo56
            obtain ⟨Ao57, co57, eo57⟩ := Kd.R_slice HO_10.out
            subst eo57
            go_wp2_with (first | (go_at_call 44; (with_reducible refine (laws_eqPointS.calls kj13 _ _ t368 _ _ t357 false _ ?side1 ?side2 ?side3 ?side4 A51.out).mono ?_); (case side1 => repeat (first | exact (Kd.R_reads' HO_13.out).2.2 | (with_reducible refine Kd.C_alloc ?_ _) | (with_reducible refine Kd.C_drewN ?_ _) | (with_reducible refine Kd.C_drew ?_))); (case side2 => exact (Kd.R_reads' HO_13.out).2.1); (case side3 => repeat (first | exact (Kd.R_reads' HO_10.out).2.2 | (with_reducible refine Kd.C_alloc ?_ _) | (with_reducible refine Kd.C_drewN ?_ _) | (with_reducible refine Kd.C_drew ?_))); (case side4 => exact (Kd.R_reads' HO_10.out).2.1); rintro e w58 ⟨rfl, hb⟩; have n0_ := mkA (Kd.R_below (by (with_reducible repeat (first | apply Kd.R_alloc | apply Kd.R_drewN | apply Kd.R_drew)); exact HO_10.out) hb); have n1_ := mkA (Kd.R_below (by (with_reducible repeat (first | apply Kd.R_alloc | apply Kd.R_drewN | apply Kd.R_drew)); exact HO_13.out) hb); have n2_ := mkA (Kd.R_below (by (with_reducible repeat (first | apply Kd.R_alloc | apply Kd.R_drewN | apply Kd.R_drew)); exact HO_368001.out) hb); have n3_ := mkA (Kd.R_below (by (with_reducible repeat (first | apply Kd.R_alloc | apply Kd.R_drewN | apply Kd.R_drew)); exact HO376.out) hb); have n4_ := mkA (blk_below (g := gb349) (o := .cells #[.string a0_0, .slice A0_1 l0_1.length c0_1, .int .i64 a0_2, .bool a0_3] 47 (0, 0)) (bl_ BK349.out) hb); have n5_ := mkA (blk_below (g := gb367) (o := .cells #[.string t361, .slice Ao27 t362.length co27, .int .i64 t365, .bool t366] 53 (0, 0)) (bl_ BK367.out) hb); have n6_ := mkA (below_step (bs2_ HB.out GE349.out GE367.out) hb); clear HO_10; clear HO_13; clear HO_368001; clear HO376; clear BK349; clear BK367; clear HB; have HO_10 := n0_; have HO_13 := n1_; have HO_368001 := n2_; have HO376 := n3_; have BK349 := n4_; have BK367 := n5_; have HB := n6_; clear n0_ n1_ n2_ n3_ n4_ n5_ n6_; (try clear hb); (try clear hb2); (try clear hk); (try clear hi)))
            go_meet
            case rel => exact ⟨_, (true), (by first | rfl | (simp; done) | (simp [*]; done) | (simp [i64_w, i32_w]; done)), H', ⟨by have := HJ13.out; first | omega | exact Nat.le_refl _⟩, ⟨by (with_reducible repeat (first | apply Kd.R_alloc | apply Kd.R_drewN | apply Kd.R_drew)); exact Kd.R_mono HO_10.out (fun _ hk => ⟨hk.1, hk.2.1⟩)⟩, ⟨by (with_reducible repeat (first | apply Kd.R_alloc | apply Kd.R_drewN | apply Kd.R_drew)); exact Kd.R_mono HO_13.out (fun _ hk => ⟨hk.1, hk.2.1⟩)⟩, ⟨by (with_reducible repeat (first | apply Kd.R_alloc | apply Kd.R_drewN | apply Kd.R_drew)); exact Kd.R_mono HO_368001.out (fun _ hk => ⟨hk.1.1, hk.1.2⟩)⟩, ⟨by (with_reducible repeat (first | refine blk_drewN ?_ _ | refine blk_drew ?_ | refine blk_alloc ?_ _)); exact BK349.out⟩, ⟨by (with_reducible repeat (first | refine blk_drewN ?_ _ | refine blk_drew ?_ | refine blk_alloc ?_ _)); exact BK367.out⟩, ⟨by repeat (first | (with_reducible first | exact HB.out | apply below_alloc | apply pw_below_drewN | apply below_drew1 | refine below_set ?_ GE349.out | refine below_set ?_ GE367.out) | exact HB.out)⟩⟩
       case rest =>
        clear HC42
        try clear c1
        try clear c2
        try clear p2
        try clear c3
        try clear c4
        try clear c5
        try clear c6
        try clear c6b0
        try clear c10
        try clear c25
        try clear c30
        try clear c33
        try clear c35
        try clear c37
        try clear c38
        try clear c39
        try clear c40
        try clear c42
        try clear c43
        try clear c44
        try clear c47
        try clear c50
        try clear c50b0
        try clear c52
        try clear hcz16_0
        try clear hcz16_1
        try clear hcz16_2
        try clear hcz16_3
        try clear hcz18_0
        try clear hcz18_1
        try clear hcz18_2
        try clear hcz18_3
        try clear hcz22_0
        try clear hcz22_1
        try clear hcz22_2
        try clear hcz22_3
        try clear hcz26_0
        try clear hcz26_1
        try clear hcz26_2
        try clear hcz26_3
        try clear hcz48_0
        try clear hcz48_1
        try clear hcz48_2
        try clear hcz48_3
        try clear hcz8_0
        try clear hcz8_1
        try clear hcz8_2
        try clear hcz8_3
        try clear hfz16_0
        try clear hfz16_1
        try clear hfz16_2
        try clear hfz16_3
        try clear hfz18_0
        try clear hfz18_1
        try clear hfz18_2
        try clear hfz18_3
        try clear hfz22_0
        try clear hfz22_1
        try clear hfz22_2
        try clear hfz22_3
        try clear hfz26_0
        try clear hfz26_1
        try clear hfz26_2
        try clear hfz26_3
        try clear hfz48_0
        try clear hfz48_1
        try clear hfz48_2
        try clear hfz48_3
        try clear hfz8_0
        try clear hfz8_1
        try clear hfz8_2
        try clear hfz8_3
        try clear p2
        obtain ⟨kq, x73_41, rfl, HA, HJ41, HO_10, HO_13, HO_368001, BK349, BK367, HB⟩ := hcut
        have hl368001_41 := (Kd.R_reads' HO_368001.out).1
        rw [hl368001_41] at HO_368001
        (try simp only [hl368001_41])
        (try simp only [hl368001_41] at BK349)
        (try simp only [hl368001_41] at BK367)
        (try simp only [hl368001_41] at HO_10)
        (try simp only [hl368001_41] at HO_13)
        cases kq with
        | zero => exact absurd HA.out (by simp [laws_FnExactLaidCells.j1])
        | succ kj41 =>
         have H := HA.out
         clear HA
         simp only [laws_FnExactLaidCells.j1] at H
         by_cases c59 : x73_41 = true
         · subst c59
           have H1 : (some false) = some r := by rw [if_pos rfl] at H; exact H
           clear H
           have H := H1
           clear H1
           obtain rfl := Option.some.inj H
           go_wp2
           go_ret
           exact ⟨by first | rfl | (simp [errW_none, errW_some] <;> rfl) | (simp [*, errW_none, errW_some] <;> rfl), by repeat (first | (with_reducible first | exact HB.out | apply below_alloc | apply pw_below_drewN | apply below_drew1 | refine below_set ?_ GE349.out | refine below_set ?_ GE367.out) | exact HB.out)⟩
         · replace c59 := Bool.eq_false_iff.mpr c59
           subst c59
           have H1 : ((laws_markPointS.f kj41 t368 1).bind fun bt383 => ((laws_heldPointS.f kj41 bt383.2 1).bind fun t385 => (if t385 < 0 then (some false) else (if t385 = bt383.1 then ((laws_toPiece.f kj41 a0_0 l0_1 a0_2 a0_3).bind fun bt386 => ((impl_LaidCells.f kj41 bt386.1 bt386.2.1 bt386.2.2.1 bt386.2.2.2 a1 a2 a3).bind fun bt392 => ((laws_eqPointS.f kj41 bt392.1 t357).bind fun t396 => (if t396 = true then (laws_FnExactLaidCells.j2 kj41 bt383.2 bt383.1 (bt392.2 != t360)) else (laws_FnExactLaidCells.j2 kj41 bt383.2 bt383.1 true))))) else (some false))))) = some r := by rw [if_neg (show ¬ (false = true) by decide)] at H; exact H
           clear H
           have H := H1
           clear H1
           replace H := Option.bind_eq_some_iff.mp H
           obtain ⟨⟨t383, t384⟩, A600, H⟩ := H
           replace H : ((laws_heldPointS.f kj41 t384 1).bind fun t385 => (if t385 < 0 then (some false) else (if t385 = t383 then ((laws_toPiece.f kj41 a0_0 l0_1 a0_2 a0_3).bind fun bt386 => ((impl_LaidCells.f kj41 bt386.1 bt386.2.1 bt386.2.2.1 bt386.2.2.2 a1 a2 a3).bind fun bt392 => ((laws_eqPointS.f kj41 bt392.1 t357).bind fun t396 => (if t396 = true then (laws_FnExactLaidCells.j2 kj41 t384 t383 (bt392.2 != t360)) else (laws_FnExactLaidCells.j2 kj41 t384 t383 true))))) else (some false)))) = some r := H
           have A60 := mkA A600
           clear A600
           replace H := Option.bind_eq_some_iff.mp H
           obtain ⟨t385, A610, H⟩ := H
           replace H : (if t385 < 0 then (some false) else (if t385 = t383 then ((laws_toPiece.f kj41 a0_0 l0_1 a0_2 a0_3).bind fun bt386 => ((impl_LaidCells.f kj41 bt386.1 bt386.2.1 bt386.2.2.1 bt386.2.2.2 a1 a2 a3).bind fun bt392 => ((laws_eqPointS.f kj41 bt392.1 t357).bind fun t396 => (if t396 = true then (laws_FnExactLaidCells.j2 kj41 t384 t383 (bt392.2 != t360)) else (laws_FnExactLaidCells.j2 kj41 t384 t383 true))))) else (some false))) = some r := H
           have A61 := mkA A610
           clear A610
           by_cases c62 : t385 < 0
           · rw [if_pos c62] at H
             have c62b0 : decide (t385 < 0) = true := decide_eq_true c62
             clear c62
             obtain rfl := Option.some.inj H
             obtain ⟨Ao63, co63, eo63⟩ := Kd.R_slice HO_13.out
             subst eo63
             go_wp2_with (first | ((with_reducible refine gate_callee (f := 45) rfl ?_); refine goesL_ (some 76) rfl rfl Try.func45 (by kernel_rfl) rfl #[.slice Ao63 t368.length co63, .int .i64 1] rfl (by (try simp only [List.map_toArray, List.map_cons, List.map_nil]); first | done | rfl | (simp only [List.length_drop, List.length_take]; rfl)) ?_; (with_reducible refine (laws_markPointS.calls kj41 (fun k_ => some k_ = (.slice Ao63 t368.length co63 : Value).ownBlock) (.slice Ao63 t368.length co63) t368 1 t383 t384 w _ ?side1 ?side2 A60.out).mono ?_); (case side1 => repeat (first | (with_reducible first | exact HB.out | apply below_alloc | apply pw_below_drewN | apply below_drew1 | refine below_set ?_ GE349.out | refine below_set ?_ GE367.out) | exact HB.out)); (case side2 => exact Kd.R_tight rfl HO_13.out); rintro e w64 ⟨rfl, hy0, hb, hkp⟩; refine ⟨_, rfl, ?_⟩; have n0_ := mkA (Kd.R_mono (ok' := fun k_ => some k_ ≠ (.slice Ao63 t368.length co63 : Value).ownBlock ∧ some k_ ≠ (.slice Ao27 t381.length co27 : Value).ownBlock) (Kd.R_keptB (HO_10.out) hkp (fun k_ hk_ hs_ => (hk_.1) hs_)) (fun k_ hk_ => ⟨hk_.1.1, hk_.1.2⟩)); have n1_ := mkA (Kd.R_reok rfl hy0 (fun k_ e_ => HO_13.out.1 k_ e_)); have n2_ := mkA (Kd.R_mono (ok' := fun k_ => some k_ ≠ (v358 : Value).ownBlock ∧ some k_ ≠ (.slice Ao63 t368.length co63 : Value).ownBlock) (Kd.R_keptB (HO_368001.out) hkp (fun k_ hk_ hs_ => (hk_.2) hs_)) (fun k_ hk_ => ⟨hk_.1.1, hk_.1.2⟩)); have n3_ := mkA (blk_kept (bl_ BK349.out) hkp (fun hs_ => (fun e_ => (Kd.R_ne HO_13.out BK349.out (by decide)) e_) hs_)); have n4_ := mkA (blk_kept (bl_ BK367.out) hkp (fun hs_ => (fun e_ => (Kd.R_ne HO_13.out BK367.out (by decide)) e_) hs_)); have n5_ := mkA (hb); clear HO_10; clear HO_13; clear HO_368001; clear BK349; clear BK367; clear HB; have HO_10 := n0_; have HO_13 := n1_; have HO_368001 := n2_; have BK349 := n3_; have BK367 := n4_; have HB := n5_; clear n0_ n1_ n2_ n3_ n4_ n5_; (try clear hb); (try clear hkp); (try clear hy0)) | ((with_reducible refine gate_callee (f := 46) rfl ?_); refine goesL_ (some 79) rfl rfl Try.func46 (by kernel_rfl) rfl #[.slice Ao63 t384.length co63, .int .i64 1] rfl (by (try simp only [List.map_toArray, List.map_cons, List.map_nil]); first | done | (rw [show t384.length = t368.length from (Kd.R_reads' HO_13.out).1.symm] <;> rfl) | rfl | (simp only [List.length_drop, List.length_take]; rfl)) ?_; (with_reducible refine (laws_heldPointS.calls kj41 _ _ t384 1 t385 _ ?side1 ?side2 A61.out).mono ?_); (case side1 => repeat (first | exact (Kd.R_reads' HO_13.out).2.2 | (with_reducible refine Kd.C_alloc ?_ _) | (with_reducible refine Kd.C_drewN ?_ _) | (with_reducible refine Kd.C_drew ?_))); (case side2 => rw [show t384.length = t368.length from (Kd.R_reads' HO_13.out).1.symm]; exact (Kd.R_reads' HO_13.out).2.1); rintro e w' ⟨rfl, ⟨nd, rfl⟩⟩; refine ⟨_, rfl, ?_⟩))
             go_ret
             exact ⟨by first | rfl | (simp [errW_none, errW_some] <;> rfl) | (simp [*, errW_none, errW_some] <;> rfl), by repeat (first | (with_reducible first | exact HB.out | apply below_alloc | apply pw_below_drewN | apply below_drew1 | refine below_set ?_ GE349.out | refine below_set ?_ GE367.out) | exact HB.out)⟩
           · rw [if_neg c62] at H
             have c62b0 : decide (t385 < 0) = false := decide_eq_false c62
             clear c62
             by_cases c65 : t385 = t383
             rotate_left
             · rw [if_neg c65] at H
               have c65b0 : (t385 == t383) = false := beq_eq_false_iff_ne.mpr c65
               have c65b1 : (t385 != t383) = true := bne_iff_ne.mpr c65
               obtain rfl := Option.some.inj H
               obtain ⟨Ao88, co88, eo88⟩ := Kd.R_slice HO_13.out
               subst eo88
               go_wp2_with (first | ((with_reducible refine gate_callee (f := 45) rfl ?_); refine goesL_ (some 76) rfl rfl Try.func45 (by kernel_rfl) rfl #[.slice Ao88 t368.length co88, .int .i64 1] rfl (by (try simp only [List.map_toArray, List.map_cons, List.map_nil]); first | done | rfl | (simp only [List.length_drop, List.length_take]; rfl)) ?_; (with_reducible refine (laws_markPointS.calls kj41 (fun k_ => some k_ = (.slice Ao88 t368.length co88 : Value).ownBlock) (.slice Ao88 t368.length co88) t368 1 t383 t384 w _ ?side1 ?side2 A60.out).mono ?_); (case side1 => repeat (first | (with_reducible first | exact HB.out | apply below_alloc | apply pw_below_drewN | apply below_drew1 | refine below_set ?_ GE349.out | refine below_set ?_ GE367.out) | exact HB.out)); (case side2 => exact Kd.R_tight rfl HO_13.out); rintro e w89 ⟨rfl, hy0, hb, hkp⟩; refine ⟨_, rfl, ?_⟩; have n0_ := mkA (Kd.R_mono (ok' := fun k_ => some k_ ≠ (.slice Ao88 t368.length co88 : Value).ownBlock ∧ some k_ ≠ (.slice Ao27 t381.length co27 : Value).ownBlock) (Kd.R_keptB (HO_10.out) hkp (fun k_ hk_ hs_ => (hk_.1) hs_)) (fun k_ hk_ => ⟨hk_.1.1, hk_.1.2⟩)); have n1_ := mkA (Kd.R_reok rfl hy0 (fun k_ e_ => HO_13.out.1 k_ e_)); have n2_ := mkA (Kd.R_mono (ok' := fun k_ => some k_ ≠ (v358 : Value).ownBlock ∧ some k_ ≠ (.slice Ao88 t368.length co88 : Value).ownBlock) (Kd.R_keptB (HO_368001.out) hkp (fun k_ hk_ hs_ => (hk_.2) hs_)) (fun k_ hk_ => ⟨hk_.1.1, hk_.1.2⟩)); have n3_ := mkA (blk_kept (bl_ BK349.out) hkp (fun hs_ => (fun e_ => (Kd.R_ne HO_13.out BK349.out (by decide)) e_) hs_)); have n4_ := mkA (blk_kept (bl_ BK367.out) hkp (fun hs_ => (fun e_ => (Kd.R_ne HO_13.out BK367.out (by decide)) e_) hs_)); have n5_ := mkA (hb); clear HO_10; clear HO_13; clear HO_368001; clear BK349; clear BK367; clear HB; have HO_10 := n0_; have HO_13 := n1_; have HO_368001 := n2_; have BK349 := n3_; have BK367 := n4_; have HB := n5_; clear n0_ n1_ n2_ n3_ n4_ n5_; (try clear hb); (try clear hkp); (try clear hy0)) | ((with_reducible refine gate_callee (f := 46) rfl ?_); refine goesL_ (some 79) rfl rfl Try.func46 (by kernel_rfl) rfl #[.slice Ao88 t384.length co88, .int .i64 1] rfl (by (try simp only [List.map_toArray, List.map_cons, List.map_nil]); first | done | (rw [show t384.length = t368.length from (Kd.R_reads' HO_13.out).1.symm] <;> rfl) | rfl | (simp only [List.length_drop, List.length_take]; rfl)) ?_; (with_reducible refine (laws_heldPointS.calls kj41 _ _ t384 1 t385 _ ?side1 ?side2 A61.out).mono ?_); (case side1 => repeat (first | exact (Kd.R_reads' HO_13.out).2.2 | (with_reducible refine Kd.C_alloc ?_ _) | (with_reducible refine Kd.C_drewN ?_ _) | (with_reducible refine Kd.C_drew ?_))); (case side2 => rw [show t384.length = t368.length from (Kd.R_reads' HO_13.out).1.symm]; exact (Kd.R_reads' HO_13.out).2.1); rintro e w' ⟨rfl, ⟨nd, rfl⟩⟩; refine ⟨_, rfl, ?_⟩))
               go_ret
               exact ⟨by first | rfl | (simp [errW_none, errW_some] <;> rfl) | (simp [*, errW_none, errW_some] <;> rfl), by repeat (first | (with_reducible first | exact HB.out | apply below_alloc | apply pw_below_drewN | apply below_drew1 | refine below_set ?_ GE349.out | refine below_set ?_ GE367.out) | exact HB.out)⟩
             rw [if_pos c65] at H
             have c65b0 : (t385 == t383) = true := beq_iff_eq.mpr c65
             have c65b1 : (t385 != t383) = false := bne_eq_false_iff_eq.mpr c65
             clear c65
             replace H := Option.bind_eq_some_iff.mp H
             obtain ⟨⟨t386, t387, t390, t391⟩, A660, H⟩ := H
             replace H : ((impl_LaidCells.f kj41 t386 t387 t390 t391 a1 a2 a3).bind fun bt392 => ((laws_eqPointS.f kj41 bt392.1 t357).bind fun t396 => (if t396 = true then (laws_FnExactLaidCells.j2 kj41 t384 t383 (bt392.2 != t360)) else (laws_FnExactLaidCells.j2 kj41 t384 t383 true)))) = some r := H
             have A66 := mkA A660
             clear A660
             replace H := Option.bind_eq_some_iff.mp H
             obtain ⟨⟨t392, t395⟩, A670, H⟩ := H
             replace H : ((laws_eqPointS.f kj41 t392 t357).bind fun t396 => (if t396 = true then (laws_FnExactLaidCells.j2 kj41 t384 t383 (t395 != t360)) else (laws_FnExactLaidCells.j2 kj41 t384 t383 true))) = some r := H
             have A67 := mkA A670
             clear A670
             have HC68 := mkA H
             clear H
             obtain ⟨Ao69, co69, eo69⟩ := Kd.R_slice HO_13.out
             subst eo69
             go_upto_region 25 with (first | ((with_reducible refine gate_callee (f := 45) rfl ?_); refine goesL_ (some 76) rfl rfl Try.func45 (by kernel_rfl) rfl #[.slice Ao69 t368.length co69, .int .i64 1] rfl (by (try simp only [List.map_toArray, List.map_cons, List.map_nil]); first | done | rfl | (simp only [List.length_drop, List.length_take]; rfl)) ?_; (with_reducible refine (laws_markPointS.calls kj41 (fun k_ => some k_ = (.slice Ao69 t368.length co69 : Value).ownBlock) (.slice Ao69 t368.length co69) t368 1 t383 t384 w _ ?side1 ?side2 A60.out).mono ?_); (case side1 => repeat (first | (with_reducible first | exact HB.out | apply below_alloc | apply pw_below_drewN | apply below_drew1 | refine below_set ?_ GE349.out | refine below_set ?_ GE367.out) | exact HB.out)); (case side2 => exact Kd.R_tight rfl HO_13.out); rintro e w70 ⟨rfl, hy0, hb, hkp⟩; refine ⟨_, rfl, ?_⟩; have n0_ := mkA (Kd.R_mono (ok' := fun k_ => some k_ ≠ (.slice Ao69 t368.length co69 : Value).ownBlock ∧ some k_ ≠ (.slice Ao27 t381.length co27 : Value).ownBlock) (Kd.R_keptB (HO_10.out) hkp (fun k_ hk_ hs_ => (hk_.1) hs_)) (fun k_ hk_ => ⟨hk_.1.1, hk_.1.2⟩)); have n1_ := mkA (Kd.R_reok rfl hy0 (fun k_ e_ => HO_13.out.1 k_ e_)); have n2_ := mkA (Kd.R_mono (ok' := fun k_ => some k_ ≠ (v358 : Value).ownBlock ∧ some k_ ≠ (.slice Ao69 t368.length co69 : Value).ownBlock) (Kd.R_keptB (HO_368001.out) hkp (fun k_ hk_ hs_ => (hk_.2) hs_)) (fun k_ hk_ => ⟨hk_.1.1, hk_.1.2⟩)); have n3_ := mkA (blk_kept (bl_ BK349.out) hkp (fun hs_ => (fun e_ => (Kd.R_ne HO_13.out BK349.out (by decide)) e_) hs_)); have n4_ := mkA (blk_kept (bl_ BK367.out) hkp (fun hs_ => (fun e_ => (Kd.R_ne HO_13.out BK367.out (by decide)) e_) hs_)); have n5_ := mkA (hb); clear HO_10; clear HO_13; clear HO_368001; clear BK349; clear BK367; clear HB; have HO_10 := n0_; have HO_13 := n1_; have HO_368001 := n2_; have BK349 := n3_; have BK367 := n4_; have HB := n5_; clear n0_ n1_ n2_ n3_ n4_ n5_; (try clear hb); (try clear hkp); (try clear hy0)) | ((with_reducible refine gate_callee (f := 46) rfl ?_); refine goesL_ (some 79) rfl rfl Try.func46 (by kernel_rfl) rfl #[.slice Ao69 t384.length co69, .int .i64 1] rfl (by (try simp only [List.map_toArray, List.map_cons, List.map_nil]); first | done | (rw [show t384.length = t368.length from (Kd.R_reads' HO_13.out).1.symm] <;> rfl) | rfl | (simp only [List.length_drop, List.length_take]; rfl)) ?_; (with_reducible refine (laws_heldPointS.calls kj41 _ _ t384 1 t385 _ ?side1 ?side2 A61.out).mono ?_); (case side1 => repeat (first | exact (Kd.R_reads' HO_13.out).2.2 | (with_reducible refine Kd.C_alloc ?_ _) | (with_reducible refine Kd.C_drewN ?_ _) | (with_reducible refine Kd.C_drew ?_))); (case side2 => rw [show t384.length = t368.length from (Kd.R_reads' HO_13.out).1.symm]; exact (Kd.R_reads' HO_13.out).2.1); rintro e w' ⟨rfl, ⟨nd, rfl⟩⟩; refine ⟨_, rfl, ?_⟩; have hnb71 := NB349_367.out; have hnc71 := NB367_349.out; have hcz72_0 : w70.cell? ⟨gb349, 0, none⟩ = some (.string a0_0) := (blk_cell BK349.out 0).trans rfl; have hcz72_1 : w70.cell? ⟨gb349, 1, none⟩ = some (.slice A0_1 l0_1.length c0_1) := (blk_cell BK349.out 1).trans rfl; have hcz72_2 : w70.cell? ⟨gb349, 2, none⟩ = some (.int .i64 a0_2) := (blk_cell BK349.out 2).trans rfl; have hcz72_3 : w70.cell? ⟨gb349, 3, none⟩ = some (.bool a0_3) := (blk_cell BK349.out 3).trans rfl; have hfz72_0 := blk_frozen BK349.out 0; have hfz72_1 := blk_frozen BK349.out 1; have hfz72_2 := blk_frozen BK349.out 2; have hfz72_3 := blk_frozen BK349.out 3) | ((with_reducible refine gate_callee (f := 35) rfl ?_); refine goesL_ (some 87) rfl rfl Try.func35 (by kernel_rfl) rfl #[.agg #[.string a0_0, .slice A0_1 l0_1.length c0_1, .int .i64 a0_2, .bool a0_3]] rfl (by (try simp only [List.map_toArray, List.map_cons, List.map_nil]); first | done | rfl | (simp only [List.length_drop, List.length_take]; rfl)) ?_; (with_reducible refine (laws_toPiece.calls kj41 a0_0 _ _ l0_1 a0_2 a0_3 t386 t387 t390 t391 _ ?side1 ?side2 A66.out).mono ?_); (case side1 => repeat (first | exact (Kd.C_below HR0_1.out (bs2_ HB.out GE349.out GE367.out)) | (with_reducible refine Kd.C_alloc ?_ _) | (with_reducible refine Kd.C_drewN ?_ _) | (with_reducible refine Kd.C_drew ?_))); (case side2 => exact HC0_1.out); rintro e w73 ⟨v388, rfl, ho0, hb⟩; refine ⟨_, rfl, ?_⟩; have n0_ := mkA (Kd.R_elder' (by (with_reducible repeat (first | apply Kd.R_alloc | apply Kd.R_drewN | apply Kd.R_drew)); exact HO_10.out) (Kd.R_base ho0) hb); have n1_ := mkA (Kd.R_elder' (by (with_reducible repeat (first | apply Kd.R_alloc | apply Kd.R_drewN | apply Kd.R_drew)); exact HO_13.out) (Kd.R_base ho0) hb); have n2_ := mkA (Kd.R_elder' (by (with_reducible repeat (first | apply Kd.R_alloc | apply Kd.R_drewN | apply Kd.R_drew)); exact HO_368001.out) (Kd.R_base ho0) hb); have n3_ := mkA (Kd.R_lower (Kd.R_new' (Kd.R_new' (Kd.R_new' ho0 (Kd.R_lt (by (with_reducible repeat (first | apply Kd.R_alloc | apply Kd.R_drewN | apply Kd.R_drew)); exact HO_10.out))) (Kd.R_lt (by (with_reducible repeat (first | apply Kd.R_alloc | apply Kd.R_drewN | apply Kd.R_drew)); exact HO_13.out))) (Kd.R_lt (by (with_reducible repeat (first | apply Kd.R_alloc | apply Kd.R_drewN | apply Kd.R_drew)); exact HO_368001.out))) (below_size (bs2_ HB.out GE349.out GE367.out))); have n4_ := mkA (blk_below (g := gb349) (o := .cells #[.string a0_0, .slice A0_1 l0_1.length c0_1, .int .i64 a0_2, .bool a0_3] 47 (0, 0)) (bl_ BK349.out) hb); have n5_ := mkA (blk_below (g := gb367) (o := .cells #[.string t361, .slice Ao27 t381.length co27, .int .i64 t365, .bool t366] 53 (0, 0)) (bl_ BK367.out) hb); have n6_ := mkA (below_step (bs2_ HB.out GE349.out GE367.out) hb); clear HO_10; clear HO_13; clear HO_368001; clear BK349; clear BK367; clear HB; have HO_10 := n0_; have HO_13 := n1_; have HO_368001 := n2_; have HO389 := n3_; have BK349 := n4_; have BK367 := n5_; have HB := n6_; clear n0_ n1_ n2_ n3_ n4_ n5_ n6_; (try clear hb); (try clear hb2); (try clear hk); (try clear hi); (try clear ho0); obtain ⟨Ao74, co74, eo74⟩ := Kd.R_slice HO389.out; subst eo74) | ((with_reducible refine gate_callee (f := 43) rfl ?_); refine goesL_ (some 91) rfl rfl Try.func43 (by kernel_rfl) rfl #[.agg #[.string t386, .slice Ao74 t387.length co74, .int .i64 t390, .bool t391], .int .i64 a1, .int .i64 a2, .int .i64 a3] rfl (by (try simp only [List.map_toArray, List.map_cons, List.map_nil]); first | done | rfl | (simp only [List.length_drop, List.length_take]; rfl)) ?_; (with_reducible refine (impl_LaidCells.calls kj41 t386 _ _ t387 t390 t391 a1 a2 a3 t392 t395 _ ?side1 ?side2 A67.out).mono ?_); (case side1 => repeat (first | exact (Kd.R_reads' HO389.out).2.2 | (with_reducible refine Kd.C_alloc ?_ _) | (with_reducible refine Kd.C_drewN ?_ _) | (with_reducible refine Kd.C_drew ?_))); (case side2 => exact (Kd.R_reads' HO389.out).2.1); rintro e w75 ⟨v393, rfl, ho0, hb⟩; refine ⟨_, rfl, ?_⟩; have n0_ := mkA (Kd.R_elder' (by (with_reducible repeat (first | apply Kd.R_alloc | apply Kd.R_drewN | apply Kd.R_drew)); exact HO_10.out) (Kd.R_base ho0) hb); have n1_ := mkA (Kd.R_elder' (by (with_reducible repeat (first | apply Kd.R_alloc | apply Kd.R_drewN | apply Kd.R_drew)); exact HO_13.out) (Kd.R_base ho0) hb); have n2_ := mkA (Kd.R_elder' (by (with_reducible repeat (first | apply Kd.R_alloc | apply Kd.R_drewN | apply Kd.R_drew)); exact HO_368001.out) (Kd.R_base ho0) hb); have n3_ := mkA (Kd.R_elder' (by (with_reducible repeat (first | apply Kd.R_alloc | apply Kd.R_drewN | apply Kd.R_drew)); exact HO389.out) (Kd.R_base ho0) hb); have n4_ := mkA (Kd.R_lower (Kd.R_new' (Kd.R_new' (Kd.R_new' (Kd.R_new' ho0 (Kd.R_lt (by (with_reducible repeat (first | apply Kd.R_alloc | apply Kd.R_drewN | apply Kd.R_drew)); exact HO_10.out))) (Kd.R_lt (by (with_reducible repeat (first | apply Kd.R_alloc | apply Kd.R_drewN | apply Kd.R_drew)); exact HO_13.out))) (Kd.R_lt (by (with_reducible repeat (first | apply Kd.R_alloc | apply Kd.R_drewN | apply Kd.R_drew)); exact HO_368001.out))) (Kd.R_lt (by (with_reducible repeat (first | apply Kd.R_alloc | apply Kd.R_drewN | apply Kd.R_drew)); exact HO389.out))) (below_size (bs2_ HB.out GE349.out GE367.out))); have n5_ := mkA (blk_below (g := gb349) (o := .cells #[.string a0_0, .slice A0_1 l0_1.length c0_1, .int .i64 a0_2, .bool a0_3] 47 (0, 0)) (bl_ BK349.out) hb); have n6_ := mkA (blk_below (g := gb367) (o := .cells #[.string t361, .slice Ao27 t381.length co27, .int .i64 t365, .bool t366] 53 (0, 0)) (bl_ BK367.out) hb); have n7_ := mkA (below_step (bs2_ HB.out GE349.out GE367.out) hb); clear HO_10; clear HO_13; clear HO_368001; clear HO389; clear BK349; clear BK367; clear HB; have HO_10 := n0_; have HO_13 := n1_; have HO_368001 := n2_; have HO389 := n3_; have HO394 := n4_; have BK349 := n5_; have BK367 := n6_; have HB := n7_; clear n0_ n1_ n2_ n3_ n4_ n5_ n6_ n7_; (try clear hb); (try clear hb2); (try clear hk); (try clear hi); (try clear ho0)))
             (try simp only [Act.put, sA, sB, sC])
             go_cut [102] (fun v102 wc => ∃ (kq : Nat) (x102_67 : Bool), v102 = .bool x102_67 ∧ Aside0 (laws_FnExactLaidCells.j2 kq t384 t383 x102_67 = some r) ∧ Aside0 (kq ≤ kj41) ∧ Aside0 (Kd.R k105 105 wc w.heap.size (fun k_ => some k_ ≠ ((.slice Ao27 t381.length co27) : Value).ownBlock) (.slice Ao69 t368.length co69) t384) ∧ Aside0 (Kd.R k105 105 wc w.heap.size (fun k_ => some k_ ≠ ((.slice Ao69 t368.length co69) : Value).ownBlock) (.slice Ao27 t381.length co27) t381) ∧ Aside0 (wc.heap[gb349]? = some (.cells #[.string a0_0, (.slice A0_1 l0_1.length c0_1), .int .i64 a0_2, .bool a0_3] 47 (0, 0))) ∧ Aside0 (wc.heap[gb367]? = some (.cells #[.string t361, (.slice Ao27 t381.length co27), .int .i64 t365, .bool t366] 53 (0, 0))) ∧ Aside0 (Below w.heap.size w wc))
             case first =>
              have H := HC68.out
              clear HC68
              replace H := Option.bind_eq_some_iff.mp H
              obtain ⟨t396, A760, H⟩ := H
              replace H : (if t396 = true then (laws_FnExactLaidCells.j2 kj41 t384 t383 (t395 != t360)) else (laws_FnExactLaidCells.j2 kj41 t384 t383 true)) = some r := H
              have A76 := mkA A760
              clear A760
              by_cases c77 : t396 = true
              · subst c77
                have H1 : (laws_FnExactLaidCells.j2 kj41 t384 t383 (t395 != t360)) = some r := by rw [if_pos rfl] at H; exact H
                clear H
                have H := H1
                clear H1
                have H' := mkA H
                clear H
                obtain ⟨Ao78, co78, eo78⟩ := Kd.R_slice HO394.out
                subst eo78
                obtain ⟨Ao79, co79, eo79⟩ := Kd.R_slice HO_10.out
                subst eo79
                go_wp2_with (first | ((with_reducible refine gate_callee (f := 44) rfl ?_); refine goesL_ (some 96) rfl rfl Try.func44 (by kernel_rfl) rfl #[.slice Ao78 t392.length co78, .slice Ao79 t357.length co79] rfl (by (try simp only [List.map_toArray, List.map_cons, List.map_nil]); first | done | rfl | (simp only [List.length_drop, List.length_take]; rfl)) ?_; (with_reducible refine (laws_eqPointS.calls kj41 _ _ t392 _ _ t357 true _ ?side1 ?side2 ?side3 ?side4 A76.out).mono ?_); (case side1 => repeat (first | exact (Kd.R_reads' HO394.out).2.2 | (with_reducible refine Kd.C_alloc ?_ _) | (with_reducible refine Kd.C_drewN ?_ _) | (with_reducible refine Kd.C_drew ?_))); (case side2 => exact (Kd.R_reads' HO394.out).2.1); (case side3 => repeat (first | exact (Kd.R_reads' HO_10.out).2.2 | (with_reducible refine Kd.C_alloc ?_ _) | (with_reducible refine Kd.C_drewN ?_ _) | (with_reducible refine Kd.C_drew ?_))); (case side4 => exact (Kd.R_reads' HO_10.out).2.1); rintro e w80 ⟨rfl, hb⟩; refine ⟨_, rfl, ?_⟩; have n0_ := mkA (Kd.R_below (by (with_reducible repeat (first | apply Kd.R_alloc | apply Kd.R_drewN | apply Kd.R_drew)); exact HO_10.out) hb); have n1_ := mkA (Kd.R_below (by (with_reducible repeat (first | apply Kd.R_alloc | apply Kd.R_drewN | apply Kd.R_drew)); exact HO_13.out) hb); have n2_ := mkA (Kd.R_below (by (with_reducible repeat (first | apply Kd.R_alloc | apply Kd.R_drewN | apply Kd.R_drew)); exact HO_368001.out) hb); have n3_ := mkA (Kd.R_below (by (with_reducible repeat (first | apply Kd.R_alloc | apply Kd.R_drewN | apply Kd.R_drew)); exact HO389.out) hb); have n4_ := mkA (Kd.R_below (by (with_reducible repeat (first | apply Kd.R_alloc | apply Kd.R_drewN | apply Kd.R_drew)); exact HO394.out) hb); have n5_ := mkA (blk_below (g := gb349) (o := .cells #[.string a0_0, .slice A0_1 l0_1.length c0_1, .int .i64 a0_2, .bool a0_3] 47 (0, 0)) (bl_ BK349.out) hb); have n6_ := mkA (blk_below (g := gb367) (o := .cells #[.string t361, .slice Ao27 t381.length co27, .int .i64 t365, .bool t366] 53 (0, 0)) (bl_ BK367.out) hb); have n7_ := mkA (below_step (bs2_ HB.out GE349.out GE367.out) hb); clear HO_10; clear HO_13; clear HO_368001; clear HO389; clear HO394; clear BK349; clear BK367; clear HB; have HO_10 := n0_; have HO_13 := n1_; have HO_368001 := n2_; have HO389 := n3_; have HO394 := n4_; have BK349 := n5_; have BK367 := n6_; have HB := n7_; clear n0_ n1_ n2_ n3_ n4_ n5_ n6_ n7_; (try clear hb); (try clear hb2); (try clear hk); (try clear hi)))
                go_meet
                case rel => exact ⟨_, ((t395 != t360)), (by first | rfl | (simp; done) | (simp [*]; done) | (simp [i64_w, i32_w]; done)), H', ⟨by have := HJ13.out; have := HJ41.out; first | omega | exact Nat.le_refl _⟩, ⟨by (try simp only [hl368001_41]); (with_reducible repeat (first | apply Kd.R_alloc | apply Kd.R_drewN | apply Kd.R_drew)); exact Kd.R_mono HO_13.out (fun _ hk => hk.1.1.2)⟩, ⟨by (try simp only [hl368001_41]); (with_reducible repeat (first | apply Kd.R_alloc | apply Kd.R_drewN | apply Kd.R_drew)); exact Kd.R_mono HO_368001.out (fun _ hk => hk.1.1.2)⟩, ⟨by (try simp only [hl368001_41]); (with_reducible repeat (first | refine blk_drewN ?_ _ | refine blk_drew ?_ | refine blk_alloc ?_ _)); exact BK349.out⟩, ⟨by (try simp only [hl368001_41]); (with_reducible repeat (first | refine blk_drewN ?_ _ | refine blk_drew ?_ | refine blk_alloc ?_ _)); exact BK367.out⟩, ⟨by repeat (first | (with_reducible first | exact HB.out | apply below_alloc | apply pw_below_drewN | apply below_drew1 | refine below_set ?_ GE349.out | refine below_set ?_ GE367.out) | exact HB.out)⟩⟩
              · replace c77 := Bool.eq_false_iff.mpr c77
                subst c77
                have H1 : (laws_FnExactLaidCells.j2 kj41 t384 t383 true) = some r := by rw [if_neg (show ¬ (false = true) by decide)] at H; exact H
                clear H
                have H := H1
                clear H1
                have H' := mkA H
                clear H
                obtain ⟨Ao81, co81, eo81⟩ := Kd.R_slice HO394.out
                subst eo81
                obtain ⟨Ao82, co82, eo82⟩ := Kd.R_slice HO_10.out
                subst eo82
                go_wp2_with (first | ((with_reducible refine gate_callee (f := 44) rfl ?_); refine goesL_ (some 96) rfl rfl Try.func44 (by kernel_rfl) rfl #[.slice Ao81 t392.length co81, .slice Ao82 t357.length co82] rfl (by (try simp only [List.map_toArray, List.map_cons, List.map_nil]); first | done | rfl | (simp only [List.length_drop, List.length_take]; rfl)) ?_; (with_reducible refine (laws_eqPointS.calls kj41 _ _ t392 _ _ t357 false _ ?side1 ?side2 ?side3 ?side4 A76.out).mono ?_); (case side1 => repeat (first | exact (Kd.R_reads' HO394.out).2.2 | (with_reducible refine Kd.C_alloc ?_ _) | (with_reducible refine Kd.C_drewN ?_ _) | (with_reducible refine Kd.C_drew ?_))); (case side2 => exact (Kd.R_reads' HO394.out).2.1); (case side3 => repeat (first | exact (Kd.R_reads' HO_10.out).2.2 | (with_reducible refine Kd.C_alloc ?_ _) | (with_reducible refine Kd.C_drewN ?_ _) | (with_reducible refine Kd.C_drew ?_))); (case side4 => exact (Kd.R_reads' HO_10.out).2.1); rintro e w83 ⟨rfl, hb⟩; refine ⟨_, rfl, ?_⟩; have n0_ := mkA (Kd.R_below (by (with_reducible repeat (first | apply Kd.R_alloc | apply Kd.R_drewN | apply Kd.R_drew)); exact HO_10.out) hb); have n1_ := mkA (Kd.R_below (by (with_reducible repeat (first | apply Kd.R_alloc | apply Kd.R_drewN | apply Kd.R_drew)); exact HO_13.out) hb); have n2_ := mkA (Kd.R_below (by (with_reducible repeat (first | apply Kd.R_alloc | apply Kd.R_drewN | apply Kd.R_drew)); exact HO_368001.out) hb); have n3_ := mkA (Kd.R_below (by (with_reducible repeat (first | apply Kd.R_alloc | apply Kd.R_drewN | apply Kd.R_drew)); exact HO389.out) hb); have n4_ := mkA (Kd.R_below (by (with_reducible repeat (first | apply Kd.R_alloc | apply Kd.R_drewN | apply Kd.R_drew)); exact HO394.out) hb); have n5_ := mkA (blk_below (g := gb349) (o := .cells #[.string a0_0, .slice A0_1 l0_1.length c0_1, .int .i64 a0_2, .bool a0_3] 47 (0, 0)) (bl_ BK349.out) hb); have n6_ := mkA (blk_below (g := gb367) (o := .cells #[.string t361, .slice Ao27 t381.length co27, .int .i64 t365, .bool t366] 53 (0, 0)) (bl_ BK367.out) hb); have n7_ := mkA (below_step (bs2_ HB.out GE349.out GE367.out) hb); clear HO_10; clear HO_13; clear HO_368001; clear HO389; clear HO394; clear BK349; clear BK367; clear HB; have HO_10 := n0_; have HO_13 := n1_; have HO_368001 := n2_; have HO389 := n3_; have HO394 := n4_; have BK349 := n5_; have BK367 := n6_; have HB := n7_; clear n0_ n1_ n2_ n3_ n4_ n5_ n6_ n7_; (try clear hb); (try clear hb2); (try clear hk); (try clear hi)))
                go_meet
                case rel => exact ⟨_, (true), (by first | rfl | (simp; done) | (simp [*]; done) | (simp [i64_w, i32_w]; done)), H', ⟨by have := HJ13.out; have := HJ41.out; first | omega | exact Nat.le_refl _⟩, ⟨by (try simp only [hl368001_41]); (with_reducible repeat (first | apply Kd.R_alloc | apply Kd.R_drewN | apply Kd.R_drew)); exact Kd.R_mono HO_13.out (fun _ hk => hk.1.1.2)⟩, ⟨by (try simp only [hl368001_41]); (with_reducible repeat (first | apply Kd.R_alloc | apply Kd.R_drewN | apply Kd.R_drew)); exact Kd.R_mono HO_368001.out (fun _ hk => hk.1.1.2)⟩, ⟨by (try simp only [hl368001_41]); (with_reducible repeat (first | refine blk_drewN ?_ _ | refine blk_drew ?_ | refine blk_alloc ?_ _)); exact BK349.out⟩, ⟨by (try simp only [hl368001_41]); (with_reducible repeat (first | refine blk_drewN ?_ _ | refine blk_drew ?_ | refine blk_alloc ?_ _)); exact BK367.out⟩, ⟨by repeat (first | (with_reducible first | exact HB.out | apply below_alloc | apply pw_below_drewN | apply below_drew1 | refine below_set ?_ GE349.out | refine below_set ?_ GE367.out) | exact HB.out)⟩⟩
             case rest =>
              clear HC68
              try clear c1
              try clear c2
              try clear p2
              try clear c3
              try clear c4
              try clear c5
              try clear c6
              try clear c6b0
              try clear c7
              try clear c10
              try clear c25
              try clear c30
              try clear c33
              try clear c35
              try clear c37
              try clear c38
              try clear c39
              try clear c40
              try clear c42
              try clear c43
              try clear c44
              try clear c45
              try clear c46
              try clear c47
              try clear c50
              try clear c50b0
              try clear c52
              try clear c59
              try clear c62
              try clear c62b0
              try clear c65
              try clear c65b0
              try clear c65b1
              try clear c71
              try clear c77
              try clear hcz16_0
              try clear hcz16_1
              try clear hcz16_2
              try clear hcz16_3
              try clear hcz18_0
              try clear hcz18_1
              try clear hcz18_2
              try clear hcz18_3
              try clear hcz22_0
              try clear hcz22_1
              try clear hcz22_2
              try clear hcz22_3
              try clear hcz26_0
              try clear hcz26_1
              try clear hcz26_2
              try clear hcz26_3
              try clear hcz48_0
              try clear hcz48_1
              try clear hcz48_2
              try clear hcz48_3
              try clear hcz72_0
              try clear hcz72_1
              try clear hcz72_2
              try clear hcz72_3
              try clear hcz8_0
              try clear hcz8_1
              try clear hcz8_2
              try clear hcz8_3
              try clear hfz16_0
              try clear hfz16_1
              try clear hfz16_2
              try clear hfz16_3
              try clear hfz18_0
              try clear hfz18_1
              try clear hfz18_2
              try clear hfz18_3
              try clear hfz22_0
              try clear hfz22_1
              try clear hfz22_2
              try clear hfz22_3
              try clear hfz26_0
              try clear hfz26_1
              try clear hfz26_2
              try clear hfz26_3
              try clear hfz48_0
              try clear hfz48_1
              try clear hfz48_2
              try clear hfz48_3
              try clear hfz72_0
              try clear hfz72_1
              try clear hfz72_2
              try clear hfz72_3
              try clear hfz8_0
              try clear hfz8_1
              try clear hfz8_2
              try clear hfz8_3
              try clear p2
              obtain ⟨kq, x102_67, rfl, HA, HJ67, HO_13, HO_368001, BK349, BK367, HB⟩ := hcut
              have hl13_67 := (Kd.R_reads' HO_13.out).1
              rw [hl13_67] at HO_13
              (try simp only [hl13_67])
              (try simp only [hl13_67] at BK349)
              (try simp only [hl13_67] at BK367)
              (try simp only [hl13_67] at HO_368001)
              cases kq with
              | zero => exact absurd HA.out (by simp [laws_FnExactLaidCells.j2])
              | succ kj67 =>
               have H := HA.out
               clear HA
               simp only [laws_FnExactLaidCells.j2] at H
               by_cases c84 : x102_67 = true
               · subst c84
                 have H1 : (some false) = some r := by rw [if_pos rfl] at H; exact H
                 clear H
                 have H := H1
                 clear H1
                 obtain rfl := Option.some.inj H
                 go_wp2
                 go_ret
                 exact ⟨by first | rfl | (simp [errW_none, errW_some] <;> rfl) | (simp [*, errW_none, errW_some] <;> rfl), by repeat (first | (with_reducible first | exact HB.out | apply below_alloc | apply pw_below_drewN | apply below_drew1 | refine below_set ?_ GE349.out | refine below_set ?_ GE367.out) | exact HB.out)⟩
               · replace c84 := Bool.eq_false_iff.mpr c84
                 subst c84
                 have H1 : ((laws_heldPointS.f kj67 t384 1).bind fun t397 => (if t397 < 0 then (some false) else (if t397 = t383 then (some true) else (some false)))) = some r := by rw [if_neg (show ¬ (false = true) by decide)] at H; exact H
                 clear H
                 have H := H1
                 clear H1
                 replace H := Option.bind_eq_some_iff.mp H
                 obtain ⟨t397, A850, H⟩ := H
                 replace H : (if t397 < 0 then (some false) else (if t397 = t383 then (some true) else (some false))) = some r := H
                 have A85 := mkA A850
                 clear A850
                 by_cases c86 : t397 < 0
                 · rw [if_pos c86] at H
                   have c86b0 : decide (t397 < 0) = true := decide_eq_true c86
                   clear c86
                   obtain rfl := Option.some.inj H
                   go_wp2_with (first | ((with_reducible refine gate_callee (f := 46) rfl ?_); refine goesL_ (some 105) rfl rfl Try.func46 (by kernel_rfl) rfl #[.slice Ao69 t384.length co69, .int .i64 1] rfl (by (try simp only [List.map_toArray, List.map_cons, List.map_nil]); first | done | rfl | (simp only [List.length_drop, List.length_take]; rfl)) ?_; (with_reducible refine (laws_heldPointS.calls kj67 _ _ t384 1 t397 _ ?side1 ?side2 A85.out).mono ?_); (case side1 => repeat (first | exact (Kd.R_reads' HO_13.out).2.2 | (with_reducible refine Kd.C_alloc ?_ _) | (with_reducible refine Kd.C_drewN ?_ _) | (with_reducible refine Kd.C_drew ?_))); (case side2 => exact (Kd.R_reads' HO_13.out).2.1); rintro e w' ⟨rfl, ⟨nd, rfl⟩⟩; refine ⟨_, rfl, ?_⟩))
                   go_ret
                   exact ⟨by first | rfl | (simp [errW_none, errW_some] <;> rfl) | (simp [*, errW_none, errW_some] <;> rfl), by repeat (first | (with_reducible first | exact HB.out | apply below_alloc | apply pw_below_drewN | apply below_drew1 | refine below_set ?_ GE349.out | refine below_set ?_ GE367.out) | exact HB.out)⟩
                 · rw [if_neg c86] at H
                   have c86b0 : decide (t397 < 0) = false := decide_eq_false c86
                   clear c86
                   by_cases c87 : t397 = t383
                   rotate_left
                   · rw [if_neg c87] at H
                     have c87b0 : (t397 == t383) = false := beq_eq_false_iff_ne.mpr c87
                     have c87b1 : (t397 != t383) = true := bne_iff_ne.mpr c87
                     obtain rfl := Option.some.inj H
                     go_wp2_with (first | ((with_reducible refine gate_callee (f := 46) rfl ?_); refine goesL_ (some 105) rfl rfl Try.func46 (by kernel_rfl) rfl #[.slice Ao69 t384.length co69, .int .i64 1] rfl (by (try simp only [List.map_toArray, List.map_cons, List.map_nil]); first | done | rfl | (simp only [List.length_drop, List.length_take]; rfl)) ?_; (with_reducible refine (laws_heldPointS.calls kj67 _ _ t384 1 t397 _ ?side1 ?side2 A85.out).mono ?_); (case side1 => repeat (first | exact (Kd.R_reads' HO_13.out).2.2 | (with_reducible refine Kd.C_alloc ?_ _) | (with_reducible refine Kd.C_drewN ?_ _) | (with_reducible refine Kd.C_drew ?_))); (case side2 => exact (Kd.R_reads' HO_13.out).2.1); rintro e w' ⟨rfl, ⟨nd, rfl⟩⟩; refine ⟨_, rfl, ?_⟩))
                     go_ret
                     exact ⟨by first | rfl | (simp [errW_none, errW_some] <;> rfl) | (simp [*, errW_none, errW_some] <;> rfl), by repeat (first | (with_reducible first | exact HB.out | apply below_alloc | apply pw_below_drewN | apply below_drew1 | refine below_set ?_ GE349.out | refine below_set ?_ GE367.out) | exact HB.out)⟩
                   rw [if_pos c87] at H
                   have c87b0 : (t397 == t383) = true := beq_iff_eq.mpr c87
                   have c87b1 : (t397 != t383) = false := bne_eq_false_iff_eq.mpr c87
                   clear c87
                   obtain rfl := Option.some.inj H
                   go_wp2_with (first | ((with_reducible refine gate_callee (f := 46) rfl ?_); refine goesL_ (some 105) rfl rfl Try.func46 (by kernel_rfl) rfl #[.slice Ao69 t384.length co69, .int .i64 1] rfl (by (try simp only [List.map_toArray, List.map_cons, List.map_nil]); first | done | rfl | (simp only [List.length_drop, List.length_take]; rfl)) ?_; (with_reducible refine (laws_heldPointS.calls kj67 _ _ t384 1 t397 _ ?side1 ?side2 A85.out).mono ?_); (case side1 => repeat (first | exact (Kd.R_reads' HO_13.out).2.2 | (with_reducible refine Kd.C_alloc ?_ _) | (with_reducible refine Kd.C_drewN ?_ _) | (with_reducible refine Kd.C_drew ?_))); (case side2 => exact (Kd.R_reads' HO_13.out).2.1); rintro e w' ⟨rfl, ⟨nd, rfl⟩⟩; refine ⟨_, rfl, ?_⟩))
                   go_ret
                   exact ⟨by first | rfl | (simp [errW_none, errW_some] <;> rfl) | (simp [*, errW_none, errW_some] <;> rfl), by repeat (first | (with_reducible first | exact HB.out | apply below_alloc | apply pw_below_drewN | apply below_drew1 | refine below_set ?_ GE349.out | refine below_set ?_ GE367.out) | exact HB.out)⟩
def G123 (x : S123) : Prop := (Lit.int .i64 x.f0).wf = true ∧ (Lit.int .i64 x.f1).wf = true
def G47 (x : S47) : Prop := x.f0.size ≤ maxLen ∧ (x.f1.length ≤ maxLen ∧ ∀ y0 ∈ x.f1, G123 y0) ∧ (Lit.int .i64 x.f2).wf = true ∧ True

/-- THE ONE PURE STATEMENT of laws_FnExactLaidCells. -/
def laws_FnExactLaidCells.Pure : Prop := ∀ (a0_0 : ByteArray) (l0_1 : List (S123)) (a0_2 : Int) (a0_3 : Bool) (a1 : Int) (a2 : Int) (a3 : Int), G47 (⟨a0_0, l0_1, a0_2, a0_3⟩ : S47) → (Lit.int .i64 a1).wf = true → (Lit.int .i64 a2).wf = true → (Lit.int .i64 a3).wf = true → ∃ k, laws_FnExactLaidCells.f k a0_0 l0_1 a0_2 a0_3 a1 a2 a3 = some true

end Go.Proofs.Ytakagkflgkoiiaa.GFnExactLaidCells

-- Written by the session's own program (gen.py) out of the translation's print. Lean checks it.
import Derived.Test.YteijbdngbmciaaaGFnExactScaleRecipex0
import Derived.Test.YteijbdngbmciaaaGFnExactScaleRecipex1
import Derived.Test.YteijbdngbmciaaaGFnExactScaleRecipex3
import Derived.Test.YteijbdngbmciaaaGFnExactScaleRecipex5
import Derived.Test.YteijbdngbmciaaaGFnExactScaleRecipex6
namespace Go.Proofs.Yteijbdngbmciaaa.GFnExactScaleRecipe
open Go.RowKit Go.Proofs.YteijbdngbmciaaaW.PrintWords Go.Proofs.YteijbdngbmciaaaW.PrintLast Go.Proofs.YteijbdngbmciaaaW.PrintMore
attribute [local go_sem] max2_int min2_int max_two min_two max_three min_three max_four min_four   -- for this text's walks alone
set_option linter.unusedVariables false
set_option linter.unusedSimpArgs false

/-! ### laws_FnExactScaleRecipe: function 7 -/
mutual
def laws_FnExactScaleRecipe.j0 : Nat → Int → Int → Int → Bool → ByteArray → List (S36) → ByteArray → List (S38) → ByteArray → List (S38) → ByteArray → List (S38) → Option (Bool)
  | 0, _, _, _, _, _, _, _, _, _, _, _, _ => none
  | k + 1, x1, x7, x10, x44, x212000, x212001, x223000, x223001, x228000, x228001, x234000, x234001 => if x44 = true then (some false) else ((laws_toRecipe.f k x212000 x212001).bind fun bt235 => ((laws_eqRecipe.f k x228000 x228001 bt235.1 bt235.2).bind fun t239 => (if t239 = true then ((laws_markRecipe.f k x228000 x228001 1).bind fun bt240 => (if bt240.1 < 0 then (laws_FnExactScaleRecipe.j1 k x1 x7 true x212000 x212001 x223000 x223001 x234000 x234001) else ((laws_eqRecipe.f k x234000 x234001 x223000 x223001).bind fun t242 => (if t242 = true then (laws_FnExactScaleRecipe.j1 k x1 x7 (x10 != x7) x212000 x212001 x223000 x223001 x234000 x234001) else (laws_FnExactScaleRecipe.j1 k x1 x7 true x212000 x212001 x223000 x223001 x234000 x234001))))) else (some false))))
def laws_FnExactScaleRecipe.j1 : Nat → Int → Int → Bool → ByteArray → List (S36) → ByteArray → List (S38) → ByteArray → List (S38) → Option (Bool)
  | 0, _, _, _, _, _, _, _, _, _ => none
  | k + 1, x1, x7, x65, x212000, x212001, x223000, x223001, x234000, x234001 => if x65 = true then (some false) else ((laws_markRecipe.f k x234000 x234001 1).bind fun bt243 => ((laws_heldRecipe.f k x234000 bt243.2 1).bind fun t245 => (if t245 < 0 then (some false) else (if t245 = bt243.1 then ((laws_toRecipe.f k x212000 x212001).bind fun bt246 => ((impl_ScaleRecipe.f k bt246.1 bt246.2 x1).bind fun bt250 => ((laws_eqRecipe.f k bt250.1 bt250.2.1 x223000 x223001).bind fun t256 => (if t256 = true then (laws_FnExactScaleRecipe.j2 k bt243.1 (bt250.2.2 != x7) x234000 bt243.2) else (laws_FnExactScaleRecipe.j2 k bt243.1 true x234000 bt243.2))))) else (some false)))))
def laws_FnExactScaleRecipe.j2 : Nat → Int → Bool → ByteArray → List (S38) → Option (Bool)
  | 0, _, _, _, _ => none
  | k + 1, x12, x92, x234000, x234001 => if x92 = true then (some false) else ((laws_heldRecipe.f k x234000 x234001 1).bind fun t257 => (if t257 < 0 then (some false) else (if t257 = x12 then (some true) else (some false))))
end
def laws_FnExactScaleRecipe.f (k : Nat) (a0_0 : ByteArray) (l0_1 : List (S36)) (a1 : Int) : Option (Bool) := (laws_szRecipe.f a0_0 l0_1 1048576).bind fun t212 => (if t212 < 0 then (some true) else ((laws_toRecipe.f k a0_0 l0_1).bind fun bt213 => ((spec_ScaleRecipe.f k bt213.1 bt213.2 a1).bind fun bt217 => ((laws_toRecipe.f k a0_0 l0_1).bind fun bt223 => ((impl_ScaleRecipe.f k bt223.1 bt223.2 a1).bind fun bt228 => ((laws_eqRecipe.f k bt228.1 bt228.2.1 bt217.1 bt217.2.1).bind fun t234 => (if t234 = true then (laws_FnExactScaleRecipe.j0 k a1 bt217.2.2 bt228.2.2 (bt228.2.2 != bt217.2.2) a0_0 l0_1 bt217.1 bt217.2.1 bt223.1 bt223.2 bt228.1 bt228.2.1) else (laws_FnExactScaleRecipe.j0 k a1 bt217.2.2 bt228.2.2 true a0_0 l0_1 bt217.1 bt217.2.1 bt223.1 bt223.2 bt228.1 bt228.2.1))))))))
theorem laws_FnExactScaleRecipe.mono_l : ∀ k, (∀ y0 y1 y2 y3 y4 y5 y6 y7 y8 y9 y10 y11, LeO (laws_FnExactScaleRecipe.j0 k y0 y1 y2 y3 y4 y5 y6 y7 y8 y9 y10 y11) (laws_FnExactScaleRecipe.j0 (k + 1) y0 y1 y2 y3 y4 y5 y6 y7 y8 y9 y10 y11)) ∧ (∀ y0 y1 y2 y3 y4 y5 y6 y7 y8, LeO (laws_FnExactScaleRecipe.j1 k y0 y1 y2 y3 y4 y5 y6 y7 y8) (laws_FnExactScaleRecipe.j1 (k + 1) y0 y1 y2 y3 y4 y5 y6 y7 y8)) ∧ (∀ y0 y1 y2 y3, LeO (laws_FnExactScaleRecipe.j2 k y0 y1 y2 y3) (laws_FnExactScaleRecipe.j2 (k + 1) y0 y1 y2 y3))
  | 0 => ⟨fun _ _ _ _ _ _ _ _ _ _ _ _ r h => by simp [laws_FnExactScaleRecipe.j0] at h, fun _ _ _ _ _ _ _ _ _ r h => by simp [laws_FnExactScaleRecipe.j1] at h, fun _ _ _ _ r h => by simp [laws_FnExactScaleRecipe.j2] at h⟩
  | k + 1 => by
    obtain ⟨ih0, ih1, ih2⟩ := laws_FnExactScaleRecipe.mono_l k
    refine ⟨?_, ?_, ?_⟩
    · intro y0 y1 y2 y3 y4 y5 y6 y7 y8 y9 y10 y11
      unfold laws_FnExactScaleRecipe.j0
      repeat' first
      | (with_reducible exact ih0 _ _ _ _ _ _ _ _ _ _ _ _)
      | (with_reducible exact ih1 _ _ _ _ _ _ _ _ _)
      | (with_reducible exact ih2 _ _ _ _)
      | (with_reducible exact impl_ScaleRecipe.mono _ _ _ _)
      | (with_reducible exact laws_eqRecipe.mono _ _ _ _ _)
      | (with_reducible exact laws_heldRecipe.mono _ _ _ _)
      | (with_reducible exact laws_markRecipe.mono _ _ _ _)
      | (with_reducible exact laws_toRecipe.mono _ _ _)
      | (with_reducible exact spec_ScaleRecipe.mono _ _ _ _)
      | (with_reducible exact LeO.refl _)
      | (with_reducible exact LeO.none _)
      | (with_reducible refine LeO.ite ?_ ?_)
      | (with_reducible refine LeO.bind ?_ (fun _ => ?_))
      | exact ih0 _ _ _ _ _ _ _ _ _ _ _ _
      | exact ih1 _ _ _ _ _ _ _ _ _
      | exact ih2 _ _ _ _
      | exact impl_ScaleRecipe.mono _ _ _ _
      | exact laws_eqRecipe.mono _ _ _ _ _
      | exact laws_heldRecipe.mono _ _ _ _
      | exact laws_markRecipe.mono _ _ _ _
      | exact laws_toRecipe.mono _ _ _
      | exact spec_ScaleRecipe.mono _ _ _ _
      | exact LeO.none _
      | refine LeO.ite ?_ ?_
      | refine LeO.bind ?_ (fun _ => ?_)
    · intro y0 y1 y2 y3 y4 y5 y6 y7 y8
      unfold laws_FnExactScaleRecipe.j1
      repeat' first
      | (with_reducible exact ih0 _ _ _ _ _ _ _ _ _ _ _ _)
      | (with_reducible exact ih1 _ _ _ _ _ _ _ _ _)
      | (with_reducible exact ih2 _ _ _ _)
      | (with_reducible exact impl_ScaleRecipe.mono _ _ _ _)
      | (with_reducible exact laws_eqRecipe.mono _ _ _ _ _)
      | (with_reducible exact laws_heldRecipe.mono _ _ _ _)
      | (with_reducible exact laws_markRecipe.mono _ _ _ _)
      | (with_reducible exact laws_toRecipe.mono _ _ _)
      | (with_reducible exact spec_ScaleRecipe.mono _ _ _ _)
      | (with_reducible exact LeO.refl _)
      | (with_reducible exact LeO.none _)
      | (with_reducible refine LeO.ite ?_ ?_)
      | (with_reducible refine LeO.bind ?_ (fun _ => ?_))
      | exact ih0 _ _ _ _ _ _ _ _ _ _ _ _
      | exact ih1 _ _ _ _ _ _ _ _ _
      | exact ih2 _ _ _ _
      | exact impl_ScaleRecipe.mono _ _ _ _
      | exact laws_eqRecipe.mono _ _ _ _ _
      | exact laws_heldRecipe.mono _ _ _ _
      | exact laws_markRecipe.mono _ _ _ _
      | exact laws_toRecipe.mono _ _ _
      | exact spec_ScaleRecipe.mono _ _ _ _
      | exact LeO.none _
      | refine LeO.ite ?_ ?_
      | refine LeO.bind ?_ (fun _ => ?_)
    · intro y0 y1 y2 y3
      unfold laws_FnExactScaleRecipe.j2
      repeat' first
      | (with_reducible exact ih0 _ _ _ _ _ _ _ _ _ _ _ _)
      | (with_reducible exact ih1 _ _ _ _ _ _ _ _ _)
      | (with_reducible exact ih2 _ _ _ _)
      | (with_reducible exact impl_ScaleRecipe.mono _ _ _ _)
      | (with_reducible exact laws_eqRecipe.mono _ _ _ _ _)
      | (with_reducible exact laws_heldRecipe.mono _ _ _ _)
      | (with_reducible exact laws_markRecipe.mono _ _ _ _)
      | (with_reducible exact laws_toRecipe.mono _ _ _)
      | (with_reducible exact spec_ScaleRecipe.mono _ _ _ _)
      | (with_reducible exact LeO.refl _)
      | (with_reducible exact LeO.none _)
      | (with_reducible refine LeO.ite ?_ ?_)
      | (with_reducible refine LeO.bind ?_ (fun _ => ?_))
      | exact ih0 _ _ _ _ _ _ _ _ _ _ _ _
      | exact ih1 _ _ _ _ _ _ _ _ _
      | exact ih2 _ _ _ _
      | exact impl_ScaleRecipe.mono _ _ _ _
      | exact laws_eqRecipe.mono _ _ _ _ _
      | exact laws_heldRecipe.mono _ _ _ _
      | exact laws_markRecipe.mono _ _ _ _
      | exact laws_toRecipe.mono _ _ _
      | exact spec_ScaleRecipe.mono _ _ _ _
      | exact LeO.none _
      | refine LeO.ite ?_ ?_
      | refine LeO.bind ?_ (fun _ => ?_)
theorem laws_FnExactScaleRecipe.mono : ∀ a0 a1 a2 k, LeO (laws_FnExactScaleRecipe.f k a0 a1 a2) (laws_FnExactScaleRecipe.f (k + 1) a0 a1 a2) := by
  intro a0 a1 a2 k
  obtain ⟨ih0, ih1, ih2⟩ := laws_FnExactScaleRecipe.mono_l k
  unfold laws_FnExactScaleRecipe.f
  repeat' first
      | (with_reducible exact ih0 _ _ _ _ _ _ _ _ _ _ _ _)
      | (with_reducible exact ih1 _ _ _ _ _ _ _ _ _)
      | (with_reducible exact ih2 _ _ _ _)
      | (with_reducible exact impl_ScaleRecipe.mono _ _ _ _)
      | (with_reducible exact laws_eqRecipe.mono _ _ _ _ _)
      | (with_reducible exact laws_heldRecipe.mono _ _ _ _)
      | (with_reducible exact laws_markRecipe.mono _ _ _ _)
      | (with_reducible exact laws_toRecipe.mono _ _ _)
      | (with_reducible exact spec_ScaleRecipe.mono _ _ _ _)
      | (with_reducible exact LeO.refl _)
      | (with_reducible exact LeO.none _)
      | (with_reducible refine LeO.ite ?_ ?_)
      | (with_reducible refine LeO.bind ?_ (fun _ => ?_))
      | exact ih0 _ _ _ _ _ _ _ _ _ _ _ _
      | exact ih1 _ _ _ _ _ _ _ _ _
      | exact ih2 _ _ _ _
      | exact impl_ScaleRecipe.mono _ _ _ _
      | exact laws_eqRecipe.mono _ _ _ _ _
      | exact laws_heldRecipe.mono _ _ _ _
      | exact laws_markRecipe.mono _ _ _ _
      | exact laws_toRecipe.mono _ _ _
      | exact spec_ScaleRecipe.mono _ _ _ _
      | exact LeO.none _
      | refine LeO.ite ?_ ?_
      | refine LeO.bind ?_ (fun _ => ?_)
open List renaming setIfInBounds_toArray → sA, set_cons_zero → sB, set_cons_succ → sC
open Go.Proofs.YteijbdngbmciaaaW.PrintWords.Aside0 renaming mk → mkA
open Go.Proofs.YteijbdngbmciaaaX (dt_ bc_ p0_ p1_ bl_ cb_ bs0_ bs1_ bs2_ bs3_ bs4_ bs5_ bs6_ bs7_ bs8_ bs9_ bs10_ bs11_ bs12_)
set_option maxHeartbeats 8000000 in
set_option maxRecDepth 100000 in
theorem laws_FnExactScaleRecipe.calls (k : Nat) (a0_0 : ByteArray) (A0_1 : Option Addr) (c0_1 : Nat) (l0_1 : List (S36)) (a1 : Int) (r : Bool) (w : World) (hr0_1 : Kd.C k36 w A0_1 l0_1.length l0_1) (hc0_1 : l0_1.length ≤ c0_1) (h : laws_FnExactScaleRecipe.f k a0_0 l0_1 a1 = some r) :
 Calls Try.prog 7 #[.agg #[.string a0_0, .slice A0_1 l0_1.length c0_1], .int .i64 a1] w fun e w' => e = .returned (.bool r) ∧ Below w.heap.size w w' := by
 have hu24 := Try.underlying24
 have hu29 := Try.underlying29
 have HR0_1 := mkA hr0_1
 have HC0_1 := mkA hc0_1
 clear hr0_1 hc0_1
 have HB := mkA (Below.refl w.heap.size w)
 have H : ((laws_szRecipe.f a0_0 l0_1 1048576).bind fun t212 => (if t212 < 0 then (some true) else ((laws_toRecipe.f k a0_0 l0_1).bind fun bt213 => ((spec_ScaleRecipe.f k bt213.1 bt213.2 a1).bind fun bt217 => ((laws_toRecipe.f k a0_0 l0_1).bind fun bt223 => ((impl_ScaleRecipe.f k bt223.1 bt223.2 a1).bind fun bt228 => ((laws_eqRecipe.f k bt228.1 bt228.2.1 bt217.1 bt217.2.1).bind fun t234 => (if t234 = true then (laws_FnExactScaleRecipe.j0 k a1 bt217.2.2 bt228.2.2 (bt228.2.2 != bt217.2.2) a0_0 l0_1 bt217.1 bt217.2.1 bt223.1 bt223.2 bt228.1 bt228.2.1) else (laws_FnExactScaleRecipe.j0 k a1 bt217.2.2 bt228.2.2 true a0_0 l0_1 bt217.1 bt217.2.1 bt223.1 bt223.2 bt228.1 bt228.2.1))))))))) = some r := h
 clear h
 replace H := Option.bind_eq_some_iff.mp H
 obtain ⟨t212, A30, H⟩ := H
 replace H : (if t212 < 0 then (some true) else ((laws_toRecipe.f k a0_0 l0_1).bind fun bt213 => ((spec_ScaleRecipe.f k bt213.1 bt213.2 a1).bind fun bt217 => ((laws_toRecipe.f k a0_0 l0_1).bind fun bt223 => ((impl_ScaleRecipe.f k bt223.1 bt223.2 a1).bind fun bt228 => ((laws_eqRecipe.f k bt228.1 bt228.2.1 bt217.1 bt217.2.1).bind fun t234 => (if t234 = true then (laws_FnExactScaleRecipe.j0 k a1 bt217.2.2 bt228.2.2 (bt228.2.2 != bt217.2.2) a0_0 l0_1 bt217.1 bt217.2.1 bt223.1 bt223.2 bt228.1 bt228.2.1) else (laws_FnExactScaleRecipe.j0 k a1 bt217.2.2 bt228.2.2 true a0_0 l0_1 bt217.1 bt217.2.1 bt223.1 bt223.2 bt228.1 bt228.2.1)))))))) = some r := H
 have A3 := mkA A30
 clear A30
 by_cases c4 : t212 < 0
 · rw [if_pos c4] at H
   have c4b0 : decide (t212 < 0) = true := decide_eq_true c4
   clear c4
   obtain rfl := Option.some.inj H
   go_enter Try.func7, Try.ntmps7
   go_wp2_with (first | ((with_reducible refine gate_dst (N := 2) rfl ?_); refine box_event ?hg (N := 2) ?hd (cs := #[.string a0_0, .slice A0_1 l0_1.length c0_1]) (t := 24) ?hr ?_; (case hd => rfl); (case hg => rfl); (case hr => first | (go_simp; done) | (go_simp; rfl)); intro gb211 hg w5 hbox hb; have n0_ := mkA (below_step (bs0_ HB.out) hb); have n1_ := mkA (hbox); have n2_ := mkA ((by rw [hg]; exact (below_size (bs0_ HB.out)) : w.heap.size ≤ gb211)); have n3_ := mkA ((by rw [hg]; exact (below_size (bs0_ HB.out)) : w.heap.size ≤ gb211)); clear HB; have HB := n0_; have BK211 := n1_; have GW211 := n2_; have GE211 := n3_; clear n0_ n1_ n2_ n3_; clear hb hbox hg; have hcz6_0 : w5.cell? ⟨gb211, 0, none⟩ = some (.string a0_0) := (blk_cell BK211.out 0).trans rfl; have hcz6_1 : w5.cell? ⟨gb211, 1, none⟩ = some (.slice A0_1 l0_1.length c0_1) := (blk_cell BK211.out 1).trans rfl; have hfz6_0 := blk_frozen BK211.out 0; have hfz6_1 := blk_frozen BK211.out 1) | ((with_reducible refine gate_callee (f := 9) rfl ?_); refine goesL_ (some 18) rfl rfl Try.func9 (by kernel_rfl) rfl #[.agg #[.string a0_0, .slice A0_1 l0_1.length c0_1], .int .i64 1048576] rfl (by (try simp only [List.map_toArray, List.map_cons, List.map_nil]); first | done | rfl | (simp only [List.length_drop, List.length_take]; rfl)) ?_; (with_reducible refine (laws_szRecipe.calls a0_0 _ _ l0_1 1048576 t212 _ ?side1 ?side2 A3.out).mono ?_); (case side1 => exact cb_ HR0_1.out HB.out); (case side2 => exact HC0_1.out); rintro e w7 ⟨rfl, hb⟩; refine ⟨_, rfl, ?_⟩; have n0_ := mkA (blk_below (g := gb211) (o := .cells #[.string a0_0, .slice A0_1 l0_1.length c0_1] 24 (0, 0)) (bl_ BK211.out) hb); have n1_ := mkA (below_step (bs1_ HB.out GE211.out) hb); clear BK211; clear HB; have BK211 := n0_; have HB := n1_; clear n0_ n1_; (try clear hb); (try clear hb2); (try clear hk); (try clear hi)))
   go_ret
   exact ⟨by first | rfl | (simp [errW_none, errW_some] <;> rfl) | (simp [*, errW_none, errW_some] <;> rfl), by repeat (first | (with_reducible first | exact HB.out | apply below_alloc | apply pw_below_drewN | apply below_drew1 | refine below_set ?_ GE211.out) | exact HB.out)⟩
 · rw [if_neg c4] at H
   have c4b0 : decide (t212 < 0) = false := decide_eq_false c4
   clear c4
   replace H := Option.bind_eq_some_iff.mp H
   obtain ⟨⟨t213, t214⟩, A80, H⟩ := H
   replace H : ((spec_ScaleRecipe.f k t213 t214 a1).bind fun bt217 => ((laws_toRecipe.f k a0_0 l0_1).bind fun bt223 => ((impl_ScaleRecipe.f k bt223.1 bt223.2 a1).bind fun bt228 => ((laws_eqRecipe.f k bt228.1 bt228.2.1 bt217.1 bt217.2.1).bind fun t234 => (if t234 = true then (laws_FnExactScaleRecipe.j0 k a1 bt217.2.2 bt228.2.2 (bt228.2.2 != bt217.2.2) a0_0 l0_1 bt217.1 bt217.2.1 bt223.1 bt223.2 bt228.1 bt228.2.1) else (laws_FnExactScaleRecipe.j0 k a1 bt217.2.2 bt228.2.2 true a0_0 l0_1 bt217.1 bt217.2.1 bt223.1 bt223.2 bt228.1 bt228.2.1)))))) = some r := H
   have A8 := mkA A80
   clear A80
   replace H := Option.bind_eq_some_iff.mp H
   obtain ⟨⟨t217, t218, t221⟩, A90, H⟩ := H
   replace H : ((laws_toRecipe.f k a0_0 l0_1).bind fun bt223 => ((impl_ScaleRecipe.f k bt223.1 bt223.2 a1).bind fun bt228 => ((laws_eqRecipe.f k bt228.1 bt228.2.1 t217 t218).bind fun t234 => (if t234 = true then (laws_FnExactScaleRecipe.j0 k a1 t221 bt228.2.2 (bt228.2.2 != t221) a0_0 l0_1 t217 t218 bt223.1 bt223.2 bt228.1 bt228.2.1) else (laws_FnExactScaleRecipe.j0 k a1 t221 bt228.2.2 true a0_0 l0_1 t217 t218 bt223.1 bt223.2 bt228.1 bt228.2.1))))) = some r := H
   have A9 := mkA A90
   clear A90
   replace H := Option.bind_eq_some_iff.mp H
   obtain ⟨⟨t223, t224⟩, A100, H⟩ := H
   replace H : ((impl_ScaleRecipe.f k t223 t224 a1).bind fun bt228 => ((laws_eqRecipe.f k bt228.1 bt228.2.1 t217 t218).bind fun t234 => (if t234 = true then (laws_FnExactScaleRecipe.j0 k a1 t221 bt228.2.2 (bt228.2.2 != t221) a0_0 l0_1 t217 t218 t223 t224 bt228.1 bt228.2.1) else (laws_FnExactScaleRecipe.j0 k a1 t221 bt228.2.2 true a0_0 l0_1 t217 t218 t223 t224 bt228.1 bt228.2.1)))) = some r := H
   have A10 := mkA A100
   clear A100
   replace H := Option.bind_eq_some_iff.mp H
   obtain ⟨⟨t228, t229, t232⟩, A110, H⟩ := H
   replace H : ((laws_eqRecipe.f k t228 t229 t217 t218).bind fun t234 => (if t234 = true then (laws_FnExactScaleRecipe.j0 k a1 t221 t232 (t232 != t221) a0_0 l0_1 t217 t218 t223 t224 t228 t229) else (laws_FnExactScaleRecipe.j0 k a1 t221 t232 true a0_0 l0_1 t217 t218 t223 t224 t228 t229))) = some r := H
   have A11 := mkA A110
   clear A110
   have HC12 := mkA H
   clear H
   go_enter Try.func7, Try.ntmps7
   go_upto_region 8 with (first | ((with_reducible refine gate_dst (N := 2) rfl ?_); refine box_event ?hg (N := 2) ?hd (cs := #[.string a0_0, .slice A0_1 l0_1.length c0_1]) (t := 24) ?hr ?_; (case hd => rfl); (case hg => rfl); (case hr => first | (go_simp; done) | (go_simp; rfl)); intro gb211 hg w13 hbox hb; have n0_ := mkA (below_step (bs0_ HB.out) hb); have n1_ := mkA (hbox); have n2_ := mkA ((by rw [hg]; exact (below_size (bs0_ HB.out)) : w.heap.size ≤ gb211)); have n3_ := mkA ((by rw [hg]; exact (below_size (bs0_ HB.out)) : w.heap.size ≤ gb211)); clear HB; have HB := n0_; have BK211 := n1_; have GW211 := n2_; have GE211 := n3_; clear n0_ n1_ n2_ n3_; clear hb hbox hg; have hcz14_0 : w13.cell? ⟨gb211, 0, none⟩ = some (.string a0_0) := (blk_cell BK211.out 0).trans rfl; have hcz14_1 : w13.cell? ⟨gb211, 1, none⟩ = some (.slice A0_1 l0_1.length c0_1) := (blk_cell BK211.out 1).trans rfl; have hfz14_0 := blk_frozen BK211.out 0; have hfz14_1 := blk_frozen BK211.out 1) | ((with_reducible refine gate_callee (f := 9) rfl ?_); refine goesL_ (some 18) rfl rfl Try.func9 (by kernel_rfl) rfl #[.agg #[.string a0_0, .slice A0_1 l0_1.length c0_1], .int .i64 1048576] rfl (by (try simp only [List.map_toArray, List.map_cons, List.map_nil]); first | done | rfl | (simp only [List.length_drop, List.length_take]; rfl)) ?_; (with_reducible refine (laws_szRecipe.calls a0_0 _ _ l0_1 1048576 t212 _ ?side1 ?side2 A3.out).mono ?_); (case side1 => exact cb_ HR0_1.out HB.out); (case side2 => exact HC0_1.out); rintro e w15 ⟨rfl, hb⟩; refine ⟨_, rfl, ?_⟩; have n0_ := mkA (blk_below (g := gb211) (o := .cells #[.string a0_0, .slice A0_1 l0_1.length c0_1] 24 (0, 0)) (bl_ BK211.out) hb); have n1_ := mkA (below_step (bs1_ HB.out GE211.out) hb); clear BK211; clear HB; have BK211 := n0_; have HB := n1_; clear n0_ n1_; (try clear hb); (try clear hb2); (try clear hk); (try clear hi); have hcz16_0 : w15.cell? ⟨gb211, 0, none⟩ = some (.string a0_0) := (blk_cell BK211.out 0).trans rfl; have hcz16_1 : w15.cell? ⟨gb211, 1, none⟩ = some (.slice A0_1 l0_1.length c0_1) := (blk_cell BK211.out 1).trans rfl; have hfz16_0 := blk_frozen BK211.out 0; have hfz16_1 := blk_frozen BK211.out 1) | ((with_reducible refine gate_callee (f := 11) rfl ?_); refine goesL_ (some 23) rfl rfl Try.func11 (by kernel_rfl) rfl #[.agg #[.string a0_0, .slice A0_1 l0_1.length c0_1]] rfl (by (try simp only [List.map_toArray, List.map_cons, List.map_nil]); first | done | rfl | (simp only [List.length_drop, List.length_take]; rfl)) ?_; (with_reducible refine (laws_toRecipe.calls k a0_0 _ _ l0_1 t213 t214 _ ?side1 ?side2 A8.out).mono ?_); (case side1 => exact cb_ HR0_1.out HB.out); (case side2 => exact HC0_1.out); rintro e w17 ⟨v215, rfl, ho0, hb⟩; refine ⟨_, rfl, ?_⟩; have n0_ := mkA (Kd.R_lower ho0 (below_size (bs1_ HB.out GE211.out))); have n1_ := mkA (blk_below (g := gb211) (o := .cells #[.string a0_0, .slice A0_1 l0_1.length c0_1] 24 (0, 0)) (bl_ BK211.out) hb); have n2_ := mkA (below_step (bs1_ HB.out GE211.out) hb); clear BK211; clear HB; have HO216 := n0_; have BK211 := n1_; have HB := n2_; clear n0_ n1_ n2_; (try clear hb); (try clear hb2); (try clear hk); (try clear hi); (try clear ho0); obtain ⟨Ao18, co18, eo18⟩ := Kd.R_slice HO216.out; subst eo18) | ((with_reducible refine gate_callee (f := 24) rfl ?_); refine goesL_ (some 25) rfl rfl Try.func24 (by kernel_rfl) rfl #[.agg #[.string t213, .slice Ao18 t214.length co18], .int .i64 a1] rfl (by (try simp only [List.map_toArray, List.map_cons, List.map_nil]); first | done | rfl | (simp only [List.length_drop, List.length_take]; rfl)) ?_; (with_reducible refine (spec_ScaleRecipe.calls k t213 _ _ t214 a1 t217 t218 t221 _ ?side1 ?side2 A9.out).mono ?_); (case side1 => repeat (first | exact (Kd.R_reads' HO216.out).2.2 | (with_reducible refine Kd.C_alloc ?_ _) | (with_reducible refine Kd.C_drewN ?_ _) | (with_reducible refine Kd.C_drew ?_))); (case side2 => exact (Kd.R_reads' HO216.out).2.1); rintro e w19 ⟨v219, rfl, ho0, hb⟩; refine ⟨_, rfl, ?_⟩; have n0_ := mkA (Kd.R_elder' (by (with_reducible repeat (first | apply Kd.R_alloc | apply Kd.R_drewN | apply Kd.R_drew)); exact HO216.out) (Kd.R_base ho0) hb); have n1_ := mkA (Kd.R_lower (Kd.R_new' ho0 (Kd.R_lt (by (with_reducible repeat (first | apply Kd.R_alloc | apply Kd.R_drewN | apply Kd.R_drew)); exact HO216.out))) (below_size (bs1_ HB.out GE211.out))); have n2_ := mkA (blk_below (g := gb211) (o := .cells #[.string a0_0, .slice A0_1 l0_1.length c0_1] 24 (0, 0)) (bl_ BK211.out) hb); have n3_ := mkA (below_step (bs1_ HB.out GE211.out) hb); clear HO216; clear BK211; clear HB; have HO216 := n0_; have HO220 := n1_; have BK211 := n2_; have HB := n3_; clear n0_ n1_ n2_ n3_; (try clear hb); (try clear hb2); (try clear hk); (try clear hi); (try clear ho0)) | ((with_reducible refine gate_dst (N := 6) rfl ?_); refine box_event ?hg (N := 6) ?hd (cs := #[.string (⟨#[]⟩ : ByteArray), .slice none 0 0]) (t := 29) ?hr ?_; (case hd => rfl); (case hg => rfl); (case hr => first | (go_simp; done) | (go_simp; rfl)); intro gb222 hg w20 hbox hb; have n0_ := mkA (Kd.R_below (by (with_reducible repeat (first | apply Kd.R_alloc | apply Kd.R_drewN | apply Kd.R_drew)); exact HO216.out) hb); have n1_ := mkA (Kd.R_below (by (with_reducible repeat (first | apply Kd.R_alloc | apply Kd.R_drewN | apply Kd.R_drew)); exact HO220.out) hb); have n2_ := mkA (blk_below (g := gb211) (o := .cells #[.string a0_0, .slice A0_1 l0_1.length c0_1] 24 (0, 0)) (bl_ BK211.out) hb); have n3_ := mkA (below_step (bs1_ HB.out GE211.out) hb); have n4_ := mkA (hbox); have n5_ := mkA ((by rw [hg]; exact (below_size (bs1_ HB.out GE211.out)) : w.heap.size ≤ gb222)); have n6_ := mkA ((by rw [hg]; exact (below_size (bs1_ HB.out GE211.out)) : w.heap.size ≤ gb222)); have n7_ := mkA ((by rw [hg]; exact Nat.ne_of_lt (blk_lt (g := gb211) (o := .cells #[.string a0_0, .slice A0_1 l0_1.length c0_1] 24 (0, 0)) (bl_ BK211.out)) : gb211 ≠ gb222)); have n8_ := mkA ((by rw [hg]; exact Nat.ne_of_gt (blk_lt (g := gb211) (o := .cells #[.string a0_0, .slice A0_1 l0_1.length c0_1] 24 (0, 0)) (bl_ BK211.out)) : gb222 ≠ gb211)); clear HO216; clear HO220; clear BK211; clear HB; have HO216 := n0_; have HO220 := n1_; have BK211 := n2_; have HB := n3_; have BK222 := n4_; have GW222 := n5_; have GE222 := n6_; have NB211_222 := n7_; have NB222_211 := n8_; clear n0_ n1_ n2_ n3_ n4_ n5_ n6_ n7_ n8_; clear hb hbox hg; have hnb21 := NB222_211.out; have hnc21 := NB211_222.out; have hcz22_0 : w20.cell? ⟨gb222, 0, none⟩ = some (.string (⟨#[]⟩ : ByteArray)) := (blk_cell BK222.out 0).trans rfl; have hcz22_1 : w20.cell? ⟨gb222, 1, none⟩ = some (.slice none 0 0) := (blk_cell BK222.out 1).trans rfl; have hfz22_0 := blk_frozen BK222.out 0; have hfz22_1 := blk_frozen BK222.out 1; obtain ⟨Ao23, co23, eo23⟩ := Kd.R_slice HO220.out; subst eo23; have hcz24_0 : w20.cell? ⟨gb211, 0, none⟩ = some (.string a0_0) := (blk_cell BK211.out 0).trans rfl; have hcz24_1 : w20.cell? ⟨gb211, 1, none⟩ = some (.slice A0_1 l0_1.length c0_1) := (blk_cell BK211.out 1).trans rfl; have hfz24_0 := blk_frozen BK211.out 0; have hfz24_1 := blk_frozen BK211.out 1) | ((with_reducible refine gate_callee (f := 11) rfl ?_); refine goesL_ (some 29) rfl rfl Try.func11 (by kernel_rfl) rfl #[.agg #[.string a0_0, .slice A0_1 l0_1.length c0_1]] rfl (by (try simp only [List.map_toArray, List.map_cons, List.map_nil]); first | done | rfl | (simp only [List.length_drop, List.length_take]; rfl)) ?_; (with_reducible refine (laws_toRecipe.calls k a0_0 _ _ l0_1 t223 t224 _ ?side1 ?side2 A10.out).mono ?_); (case side1 => exact Kd.C_below HR0_1.out (bs2_ HB.out GE211.out GE222.out)); (case side2 => exact HC0_1.out); rintro e w25 ⟨v225, rfl, ho0, hb⟩; refine ⟨_, rfl, ?_⟩; have n0_ := mkA (Kd.R_elder' (by (with_reducible repeat (first | apply Kd.R_alloc | apply Kd.R_drewN | apply Kd.R_drew)); exact (Kd.R_mono (Kd.R_far (p := ⟨gb222, 1, none⟩) (Kd.R_far (p := ⟨gb222, 0, none⟩) (Kd.R_types HO216.out BK222.out (by decide)) (fun _ hk => hk.2) (.string t217)) (fun _ hk => hk.2) (.slice Ao23 t218.length co23)) (fun _ h_ => h_.1))) (Kd.R_base ho0) hb); have n1_ := mkA (Kd.R_elder' (by (with_reducible repeat (first | apply Kd.R_alloc | apply Kd.R_drewN | apply Kd.R_drew)); exact (Kd.R_mono (Kd.R_far (p := ⟨gb222, 1, none⟩) (Kd.R_far (p := ⟨gb222, 0, none⟩) (Kd.R_types HO220.out BK222.out (by decide)) (fun _ hk => hk.2) (.string t217)) (fun _ hk => hk.2) (.slice Ao23 t218.length co23)) (fun _ h_ => h_.1))) (Kd.R_base ho0) hb); have n2_ := mkA (Kd.R_lower (Kd.R_new' (Kd.R_new' ho0 (Kd.R_lt (by (with_reducible repeat (first | apply Kd.R_alloc | apply Kd.R_drewN | apply Kd.R_drew)); exact (Kd.R_mono (Kd.R_far (p := ⟨gb222, 1, none⟩) (Kd.R_far (p := ⟨gb222, 0, none⟩) (Kd.R_types HO216.out BK222.out (by decide)) (fun _ hk => hk.2) (.string t217)) (fun _ hk => hk.2) (.slice Ao23 t218.length co23)) (fun _ h_ => h_.1))))) (Kd.R_lt (by (with_reducible repeat (first | apply Kd.R_alloc | apply Kd.R_drewN | apply Kd.R_drew)); exact (Kd.R_mono (Kd.R_far (p := ⟨gb222, 1, none⟩) (Kd.R_far (p := ⟨gb222, 0, none⟩) (Kd.R_types HO220.out BK222.out (by decide)) (fun _ hk => hk.2) (.string t217)) (fun _ hk => hk.2) (.slice Ao23 t218.length co23)) (fun _ h_ => h_.1))))) (below_size (bs2_ HB.out GE211.out GE222.out))); have n3_ := mkA (blk_below (g := gb211) (o := .cells #[.string a0_0, .slice A0_1 l0_1.length c0_1] 24 (0, 0)) (by (with_reducible repeat (first | refine blk_drewN ?_ _ | refine blk_drew ?_ | refine blk_alloc ?_ _)); refine blk_far ?_ NB211_222.out _; (with_reducible repeat (first | refine blk_drewN ?_ _ | refine blk_drew ?_ | refine blk_alloc ?_ _)); refine blk_far ?_ NB211_222.out _; (with_reducible repeat (first | refine blk_drewN ?_ _ | refine blk_drew ?_ | refine blk_alloc ?_ _)); exact BK211.out) hb); have n4_ := mkA (blk_below (g := gb222) (o := .cells #[.string t217, .slice Ao23 t218.length co23] 29 (0, 0)) (by (with_reducible repeat (first | refine blk_drewN ?_ _ | refine blk_drew ?_ | refine blk_alloc ?_ _)); refine blk_put (cs := #[.string t217, .slice none 0 0]) ?_ 1 _ rfl; (with_reducible repeat (first | refine blk_drewN ?_ _ | refine blk_drew ?_ | refine blk_alloc ?_ _)); refine blk_put (cs := #[.string (⟨#[]⟩ : ByteArray), .slice none 0 0]) ?_ 0 _ rfl; (with_reducible repeat (first | refine blk_drewN ?_ _ | refine blk_drew ?_ | refine blk_alloc ?_ _)); exact BK222.out) hb); have n5_ := mkA (below_step (bs2_ HB.out GE211.out GE222.out) hb); clear HO216; clear HO220; clear BK211; clear BK222; clear HB; have HO216 := n0_; have HO220 := n1_; have HO226 := n2_; have BK211 := n3_; have BK222 := n4_; have HB := n5_; clear n0_ n1_ n2_ n3_ n4_ n5_; (try clear hb); (try clear hb2); (try clear hk); (try clear hi); (try clear ho0)) | ((with_reducible refine gate_dst (N := 8) rfl ?_); refine box_event ?hg (N := 8) ?hd (cs := #[.string (⟨#[]⟩ : ByteArray), .slice none 0 0]) (t := 29) ?hr ?_; (case hd => rfl); (case hg => rfl); (case hr => first | (go_simp; done) | (go_simp; rfl)); intro gb227 hg w26 hbox hb; have n0_ := mkA (Kd.R_below (by (with_reducible repeat (first | apply Kd.R_alloc | apply Kd.R_drewN | apply Kd.R_drew)); exact HO216.out) hb); have n1_ := mkA (Kd.R_below (by (with_reducible repeat (first | apply Kd.R_alloc | apply Kd.R_drewN | apply Kd.R_drew)); exact HO220.out) hb); have n2_ := mkA (Kd.R_below (by (with_reducible repeat (first | apply Kd.R_alloc | apply Kd.R_drewN | apply Kd.R_drew)); exact HO226.out) hb); have n3_ := mkA (blk_below (g := gb211) (o := .cells #[.string a0_0, .slice A0_1 l0_1.length c0_1] 24 (0, 0)) (bl_ BK211.out) hb); have n4_ := mkA (blk_below (g := gb222) (o := .cells #[.string t217, .slice Ao23 t218.length co23] 29 (0, 0)) (bl_ BK222.out) hb); have n5_ := mkA (below_step (bs2_ HB.out GE211.out GE222.out) hb); have n6_ := mkA (hbox); have n7_ := mkA ((by rw [hg]; exact (below_size (bs2_ HB.out GE211.out GE222.out)) : w.heap.size ≤ gb227)); have n8_ := mkA ((by rw [hg]; exact (below_size (bs2_ HB.out GE211.out GE222.out)) : w.heap.size ≤ gb227)); have n9_ := mkA ((by rw [hg]; exact Nat.ne_of_lt (blk_lt (g := gb211) (o := .cells #[.string a0_0, .slice A0_1 l0_1.length c0_1] 24 (0, 0)) (bl_ BK211.out)) : gb211 ≠ gb227)); have n10_ := mkA ((by rw [hg]; exact Nat.ne_of_gt (blk_lt (g := gb211) (o := .cells #[.string a0_0, .slice A0_1 l0_1.length c0_1] 24 (0, 0)) (bl_ BK211.out)) : gb227 ≠ gb211)); have n11_ := mkA ((by rw [hg]; exact Nat.ne_of_lt (blk_lt (g := gb222) (o := .cells #[.string t217, .slice Ao23 t218.length co23] 29 (0, 0)) (bl_ BK222.out)) : gb222 ≠ gb227)); have n12_ := mkA ((by rw [hg]; exact Nat.ne_of_gt (blk_lt (g := gb222) (o := .cells #[.string t217, .slice Ao23 t218.length co23] 29 (0, 0)) (bl_ BK222.out)) : gb227 ≠ gb222)); clear HO216; clear HO220; clear HO226; clear BK211; clear BK222; clear HB; have HO216 := n0_; have HO220 := n1_; have HO226 := n2_; have BK211 := n3_; have BK222 := n4_; have HB := n5_; have BK227 := n6_; have GW227 := n7_; have GE227 := n8_; have NB211_227 := n9_; have NB227_211 := n10_; have NB222_227 := n11_; have NB227_222 := n12_; clear n0_ n1_ n2_ n3_ n4_ n5_ n6_ n7_ n8_ n9_ n10_ n11_ n12_; clear hb hbox hg; have hnb27 := NB227_211.out; have hnc27 := NB211_227.out; have hnb28 := NB227_222.out; have hnc28 := NB222_227.out; have hcz29_0 : w26.cell? ⟨gb227, 0, none⟩ = some (.string (⟨#[]⟩ : ByteArray)) := (blk_cell BK227.out 0).trans rfl; have hcz29_1 : w26.cell? ⟨gb227, 1, none⟩ = some (.slice none 0 0) := (blk_cell BK227.out 1).trans rfl; have hfz29_0 := blk_frozen BK227.out 0; have hfz29_1 := blk_frozen BK227.out 1; obtain ⟨Ao30, co30, eo30⟩ := Kd.R_slice HO226.out; subst eo30) | ((with_reducible refine gate_callee (f := 25) rfl ?_); refine goesL_ (some 33) rfl rfl Try.func25 (by kernel_rfl) rfl #[.agg #[.string t223, .slice Ao30 t224.length co30], .int .i64 a1] rfl (by (try simp only [List.map_toArray, List.map_cons, List.map_nil]); first | done | rfl | (simp only [List.length_drop, List.length_take]; rfl)) ?_; (with_reducible refine (impl_ScaleRecipe.calls k t223 _ _ t224 a1 t228 t229 t232 _ ?side1 ?side2 A11.out).mono ?_); (case side1 => refine (Kd.R_reads' (e := 38) (base := w.heap.size) (ok := fun k_ => ((True ∧ some k_ ≠ (.slice Ao18 t214.length co18 : Value).ownBlock) ∧ some k_ ≠ (.slice Ao23 t218.length co23 : Value).ownBlock)) (n := t224.length) (c := co30) ?_).2.2; exact (by (with_reducible repeat (first | apply Kd.R_alloc | apply Kd.R_drewN | apply Kd.R_drew)); exact (Kd.R_mono (Kd.R_far (p := ⟨gb227, 1, none⟩) (Kd.R_far (p := ⟨gb227, 0, none⟩) (Kd.R_types HO226.out BK227.out (by decide)) (fun _ hk => hk.2) (.string t223)) (fun _ hk => hk.2) (.slice Ao30 t224.length co30)) (fun _ h_ => h_.1)))); (case side2 => exact (Kd.R_reads' HO226.out).2.1); rintro e w31 ⟨v230, rfl, ho0, hb⟩; refine ⟨_, rfl, ?_⟩; have n0_ := mkA (Kd.R_elder' (by (with_reducible repeat (first | apply Kd.R_alloc | apply Kd.R_drewN | apply Kd.R_drew)); exact (Kd.R_mono (Kd.R_far (p := ⟨gb227, 1, none⟩) (Kd.R_far (p := ⟨gb227, 0, none⟩) (Kd.R_types HO216.out BK227.out (by decide)) (fun _ hk => hk.2) (.string t223)) (fun _ hk => hk.2) (.slice Ao30 t224.length co30)) (fun _ h_ => h_.1))) (Kd.R_base ho0) hb); have n1_ := mkA (Kd.R_elder' (by (with_reducible repeat (first | apply Kd.R_alloc | apply Kd.R_drewN | apply Kd.R_drew)); exact (Kd.R_mono (Kd.R_far (p := ⟨gb227, 1, none⟩) (Kd.R_far (p := ⟨gb227, 0, none⟩) (Kd.R_types HO220.out BK227.out (by decide)) (fun _ hk => hk.2) (.string t223)) (fun _ hk => hk.2) (.slice Ao30 t224.length co30)) (fun _ h_ => h_.1))) (Kd.R_base ho0) hb); have n2_ := mkA (Kd.R_elder' (by (with_reducible repeat (first | apply Kd.R_alloc | apply Kd.R_drewN | apply Kd.R_drew)); exact (Kd.R_mono (Kd.R_far (p := ⟨gb227, 1, none⟩) (Kd.R_far (p := ⟨gb227, 0, none⟩) (Kd.R_types HO226.out BK227.out (by decide)) (fun _ hk => hk.2) (.string t223)) (fun _ hk => hk.2) (.slice Ao30 t224.length co30)) (fun _ h_ => h_.1))) (Kd.R_base ho0) hb); have n3_ := mkA (Kd.R_lower (Kd.R_new' (Kd.R_new' (Kd.R_new' ho0 (Kd.R_lt (by (with_reducible repeat (first | apply Kd.R_alloc | apply Kd.R_drewN | apply Kd.R_drew)); exact (Kd.R_mono (Kd.R_far (p := ⟨gb227, 1, none⟩) (Kd.R_far (p := ⟨gb227, 0, none⟩) (Kd.R_types HO216.out BK227.out (by decide)) (fun _ hk => hk.2) (.string t223)) (fun _ hk => hk.2) (.slice Ao30 t224.length co30)) (fun _ h_ => h_.1))))) (Kd.R_lt (by (with_reducible repeat (first | apply Kd.R_alloc | apply Kd.R_drewN | apply Kd.R_drew)); exact (Kd.R_mono (Kd.R_far (p := ⟨gb227, 1, none⟩) (Kd.R_far (p := ⟨gb227, 0, none⟩) (Kd.R_types HO220.out BK227.out (by decide)) (fun _ hk => hk.2) (.string t223)) (fun _ hk => hk.2) (.slice Ao30 t224.length co30)) (fun _ h_ => h_.1))))) (Kd.R_lt (by (with_reducible repeat (first | apply Kd.R_alloc | apply Kd.R_drewN | apply Kd.R_drew)); exact (Kd.R_mono (Kd.R_far (p := ⟨gb227, 1, none⟩) (Kd.R_far (p := ⟨gb227, 0, none⟩) (Kd.R_types HO226.out BK227.out (by decide)) (fun _ hk => hk.2) (.string t223)) (fun _ hk => hk.2) (.slice Ao30 t224.length co30)) (fun _ h_ => h_.1))))) (below_size (bs3_ HB.out GE211.out GE222.out GE227.out))); have n4_ := mkA (blk_below (g := gb211) (o := .cells #[.string a0_0, .slice A0_1 l0_1.length c0_1] 24 (0, 0)) (by (with_reducible repeat (first | refine blk_drewN ?_ _ | refine blk_drew ?_ | refine blk_alloc ?_ _)); refine blk_far ?_ NB211_227.out _; (with_reducible repeat (first | refine blk_drewN ?_ _ | refine blk_drew ?_ | refine blk_alloc ?_ _)); refine blk_far ?_ NB211_227.out _; (with_reducible repeat (first | refine blk_drewN ?_ _ | refine blk_drew ?_ | refine blk_alloc ?_ _)); exact BK211.out) hb); have n5_ := mkA (blk_below (g := gb222) (o := .cells #[.string t217, .slice Ao23 t218.length co23] 29 (0, 0)) (by (with_reducible repeat (first | refine blk_drewN ?_ _ | refine blk_drew ?_ | refine blk_alloc ?_ _)); refine blk_far ?_ NB222_227.out _; (with_reducible repeat (first | refine blk_drewN ?_ _ | refine blk_drew ?_ | refine blk_alloc ?_ _)); refine blk_far ?_ NB222_227.out _; (with_reducible repeat (first | refine blk_drewN ?_ _ | refine blk_drew ?_ | refine blk_alloc ?_ _)); exact BK222.out) hb); have n6_ := mkA (blk_below (g := gb227) (o := .cells #[.string t223, .slice Ao30 t224.length co30] 29 (0, 0)) (by (with_reducible repeat (first | refine blk_drewN ?_ _ | refine blk_drew ?_ | refine blk_alloc ?_ _)); refine blk_put (cs := #[.string t223, .slice none 0 0]) ?_ 1 _ rfl; (with_reducible repeat (first | refine blk_drewN ?_ _ | refine blk_drew ?_ | refine blk_alloc ?_ _)); refine blk_put (cs := #[.string (⟨#[]⟩ : ByteArray), .slice none 0 0]) ?_ 0 _ rfl; (with_reducible repeat (first | refine blk_drewN ?_ _ | refine blk_drew ?_ | refine blk_alloc ?_ _)); exact BK227.out) hb); have n7_ := mkA (below_step (bs3_ HB.out GE211.out GE222.out GE227.out) hb); clear HO216; clear HO220; clear HO226; clear BK211; clear BK222; clear BK227; clear HB; have HO216 := n0_; have HO220 := n1_; have HO226 := n2_; have HO231 := n3_; have BK211 := n4_; have BK222 := n5_; have BK227 := n6_; have HB := n7_; clear n0_ n1_ n2_ n3_ n4_ n5_ n6_ n7_; (try clear hb); (try clear hb2); (try clear hk); (try clear hi); (try clear ho0)) | ((with_reducible refine gate_dst (N := 9) rfl ?_); refine box_event ?hg (N := 9) ?hd (cs := #[.string (⟨#[]⟩ : ByteArray), .slice none 0 0]) (t := 29) ?hr ?_; (case hd => rfl); (case hg => rfl); (case hr => first | (go_simp; done) | (go_simp; rfl)); intro gb233 hg w32 hbox hb; have n0_ := mkA (Kd.R_below (by (with_reducible repeat (first | apply Kd.R_alloc | apply Kd.R_drewN | apply Kd.R_drew)); exact HO216.out) hb); have n1_ := mkA (Kd.R_below (by (with_reducible repeat (first | apply Kd.R_alloc | apply Kd.R_drewN | apply Kd.R_drew)); exact HO220.out) hb); have n2_ := mkA (Kd.R_below (by (with_reducible repeat (first | apply Kd.R_alloc | apply Kd.R_drewN | apply Kd.R_drew)); exact HO226.out) hb); have n3_ := mkA (Kd.R_below (by (with_reducible repeat (first | apply Kd.R_alloc | apply Kd.R_drewN | apply Kd.R_drew)); exact HO231.out) hb); have n4_ := mkA (blk_below (g := gb211) (o := .cells #[.string a0_0, .slice A0_1 l0_1.length c0_1] 24 (0, 0)) (bl_ BK211.out) hb); have n5_ := mkA (blk_below (g := gb222) (o := .cells #[.string t217, .slice Ao23 t218.length co23] 29 (0, 0)) (bl_ BK222.out) hb); have n6_ := mkA (blk_below (g := gb227) (o := .cells #[.string t223, .slice Ao30 t224.length co30] 29 (0, 0)) (bl_ BK227.out) hb); have n7_ := mkA (below_step (bs3_ HB.out GE211.out GE222.out GE227.out) hb); have n8_ := mkA (hbox); have n9_ := mkA ((by rw [hg]; exact (below_size (bs3_ HB.out GE211.out GE222.out GE227.out)) : w.heap.size ≤ gb233)); have n10_ := mkA ((by rw [hg]; exact (below_size (bs3_ HB.out GE211.out GE222.out GE227.out)) : w.heap.size ≤ gb233)); have n11_ := mkA ((by rw [hg]; exact Nat.ne_of_lt (blk_lt (g := gb211) (o := .cells #[.string a0_0, .slice A0_1 l0_1.length c0_1] 24 (0, 0)) (bl_ BK211.out)) : gb211 ≠ gb233)); have n12_ := mkA ((by rw [hg]; exact Nat.ne_of_gt (blk_lt (g := gb211) (o := .cells #[.string a0_0, .slice A0_1 l0_1.length c0_1] 24 (0, 0)) (bl_ BK211.out)) : gb233 ≠ gb211)); have n13_ := mkA ((by rw [hg]; exact Nat.ne_of_lt (blk_lt (g := gb222) (o := .cells #[.string t217, .slice Ao23 t218.length co23] 29 (0, 0)) (bl_ BK222.out)) : gb222 ≠ gb233)); have n14_ := mkA ((by rw [hg]; exact Nat.ne_of_gt (blk_lt (g := gb222) (o := .cells #[.string t217, .slice Ao23 t218.length co23] 29 (0, 0)) (bl_ BK222.out)) : gb233 ≠ gb222)); have n15_ := mkA ((by rw [hg]; exact Nat.ne_of_lt (blk_lt (g := gb227) (o := .cells #[.string t223, .slice Ao30 t224.length co30] 29 (0, 0)) (bl_ BK227.out)) : gb227 ≠ gb233)); have n16_ := mkA ((by rw [hg]; exact Nat.ne_of_gt (blk_lt (g := gb227) (o := .cells #[.string t223, .slice Ao30 t224.length co30] 29 (0, 0)) (bl_ BK227.out)) : gb233 ≠ gb227)); clear HO216; clear HO220; clear HO226; clear HO231; clear BK211; clear BK222; clear BK227; clear HB; have HO216 := n0_; have HO220 := n1_; have HO226 := n2_; have HO231 := n3_; have BK211 := n4_; have BK222 := n5_; have BK227 := n6_; have HB := n7_; have BK233 := n8_; have GW233 := n9_; have GE233 := n10_; have NB211_233 := n11_; have NB233_211 := n12_; have NB222_233 := n13_; have NB233_222 := n14_; have NB227_233 := n15_; have NB233_227 := n16_; clear n0_ n1_ n2_ n3_ n4_ n5_ n6_ n7_ n8_ n9_ n10_ n11_ n12_ n13_ n14_ n15_ n16_; clear hb hbox hg; have hnb33 := NB233_211.out; have hnc33 := NB211_233.out; have hnb34 := NB233_222.out; have hnc34 := NB222_233.out; have hnb35 := NB233_227.out; have hnc35 := NB227_233.out; have hcz36_0 : w32.cell? ⟨gb233, 0, none⟩ = some (.string (⟨#[]⟩ : ByteArray)) := (blk_cell BK233.out 0).trans rfl; have hcz36_1 : w32.cell? ⟨gb233, 1, none⟩ = some (.slice none 0 0) := (blk_cell BK233.out 1).trans rfl; have hfz36_0 := blk_frozen BK233.out 0; have hfz36_1 := blk_frozen BK233.out 1; obtain ⟨Ao37, co37, eo37⟩ := Kd.R_slice HO231.out; subst eo37))
   (try simp only [Act.put, sA, sB, sC])
   go_cut [44] (fun v44 wc => ∃ (kq : Nat) (x44_11 : Bool), v44 = .bool x44_11 ∧ Aside0 (laws_FnExactScaleRecipe.j0 kq a1 t221 t232 x44_11 a0_0 l0_1 t217 t218 t223 t224 t228 t229 = some r) ∧ Aside0 (kq ≤ k) ∧ Aside0 (Kd.R k38 38 wc w.heap.size (fun k_ => some k_ ≠ ((.slice Ao30 t224.length co30) : Value).ownBlock ∧ some k_ ≠ ((.slice Ao37 t229.length co37) : Value).ownBlock) (.slice Ao23 t218.length co23) t218) ∧ Aside0 (Kd.R k38 38 wc w.heap.size (fun k_ => some k_ ≠ ((.slice Ao23 t218.length co23) : Value).ownBlock ∧ some k_ ≠ ((.slice Ao37 t229.length co37) : Value).ownBlock) (.slice Ao30 t224.length co30) t224) ∧ Aside0 (Kd.R k38 38 wc w.heap.size (fun k_ => some k_ ≠ ((.slice Ao23 t218.length co23) : Value).ownBlock ∧ some k_ ≠ ((.slice Ao30 t224.length co30) : Value).ownBlock) (.slice Ao37 t229.length co37) t229) ∧ Aside0 (wc.heap[gb211]? = some (.cells #[.string a0_0, (.slice A0_1 l0_1.length c0_1)] 24 (0, 0))) ∧ Aside0 (wc.heap[gb222]? = some (.cells #[.string t217, (.slice Ao23 t218.length co23)] 29 (0, 0))) ∧ Aside0 (wc.heap[gb227]? = some (.cells #[.string t223, (.slice Ao30 t224.length co30)] 29 (0, 0))) ∧ Aside0 (wc.heap[gb233]? = some (.cells #[.string t228, (.slice Ao37 t229.length co37)] 29 (0, 0))) ∧ Aside0 (Below w.heap.size w wc))
   case first =>
    have H := HC12.out
    clear HC12
    replace H := Option.bind_eq_some_iff.mp H
    obtain ⟨t234, A380, H⟩ := H
    replace H : (if t234 = true then (laws_FnExactScaleRecipe.j0 k a1 t221 t232 (t232 != t221) a0_0 l0_1 t217 t218 t223 t224 t228 t229) else (laws_FnExactScaleRecipe.j0 k a1 t221 t232 true a0_0 l0_1 t217 t218 t223 t224 t228 t229)) = some r := H
    have A38 := mkA A380
    clear A380
    by_cases c39 : t234 = true
    · subst c39
      have H1 : (laws_FnExactScaleRecipe.j0 k a1 t221 t232 (t232 != t221) a0_0 l0_1 t217 t218 t223 t224 t228 t229) = some r := by rw [if_pos rfl] at H; exact H
      clear H
      have H := H1
      clear H1
      have H' := mkA H
      clear H
      have hnb40 := NB233_211.out
      have hnc40 := NB211_233.out
      have hnb41 := NB233_222.out
      have hnc41 := NB222_233.out
      have hnb42 := NB233_227.out
      have hnc42 := NB227_233.out
      have hcz43_0 : w32.cell? ⟨gb233, 0, none⟩ = some (.string (⟨#[]⟩ : ByteArray)) := (blk_cell BK233.out 0).trans rfl
      have hcz43_1 : w32.cell? ⟨gb233, 1, none⟩ = some (.slice none 0 0) := (blk_cell BK233.out 1).trans rfl
      have hfz43_0 := blk_frozen BK233.out 0
      have hfz43_1 := blk_frozen BK233.out 1
      have hnb44 := NB222_211.out
      have hnc44 := NB211_222.out
      have hnb45 := NB222_227.out
      have hnc45 := NB227_222.out
      have hcz46_0 : w32.cell? ⟨gb222, 0, none⟩ = some (.string t217) := (blk_cell BK222.out 0).trans rfl
      have hcz46_1 : w32.cell? ⟨gb222, 1, none⟩ = some (.slice Ao23 t218.length co23) := (blk_cell BK222.out 1).trans rfl
      have hfz46_0 := blk_frozen BK222.out 0
      have hfz46_1 := blk_frozen BK222.out 1
      go_wp2_with (first | ((with_reducible refine gate_callee (f := 13) rfl ?_); refine goesL_ (some 38) rfl rfl Try.func13 (by kernel_rfl) rfl #[.agg #[.string t228, .slice Ao37 t229.length co37], .agg #[.string t217, .slice Ao23 t218.length co23]] rfl (by (try simp only [List.map_toArray, List.map_cons, List.map_nil]); first | done | rfl | (simp only [List.length_drop, List.length_take]; rfl)) ?_; (with_reducible refine (laws_eqRecipe.calls k t228 _ _ t229 t217 _ _ t218 true _ ?side1 ?side2 ?side3 ?side4 A38.out).mono ?_); (case side1 => refine (Kd.R_reads' (e := 38) (base := w.heap.size) (ok := fun k_ => (((True ∧ some k_ ≠ (.slice Ao18 t214.length co18 : Value).ownBlock) ∧ some k_ ≠ (.slice Ao23 t218.length co23 : Value).ownBlock) ∧ some k_ ≠ (.slice Ao30 t224.length co30 : Value).ownBlock)) (n := t229.length) (c := co37) ?_).2.2; exact (by (with_reducible repeat (first | apply Kd.R_alloc | apply Kd.R_drewN | apply Kd.R_drew)); exact (Kd.R_mono (Kd.R_far (p := ⟨gb233, 1, none⟩) (Kd.R_far (p := ⟨gb233, 0, none⟩) (Kd.R_types HO231.out BK233.out (by decide)) (fun _ hk => hk.2) (.string t228)) (fun _ hk => hk.2) (.slice Ao37 t229.length co37)) (fun _ h_ => h_.1)))); (case side2 => exact (Kd.R_reads' HO231.out).2.1); (case side3 => refine (Kd.R_reads' (e := 38) (base := w.heap.size) (ok := fun k_ => (((True ∧ some k_ ≠ (.slice Ao18 t214.length co18 : Value).ownBlock) ∧ some k_ ≠ (.slice Ao30 t224.length co30 : Value).ownBlock) ∧ some k_ ≠ (.slice Ao37 t229.length co37 : Value).ownBlock)) (n := t218.length) (c := co23) ?_).2.2; exact (by (with_reducible repeat (first | apply Kd.R_alloc | apply Kd.R_drewN | apply Kd.R_drew)); exact (Kd.R_mono (Kd.R_far (p := ⟨gb233, 1, none⟩) (Kd.R_far (p := ⟨gb233, 0, none⟩) (Kd.R_types HO220.out BK233.out (by decide)) (fun _ hk => hk.2) (.string t228)) (fun _ hk => hk.2) (.slice Ao37 t229.length co37)) (fun _ h_ => h_.1)))); (case side4 => exact (Kd.R_reads' HO220.out).2.1); rintro e w47 ⟨rfl, hb⟩; refine ⟨_, rfl, ?_⟩; have n0_ := mkA (Kd.R_below (by (with_reducible repeat (first | apply Kd.R_alloc | apply Kd.R_drewN | apply Kd.R_drew)); exact (Kd.R_mono (Kd.R_far (p := ⟨gb233, 1, none⟩) (Kd.R_far (p := ⟨gb233, 0, none⟩) (Kd.R_types HO216.out BK233.out (by decide)) (fun _ hk => hk.2) (.string t228)) (fun _ hk => hk.2) (.slice Ao37 t229.length co37)) (fun _ h_ => h_.1))) hb); have n1_ := mkA (Kd.R_below (by (with_reducible repeat (first | apply Kd.R_alloc | apply Kd.R_drewN | apply Kd.R_drew)); exact (Kd.R_mono (Kd.R_far (p := ⟨gb233, 1, none⟩) (Kd.R_far (p := ⟨gb233, 0, none⟩) (Kd.R_types HO220.out BK233.out (by decide)) (fun _ hk => hk.2) (.string t228)) (fun _ hk => hk.2) (.slice Ao37 t229.length co37)) (fun _ h_ => h_.1))) hb); have n2_ := mkA (Kd.R_below (by (with_reducible repeat (first | apply Kd.R_alloc | apply Kd.R_drewN | apply Kd.R_drew)); exact (Kd.R_mono (Kd.R_far (p := ⟨gb233, 1, none⟩) (Kd.R_far (p := ⟨gb233, 0, none⟩) (Kd.R_types HO226.out BK233.out (by decide)) (fun _ hk => hk.2) (.string t228)) (fun _ hk => hk.2) (.slice Ao37 t229.length co37)) (fun _ h_ => h_.1))) hb); have n3_ := mkA (Kd.R_below (by (with_reducible repeat (first | apply Kd.R_alloc | apply Kd.R_drewN | apply Kd.R_drew)); exact (Kd.R_mono (Kd.R_far (p := ⟨gb233, 1, none⟩) (Kd.R_far (p := ⟨gb233, 0, none⟩) (Kd.R_types HO231.out BK233.out (by decide)) (fun _ hk => hk.2) (.string t228)) (fun _ hk => hk.2) (.slice Ao37 t229.length co37)) (fun _ h_ => h_.1))) hb); have n4_ := mkA (blk_below (g := gb211) (o := .cells #[.string a0_0, .slice A0_1 l0_1.length c0_1] 24 (0, 0)) (by (with_reducible repeat (first | refine blk_drewN ?_ _ | refine blk_drew ?_ | refine blk_alloc ?_ _)); refine blk_far ?_ NB211_233.out _; (with_reducible repeat (first | refine blk_drewN ?_ _ | refine blk_drew ?_ | refine blk_alloc ?_ _)); refine blk_far ?_ NB211_233.out _; (with_reducible repeat (first | refine blk_drewN ?_ _ | refine blk_drew ?_ | refine blk_alloc ?_ _)); exact BK211.out) hb); have n5_ := mkA (blk_below (g := gb222) (o := .cells #[.string t217, .slice Ao23 t218.length co23] 29 (0, 0)) (by (with_reducible repeat (first | refine blk_drewN ?_ _ | refine blk_drew ?_ | refine blk_alloc ?_ _)); refine blk_far ?_ NB222_233.out _; (with_reducible repeat (first | refine blk_drewN ?_ _ | refine blk_drew ?_ | refine blk_alloc ?_ _)); refine blk_far ?_ NB222_233.out _; (with_reducible repeat (first | refine blk_drewN ?_ _ | refine blk_drew ?_ | refine blk_alloc ?_ _)); exact BK222.out) hb); have n6_ := mkA (blk_below (g := gb227) (o := .cells #[.string t223, .slice Ao30 t224.length co30] 29 (0, 0)) (by (with_reducible repeat (first | refine blk_drewN ?_ _ | refine blk_drew ?_ | refine blk_alloc ?_ _)); refine blk_far ?_ NB227_233.out _; (with_reducible repeat (first | refine blk_drewN ?_ _ | refine blk_drew ?_ | refine blk_alloc ?_ _)); refine blk_far ?_ NB227_233.out _; (with_reducible repeat (first | refine blk_drewN ?_ _ | refine blk_drew ?_ | refine blk_alloc ?_ _)); exact BK227.out) hb); have n7_ := mkA (blk_below (g := gb233) (o := .cells #[.string t228, .slice Ao37 t229.length co37] 29 (0, 0)) (by (with_reducible repeat (first | refine blk_drewN ?_ _ | refine blk_drew ?_ | refine blk_alloc ?_ _)); refine blk_put (cs := #[.string t228, .slice none 0 0]) ?_ 1 _ rfl; (with_reducible repeat (first | refine blk_drewN ?_ _ | refine blk_drew ?_ | refine blk_alloc ?_ _)); refine blk_put (cs := #[.string (⟨#[]⟩ : ByteArray), .slice none 0 0]) ?_ 0 _ rfl; (with_reducible repeat (first | refine blk_drewN ?_ _ | refine blk_drew ?_ | refine blk_alloc ?_ _)); exact BK233.out) hb); have n8_ := mkA (below_step (bs4_ HB.out GE211.out GE222.out GE227.out GE233.out) hb); clear HO216; clear HO220; clear HO226; clear HO231; clear BK211; clear BK222; clear BK227; clear BK233; clear HB; have HO216 := n0_; have HO220 := n1_; have HO226 := n2_; have HO231 := n3_; have BK211 := n4_; have BK222 := n5_; have BK227 := n6_; have BK233 := n7_; have HB := n8_; clear n0_ n1_ n2_ n3_ n4_ n5_ n6_ n7_ n8_; (try clear hb); (try clear hb2); (try clear hk); (try clear hi)))
      go_meet
      case rel => exact ⟨_, ((t232 != t221)), (by first | rfl | (simp; done) | (simp [*]; done) | (simp [i64_w, i32_w]; done)), H', ⟨by first | omega | exact Nat.le_refl _⟩, ⟨by (with_reducible repeat (first | apply Kd.R_alloc | apply Kd.R_drewN | apply Kd.R_drew)); exact Kd.R_mono HO220.out (fun _ hk => ⟨hk.1.2, hk.2⟩)⟩, ⟨by (with_reducible repeat (first | apply Kd.R_alloc | apply Kd.R_drewN | apply Kd.R_drew)); exact Kd.R_mono HO226.out (fun _ hk => ⟨hk.1.2, hk.2⟩)⟩, ⟨by (with_reducible repeat (first | apply Kd.R_alloc | apply Kd.R_drewN | apply Kd.R_drew)); exact Kd.R_mono HO231.out (fun _ hk => ⟨hk.1.2, hk.2⟩)⟩, ⟨by (with_reducible repeat (first | refine blk_drewN ?_ _ | refine blk_drew ?_ | refine blk_alloc ?_ _)); exact BK211.out⟩, ⟨by (with_reducible repeat (first | refine blk_drewN ?_ _ | refine blk_drew ?_ | refine blk_alloc ?_ _)); exact BK222.out⟩, ⟨by (with_reducible repeat (first | refine blk_drewN ?_ _ | refine blk_drew ?_ | refine blk_alloc ?_ _)); exact BK227.out⟩, ⟨by (with_reducible repeat (first | refine blk_drewN ?_ _ | refine blk_drew ?_ | refine blk_alloc ?_ _)); exact BK233.out⟩, ⟨by repeat (first | (with_reducible first | exact HB.out | apply below_alloc | apply pw_below_drewN | apply below_drew1 | refine below_set ?_ GE211.out | refine below_set ?_ GE222.out | refine below_set ?_ GE227.out | refine below_set ?_ GE233.out) | exact HB.out)⟩⟩
    · replace c39 := Bool.eq_false_iff.mpr c39
      subst c39
      have H1 : (laws_FnExactScaleRecipe.j0 k a1 t221 t232 true a0_0 l0_1 t217 t218 t223 t224 t228 t229) = some r := by rw [if_neg (show ¬ (false = true) by decide)] at H; exact H
      clear H
      have H := H1
      clear H1
      have H' := mkA H
      clear H
      have hnb48 := NB233_211.out
      have hnc48 := NB211_233.out
      have hnb49 := NB233_222.out
      have hnc49 := NB222_233.out
      have hnb50 := NB233_227.out
      have hnc50 := NB227_233.out
      have hcz51_0 : w32.cell? ⟨gb233, 0, none⟩ = some (.string (⟨#[]⟩ : ByteArray)) := (blk_cell BK233.out 0).trans rfl
      have hcz51_1 : w32.cell? ⟨gb233, 1, none⟩ = some (.slice none 0 0) := (blk_cell BK233.out 1).trans rfl
      have hfz51_0 := blk_frozen BK233.out 0
      have hfz51_1 := blk_frozen BK233.out 1
      have hnb52 := NB222_211.out
      have hnc52 := NB211_222.out
      have hnb53 := NB222_227.out
      have hnc53 := NB227_222.out
      have hcz54_0 : w32.cell? ⟨gb222, 0, none⟩ = some (.string t217) := (blk_cell BK222.out 0).trans rfl
      have hcz54_1 : w32.cell? ⟨gb222, 1, none⟩ = some (.slice Ao23 t218.length co23) := (blk_cell BK222.out 1).trans rfl
      have hfz54_0 := blk_frozen BK222.out 0
      have hfz54_1 := blk_frozen BK222.out 1
      go_wp2_with (first | ((with_reducible refine gate_callee (f := 13) rfl ?_); refine goesL_ (some 38) rfl rfl Try.func13 (by kernel_rfl) rfl #[.agg #[.string t228, .slice Ao37 t229.length co37], .agg #[.string t217, .slice Ao23 t218.length co23]] rfl (by (try simp only [List.map_toArray, List.map_cons, List.map_nil]); first | done | rfl | (simp only [List.length_drop, List.length_take]; rfl)) ?_; (with_reducible refine (laws_eqRecipe.calls k t228 _ _ t229 t217 _ _ t218 false _ ?side1 ?side2 ?side3 ?side4 A38.out).mono ?_); (case side1 => refine (Kd.R_reads' (e := 38) (base := w.heap.size) (ok := fun k_ => (((True ∧ some k_ ≠ (.slice Ao18 t214.length co18 : Value).ownBlock) ∧ some k_ ≠ (.slice Ao23 t218.length co23 : Value).ownBlock) ∧ some k_ ≠ (.slice Ao30 t224.length co30 : Value).ownBlock)) (n := t229.length) (c := co37) ?_).2.2; exact (by (with_reducible repeat (first | apply Kd.R_alloc | apply Kd.R_drewN | apply Kd.R_drew)); exact (Kd.R_mono (Kd.R_far (p := ⟨gb233, 1, none⟩) (Kd.R_far (p := ⟨gb233, 0, none⟩) (Kd.R_types HO231.out BK233.out (by decide)) (fun _ hk => hk.2) (.string t228)) (fun _ hk => hk.2) (.slice Ao37 t229.length co37)) (fun _ h_ => h_.1)))); (case side2 => exact (Kd.R_reads' HO231.out).2.1); (case side3 => refine (Kd.R_reads' (e := 38) (base := w.heap.size) (ok := fun k_ => (((True ∧ some k_ ≠ (.slice Ao18 t214.length co18 : Value).ownBlock) ∧ some k_ ≠ (.slice Ao30 t224.length co30 : Value).ownBlock) ∧ some k_ ≠ (.slice Ao37 t229.length co37 : Value).ownBlock)) (n := t218.length) (c := co23) ?_).2.2; exact (by (with_reducible repeat (first | apply Kd.R_alloc | apply Kd.R_drewN | apply Kd.R_drew)); exact (Kd.R_mono (Kd.R_far (p := ⟨gb233, 1, none⟩) (Kd.R_far (p := ⟨gb233, 0, none⟩) (Kd.R_types HO220.out BK233.out (by decide)) (fun _ hk => hk.2) (.string t228)) (fun _ hk => hk.2) (.slice Ao37 t229.length co37)) (fun _ h_ => h_.1)))); (case side4 => exact (Kd.R_reads' HO220.out).2.1); rintro e w55 ⟨rfl, hb⟩; refine ⟨_, rfl, ?_⟩; have n0_ := mkA (Kd.R_below (by (with_reducible repeat (first | apply Kd.R_alloc | apply Kd.R_drewN | apply Kd.R_drew)); exact (Kd.R_mono (Kd.R_far (p := ⟨gb233, 1, none⟩) (Kd.R_far (p := ⟨gb233, 0, none⟩) (Kd.R_types HO216.out BK233.out (by decide)) (fun _ hk => hk.2) (.string t228)) (fun _ hk => hk.2) (.slice Ao37 t229.length co37)) (fun _ h_ => h_.1))) hb); have n1_ := mkA (Kd.R_below (by (with_reducible repeat (first | apply Kd.R_alloc | apply Kd.R_drewN | apply Kd.R_drew)); exact (Kd.R_mono (Kd.R_far (p := ⟨gb233, 1, none⟩) (Kd.R_far (p := ⟨gb233, 0, none⟩) (Kd.R_types HO220.out BK233.out (by decide)) (fun _ hk => hk.2) (.string t228)) (fun _ hk => hk.2) (.slice Ao37 t229.length co37)) (fun _ h_ => h_.1))) hb); have n2_ := mkA (Kd.R_below (by (with_reducible repeat (first | apply Kd.R_alloc | apply Kd.R_drewN | apply Kd.R_drew)); exact (Kd.R_mono (Kd.R_far (p := ⟨gb233, 1, none⟩) (Kd.R_far (p := ⟨gb233, 0, none⟩) (Kd.R_types HO226.out BK233.out (by decide)) (fun _ hk => hk.2) (.string t228)) (fun _ hk => hk.2) (.slice Ao37 t229.length co37)) (fun _ h_ => h_.1))) hb); have n3_ := mkA (Kd.R_below (by (with_reducible repeat (first | apply Kd.R_alloc | apply Kd.R_drewN | apply Kd.R_drew)); exact (Kd.R_mono (Kd.R_far (p := ⟨gb233, 1, none⟩) (Kd.R_far (p := ⟨gb233, 0, none⟩) (Kd.R_types HO231.out BK233.out (by decide)) (fun _ hk => hk.2) (.string t228)) (fun _ hk => hk.2) (.slice Ao37 t229.length co37)) (fun _ h_ => h_.1))) hb); have n4_ := mkA (blk_below (g := gb211) (o := .cells #[.string a0_0, .slice A0_1 l0_1.length c0_1] 24 (0, 0)) (by (with_reducible repeat (first | refine blk_drewN ?_ _ | refine blk_drew ?_ | refine blk_alloc ?_ _)); refine blk_far ?_ NB211_233.out _; (with_reducible repeat (first | refine blk_drewN ?_ _ | refine blk_drew ?_ | refine blk_alloc ?_ _)); refine blk_far ?_ NB211_233.out _; (with_reducible repeat (first | refine blk_drewN ?_ _ | refine blk_drew ?_ | refine blk_alloc ?_ _)); exact BK211.out) hb); have n5_ := mkA (blk_below (g := gb222) (o := .cells #[.string t217, .slice Ao23 t218.length co23] 29 (0, 0)) (by (with_reducible repeat (first | refine blk_drewN ?_ _ | refine blk_drew ?_ | refine blk_alloc ?_ _)); refine blk_far ?_ NB222_233.out _; (with_reducible repeat (first | refine blk_drewN ?_ _ | refine blk_drew ?_ | refine blk_alloc ?_ _)); refine blk_far ?_ NB222_233.out _; (with_reducible repeat (first | refine blk_drewN ?_ _ | refine blk_drew ?_ | refine blk_alloc ?_ _)); exact BK222.out) hb); have n6_ := mkA (blk_below (g := gb227) (o := .cells #[.string t223, .slice Ao30 t224.length co30] 29 (0, 0)) (by (with_reducible repeat (first | refine blk_drewN ?_ _ | refine blk_drew ?_ | refine blk_alloc ?_ _)); refine blk_far ?_ NB227_233.out _; (with_reducible repeat (first | refine blk_drewN ?_ _ | refine blk_drew ?_ | refine blk_alloc ?_ _)); refine blk_far ?_ NB227_233.out _; (with_reducible repeat (first | refine blk_drewN ?_ _ | refine blk_drew ?_ | refine blk_alloc ?_ _)); exact BK227.out) hb); have n7_ := mkA (blk_below (g := gb233) (o := .cells #[.string t228, .slice Ao37 t229.length co37] 29 (0, 0)) (by (with_reducible repeat (first | refine blk_drewN ?_ _ | refine blk_drew ?_ | refine blk_alloc ?_ _)); refine blk_put (cs := #[.string t228, .slice none 0 0]) ?_ 1 _ rfl; (with_reducible repeat (first | refine blk_drewN ?_ _ | refine blk_drew ?_ | refine blk_alloc ?_ _)); refine blk_put (cs := #[.string (⟨#[]⟩ : ByteArray), .slice none 0 0]) ?_ 0 _ rfl; (with_reducible repeat (first | refine blk_drewN ?_ _ | refine blk_drew ?_ | refine blk_alloc ?_ _)); exact BK233.out) hb); have n8_ := mkA (below_step (bs4_ HB.out GE211.out GE222.out GE227.out GE233.out) hb); clear HO216; clear HO220; clear HO226; clear HO231; clear BK211; clear BK222; clear BK227; clear BK233; clear HB; have HO216 := n0_; have HO220 := n1_; have HO226 := n2_; have HO231 := n3_; have BK211 := n4_; have BK222 := n5_; have BK227 := n6_; have BK233 := n7_; have HB := n8_; clear n0_ n1_ n2_ n3_ n4_ n5_ n6_ n7_ n8_; (try clear hb); (try clear hb2); (try clear hk); (try clear hi)))
      go_meet
      case rel => exact ⟨_, (true), (by first | rfl | (simp; done) | (simp [*]; done) | (simp [i64_w, i32_w]; done)), H', ⟨by first | omega | exact Nat.le_refl _⟩, ⟨by (with_reducible repeat (first | apply Kd.R_alloc | apply Kd.R_drewN | apply Kd.R_drew)); exact Kd.R_mono HO220.out (fun _ hk => ⟨hk.1.2, hk.2⟩)⟩, ⟨by (with_reducible repeat (first | apply Kd.R_alloc | apply Kd.R_drewN | apply Kd.R_drew)); exact Kd.R_mono HO226.out (fun _ hk => ⟨hk.1.2, hk.2⟩)⟩, ⟨by (with_reducible repeat (first | apply Kd.R_alloc | apply Kd.R_drewN | apply Kd.R_drew)); exact Kd.R_mono HO231.out (fun _ hk => ⟨hk.1.2, hk.2⟩)⟩, ⟨by (with_reducible repeat (first | refine blk_drewN ?_ _ | refine blk_drew ?_ | refine blk_alloc ?_ _)); exact BK211.out⟩, ⟨by (with_reducible repeat (first | refine blk_drewN ?_ _ | refine blk_drew ?_ | refine blk_alloc ?_ _)); exact BK222.out⟩, ⟨by (with_reducible repeat (first | refine blk_drewN ?_ _ | refine blk_drew ?_ | refine blk_alloc ?_ _)); exact BK227.out⟩, ⟨by (with_reducible repeat (first | refine blk_drewN ?_ _ | refine blk_drew ?_ | refine blk_alloc ?_ _)); exact BK233.out⟩, ⟨by repeat (first | (with_reducible first | exact HB.out | apply below_alloc | apply pw_below_drewN | apply below_drew1 | refine below_set ?_ GE211.out | refine below_set ?_ GE222.out | refine below_set ?_ GE227.out | refine below_set ?_ GE233.out) | exact HB.out)⟩⟩
   case rest =>
    clear HC12
    try clear c1
    try clear c2
    try clear p2
    try clear c3
    try clear c4
    try clear c4b0
    try clear c5
    try clear c7
    try clear c9
    try clear c11
    try clear c13
    try clear c21
    try clear c24
    try clear c25
    try clear c27
    try clear c28
    try clear c33
    try clear c34
    try clear c35
    try clear c39
    try clear c40
    try clear c41
    try clear c42
    try clear c44
    try clear c45
    try clear c48
    try clear c49
    try clear c50
    try clear c52
    try clear c53
    try clear hcz14_0
    try clear hcz14_1
    try clear hcz16_0
    try clear hcz16_1
    try clear hcz22_0
    try clear hcz22_1
    try clear hcz24_0
    try clear hcz24_1
    try clear hcz29_0
    try clear hcz29_1
    try clear hcz36_0
    try clear hcz36_1
    try clear hcz43_0
    try clear hcz43_1
    try clear hcz46_0
    try clear hcz46_1
    try clear hcz51_0
    try clear hcz51_1
    try clear hcz54_0
    try clear hcz54_1
    try clear hcz6_0
    try clear hcz6_1
    try clear hfz14_0
    try clear hfz14_1
    try clear hfz16_0
    try clear hfz16_1
    try clear hfz22_0
    try clear hfz22_1
    try clear hfz24_0
    try clear hfz24_1
    try clear hfz29_0
    try clear hfz29_1
    try clear hfz36_0
    try clear hfz36_1
    try clear hfz43_0
    try clear hfz43_1
    try clear hfz46_0
    try clear hfz46_1
    try clear hfz51_0
    try clear hfz51_1
    try clear hfz54_0
    try clear hfz54_1
    try clear hfz6_0
    try clear hfz6_1
    obtain ⟨kq, x44_11, rfl, HA, HJ11, HO_223001, HO_228001, HO_234001, BK211, BK222, BK227, BK233, HB⟩ := hcut
    cases kq with
    | zero => exact absurd HA.out (by simp [laws_FnExactScaleRecipe.j0])
    | succ kj11 =>
     have H := HA.out
     clear HA
     simp only [laws_FnExactScaleRecipe.j0] at H
     by_cases c56 : x44_11 = true
     · subst c56
       have H1 : (some false) = some r := by rw [if_pos rfl] at H; exact H
       clear H
       have H := H1
       clear H1
       obtain rfl := Option.some.inj H
       go_wp2
       go_ret
       exact ⟨by first | rfl | (simp [errW_none, errW_some] <;> rfl) | (simp [*, errW_none, errW_some] <;> rfl), by repeat (first | (with_reducible first | exact HB.out | apply below_alloc | apply pw_below_drewN | apply below_drew1 | refine below_set ?_ GE211.out | refine below_set ?_ GE222.out | refine below_set ?_ GE227.out | refine below_set ?_ GE233.out) | exact HB.out)⟩
     · replace c56 := Bool.eq_false_iff.mpr c56
       subst c56
       have H1 : ((laws_toRecipe.f kj11 a0_0 l0_1).bind fun bt235 => ((laws_eqRecipe.f kj11 t223 t224 bt235.1 bt235.2).bind fun t239 => (if t239 = true then ((laws_markRecipe.f kj11 t223 t224 1).bind fun bt240 => (if bt240.1 < 0 then (laws_FnExactScaleRecipe.j1 kj11 a1 t221 true a0_0 l0_1 t217 t218 t228 t229) else ((laws_eqRecipe.f kj11 t228 t229 t217 t218).bind fun t242 => (if t242 = true then (laws_FnExactScaleRecipe.j1 kj11 a1 t221 (t232 != t221) a0_0 l0_1 t217 t218 t228 t229) else (laws_FnExactScaleRecipe.j1 kj11 a1 t221 true a0_0 l0_1 t217 t218 t228 t229))))) else (some false)))) = some r := by rw [if_neg (show ¬ (false = true) by decide)] at H; exact H
       clear H
       have H := H1
       clear H1
       replace H := Option.bind_eq_some_iff.mp H
       obtain ⟨⟨t235, t236⟩, A570, H⟩ := H
       replace H : ((laws_eqRecipe.f kj11 t223 t224 t235 t236).bind fun t239 => (if t239 = true then ((laws_markRecipe.f kj11 t223 t224 1).bind fun bt240 => (if bt240.1 < 0 then (laws_FnExactScaleRecipe.j1 kj11 a1 t221 true a0_0 l0_1 t217 t218 t228 t229) else ((laws_eqRecipe.f kj11 t228 t229 t217 t218).bind fun t242 => (if t242 = true then (laws_FnExactScaleRecipe.j1 kj11 a1 t221 (t232 != t221) a0_0 l0_1 t217 t218 t228 t229) else (laws_FnExactScaleRecipe.j1 kj11 a1 t221 true a0_0 l0_1 t217 t218 t228 t229))))) else (some false))) = some r := H
       have A57 := mkA A570
       clear A570
       replace H := Option.bind_eq_some_iff.mp H
       obtain ⟨t239, A580, H⟩ := H
       replace H : (if t239 = true then ((laws_markRecipe.f kj11 t223 t224 1).bind fun bt240 => (if bt240.1 < 0 then (laws_FnExactScaleRecipe.j1 kj11 a1 t221 true a0_0 l0_1 t217 t218 t228 t229) else ((laws_eqRecipe.f kj11 t228 t229 t217 t218).bind fun t242 => (if t242 = true then (laws_FnExactScaleRecipe.j1 kj11 a1 t221 (t232 != t221) a0_0 l0_1 t217 t218 t228 t229) else (laws_FnExactScaleRecipe.j1 kj11 a1 t221 true a0_0 l0_1 t217 t218 t228 t229))))) else (some false)) = some r := H
       have A58 := mkA A580
       clear A580
       by_cases c59 : t239 = true
       rotate_left
       · replace c59 := Bool.eq_false_iff.mpr c59
         subst c59
         have H1 : (some false) = some r := by rw [if_neg (show ¬ (false = true) by decide)] at H; exact H
         clear H
         have H := H1
         clear H1
         obtain rfl := Option.some.inj H
         try go_wp2
         have n0_ := mkA (Kd.R_drew HO_223001.out)
         have n1_ := mkA (Kd.R_drew HO_228001.out)
         have n2_ := mkA (Kd.R_drew HO_234001.out)
         have n3_ := mkA (blk_drew BK211.out)
         have n4_ := mkA (blk_drew BK222.out)
         have n5_ := mkA (blk_drew BK227.out)
         have n6_ := mkA (blk_drew BK233.out)
         have n7_ := mkA (below_drew1 HB.out)
         clear HO_223001
         clear HO_228001
         clear HO_234001
         clear BK211
         clear BK222
         clear BK227
         clear BK233
         clear HB
         have HO_223001 := n0_
         have HO_228001 := n1_
         have HO_234001 := n2_
         have BK211 := n3_
         have BK222 := n4_
         have BK227 := n5_
         have BK233 := n6_
         have HB := n7_
         clear n0_ n1_ n2_ n3_ n4_ n5_ n6_ n7_
         refine start_ (n := 5) (S := fun w' => w'.cell? ⟨gb227, 0, none⟩ = some (.string t223) ∧ w'.cell? ⟨gb227, 1, none⟩ = some (.slice Ao30 t224.length co30) ∧ w'.cell? ⟨gb211, 0, none⟩ = some (.string a0_0) ∧ w'.cell? ⟨gb211, 1, none⟩ = some (.slice A0_1 l0_1.length c0_1)) (ds := []) #[false, false, false, false, false] (by kernel_rfl) rfl rfl ⟨(blk_cell BK227.out 0).trans rfl, (blk_cell BK227.out 1).trans rfl, (blk_cell BK211.out 0).trans rfl, (blk_cell BK211.out 1).trans rfl⟩ (fun hHeld => ?_)
         generalize wc.drew = w176 at HO_223001 HO_228001 HO_234001 BK211 BK222 BK227 BK233 HB hHeld ⊢
         refine take_ (i := 0) (N := some 45) (v := ?_) (a' := ?_) #[true, false, false, false, false] rfl rfl (by kernel_rfl) (fun _ _ _ h => h) (Or.inl ⟨by rfl, ?_⟩) hHeld ?_ ?_
         rotate_left
         · rintro w' ⟨s0, s1, s2, s3⟩
           go_simp
           with_reducible rfl
         rotate_left
         · simp only [Act.put, sA, sB, sC, i64_w, i32_w]
           rfl
         refine take_ (i := 1) (N := some 46) (v := ?_) (a' := ?_) #[true, true, false, false, false] rfl rfl (by kernel_rfl) (fun _ _ _ h => h) (Or.inl ⟨by rfl, ?_⟩) hHeld ?_ ?_
         rotate_left
         · rintro w' ⟨s0, s1, s2, s3⟩
           go_simp
           with_reducible rfl
         rotate_left
         · simp only [Act.put, sA, sB, sC, i64_w, i32_w]
           rfl
         refine one_ (i := 2) (N := some 47) #[true, true, true, false, false] rfl rfl (by kernel_rfl) (by decide) (fun K hK => ?_)
         refine goes_ Try.func11 (by kernel_rfl) rfl #[.agg #[.string a0_0, .slice A0_1 l0_1.length c0_1]] (by rfl) rfl rfl (by (try simp only [List.map_toArray, List.map_cons, List.map_nil]); first | done | rfl | (simp only [List.length_drop, List.length_take]; rfl)) ?_
         with_reducible refine (laws_toRecipe.calls kj11 a0_0 _ _ l0_1 t235 t236 _ ?side1 ?side2 A57.out).mono ?_
         (case side1 => exact cb_ HR0_1.out HB.out)
         (case side2 => exact HC0_1.out)
         rintro e w177 ⟨v237, rfl, ho0, hb⟩
         refine ⟨_, rfl, ?_⟩
         have n0_ := mkA (Kd.R_elder' (by (with_reducible repeat (first | apply Kd.R_alloc | apply Kd.R_drewN | apply Kd.R_drew)); exact HO_223001.out) (Kd.R_base ho0) hb)
         have n1_ := mkA (Kd.R_elder' (by (with_reducible repeat (first | apply Kd.R_alloc | apply Kd.R_drewN | apply Kd.R_drew)); exact HO_228001.out) (Kd.R_base ho0) hb)
         have n2_ := mkA (Kd.R_elder' (by (with_reducible repeat (first | apply Kd.R_alloc | apply Kd.R_drewN | apply Kd.R_drew)); exact HO_234001.out) (Kd.R_base ho0) hb)
         have n3_ := mkA (Kd.R_lower (Kd.R_new' (Kd.R_new' (Kd.R_new' ho0 (Kd.R_lt (by (with_reducible repeat (first | apply Kd.R_alloc | apply Kd.R_drewN | apply Kd.R_drew)); exact HO_223001.out))) (Kd.R_lt (by (with_reducible repeat (first | apply Kd.R_alloc | apply Kd.R_drewN | apply Kd.R_drew)); exact HO_228001.out))) (Kd.R_lt (by (with_reducible repeat (first | apply Kd.R_alloc | apply Kd.R_drewN | apply Kd.R_drew)); exact HO_234001.out))) (below_size (bs4_ HB.out GE211.out GE222.out GE227.out GE233.out)))
         have n4_ := mkA (blk_below (g := gb211) (o := .cells #[.string a0_0, .slice A0_1 l0_1.length c0_1] 24 (0, 0)) (bl_ BK211.out) hb)
         have n5_ := mkA (blk_below (g := gb222) (o := .cells #[.string t217, .slice Ao23 t218.length co23] 29 (0, 0)) (bl_ BK222.out) hb)
         have n6_ := mkA (blk_below (g := gb227) (o := .cells #[.string t223, .slice Ao30 t224.length co30] 29 (0, 0)) (bl_ BK227.out) hb)
         have n7_ := mkA (blk_below (g := gb233) (o := .cells #[.string t228, .slice Ao37 t229.length co37] 29 (0, 0)) (bl_ BK233.out) hb)
         have n8_ := mkA (below_step (bs4_ HB.out GE211.out GE222.out GE227.out GE233.out) hb)
         clear HO_223001
         clear HO_228001
         clear HO_234001
         clear BK211
         clear BK222
         clear BK227
         clear BK233
         clear HB
         have HO_223001 := n0_
         have HO_228001 := n1_
         have HO_234001 := n2_
         have HO238 := n3_
         have BK211 := n4_
         have BK222 := n5_
         have BK227 := n6_
         have BK233 := n7_
         have HB := n8_
         clear n0_ n1_ n2_ n3_ n4_ n5_ n6_ n7_ n8_
         (try clear hb)
         (try clear hb2)
         (try clear hk)
         (try clear hi)
         (try clear ho0)
         obtain ⟨Ao178, co178, eo178⟩ := Kd.R_slice HO238.out
         (first | subst eo178 | (injection eo178 with f1_ f2_ f3_; have f4_ := f1_.symm; have f5_ := f3_.symm; clear f1_ f2_ f3_; subst f4_; subst f5_))
         refine hK.out _ _ ⟨(blk_cell BK227.out 0).trans rfl, (blk_cell BK227.out 1).trans rfl, (blk_cell BK211.out 0).trans rfl, (blk_cell BK211.out 1).trans rfl⟩ (fun hHeld => ?_)
         clear hK K
         refine norm_ (a' := ?_) ?_ ?_
         rotate_left
         · show Act.put _ (some 47) _ = _
           simp only [Act.put, sA, sB, sC, i64_w, i32_w]
           rfl
         refine one_ (i := 3) (N := some 48) #[true, true, true, true, false] rfl rfl (by kernel_rfl) (by decide) (fun K hK => ?_)
         refine goes_ Try.func13 (by kernel_rfl) rfl #[.agg #[.string t223, .slice Ao30 t224.length co30], .agg #[.string t235, .slice Ao178 t236.length co178]] (by rfl) rfl rfl (by (try simp only [List.map_toArray, List.map_cons, List.map_nil]); first | done | rfl | (simp only [List.length_drop, List.length_take]; rfl)) ?_
         with_reducible refine (laws_eqRecipe.calls kj11 t223 _ _ t224 t235 _ _ t236 false _ ?side1 ?side2 ?side3 ?side4 A58.out).mono ?_
         (case side1 => repeat (first | exact (Kd.R_reads' HO_228001.out).2.2 | (with_reducible refine Kd.C_alloc ?_ _) | (with_reducible refine Kd.C_drewN ?_ _) | (with_reducible refine Kd.C_drew ?_)))
         (case side2 => exact (Kd.R_reads' HO_228001.out).2.1)
         (case side3 => repeat (first | exact (Kd.R_reads' HO238.out).2.2 | (with_reducible refine Kd.C_alloc ?_ _) | (with_reducible refine Kd.C_drewN ?_ _) | (with_reducible refine Kd.C_drew ?_)))
         (case side4 => exact (Kd.R_reads' HO238.out).2.1)
         rintro e w179 ⟨rfl, hb⟩
         refine ⟨_, rfl, ?_⟩
         have n0_ := mkA (Kd.R_below (by (with_reducible repeat (first | apply Kd.R_alloc | apply Kd.R_drewN | apply Kd.R_drew)); exact HO_223001.out) hb)
         have n1_ := mkA (Kd.R_below (by (with_reducible repeat (first | apply Kd.R_alloc | apply Kd.R_drewN | apply Kd.R_drew)); exact HO_228001.out) hb)
         have n2_ := mkA (Kd.R_below (by (with_reducible repeat (first | apply Kd.R_alloc | apply Kd.R_drewN | apply Kd.R_drew)); exact HO_234001.out) hb)
         have n3_ := mkA (Kd.R_below (by (with_reducible repeat (first | apply Kd.R_alloc | apply Kd.R_drewN | apply Kd.R_drew)); exact HO238.out) hb)
         have n4_ := mkA (blk_below (g := gb211) (o := .cells #[.string a0_0, .slice A0_1 l0_1.length c0_1] 24 (0, 0)) (bl_ BK211.out) hb)
         have n5_ := mkA (blk_below (g := gb222) (o := .cells #[.string t217, .slice Ao23 t218.length co23] 29 (0, 0)) (bl_ BK222.out) hb)
         have n6_ := mkA (blk_below (g := gb227) (o := .cells #[.string t223, .slice Ao30 t224.length co30] 29 (0, 0)) (bl_ BK227.out) hb)
         have n7_ := mkA (blk_below (g := gb233) (o := .cells #[.string t228, .slice Ao37 t229.length co37] 29 (0, 0)) (bl_ BK233.out) hb)
         have n8_ := mkA (below_step (bs4_ HB.out GE211.out GE222.out GE227.out GE233.out) hb)
         clear HO_223001
         clear HO_228001
         clear HO_234001
         clear HO238
         clear BK211
         clear BK222
         clear BK227
         clear BK233
         clear HB
         have HO_223001 := n0_
         have HO_228001 := n1_
         have HO_234001 := n2_
         have HO238 := n3_
         have BK211 := n4_
         have BK222 := n5_
         have BK227 := n6_
         have BK233 := n7_
         have HB := n8_
         clear n0_ n1_ n2_ n3_ n4_ n5_ n6_ n7_ n8_
         (try clear hb)
         (try clear hb2)
         (try clear hk)
         (try clear hi)
         refine hK.out _ _ ⟨(blk_cell BK227.out 0).trans rfl, (blk_cell BK227.out 1).trans rfl, (blk_cell BK211.out 0).trans rfl, (blk_cell BK211.out 1).trans rfl⟩ (fun hHeld => ?_)
         clear hK K
         refine norm_ (a' := ?_) ?_ ?_
         rotate_left
         · show Act.put _ (some 48) _ = _
           simp only [Act.put, sA, sB, sC, i64_w, i32_w]
           rfl
         refine pure_ (i := 4) (N := some 49) (v := ?_) (a' := ?_) #[true, true, true, true, true] rfl rfl (by kernel_rfl) (fun _ _ _ h => h) (Or.inl ⟨by rfl, ?_⟩) ?_ ?_
         rotate_left
         · intro w'
           go_simp
           with_reducible rfl
         rotate_left
         · simp only [Act.put, sA, sB, sC, i64_w, i32_w]
           rfl
         refine done_ (by kernel_rfl) ?_
         try go_wp2
         go_ret
         exact ⟨by first | rfl | (simp [errW_none, errW_some] <;> rfl) | (simp [*, errW_none, errW_some] <;> rfl), by repeat (first | (with_reducible first | exact HB.out | apply below_alloc | apply pw_below_drewN | apply below_drew1 | refine below_set ?_ GE211.out | refine below_set ?_ GE222.out | refine below_set ?_ GE227.out | refine below_set ?_ GE233.out) | exact HB.out)⟩
       subst c59
       have H1 : ((laws_markRecipe.f kj11 t223 t224 1).bind fun bt240 => (if bt240.1 < 0 then (laws_FnExactScaleRecipe.j1 kj11 a1 t221 true a0_0 l0_1 t217 t218 t228 t229) else ((laws_eqRecipe.f kj11 t228 t229 t217 t218).bind fun t242 => (if t242 = true then (laws_FnExactScaleRecipe.j1 kj11 a1 t221 (t232 != t221) a0_0 l0_1 t217 t218 t228 t229) else (laws_FnExactScaleRecipe.j1 kj11 a1 t221 true a0_0 l0_1 t217 t218 t228 t229))))) = some r := by rw [if_pos rfl] at H; exact H
       clear H
       have H := H1
       clear H1
       replace H := Option.bind_eq_some_iff.mp H
       obtain ⟨⟨t240, t241⟩, A600, H⟩ := H
       replace H : (if t240 < 0 then (laws_FnExactScaleRecipe.j1 kj11 a1 t221 true a0_0 l0_1 t217 t218 t228 t229) else ((laws_eqRecipe.f kj11 t228 t229 t217 t218).bind fun t242 => (if t242 = true then (laws_FnExactScaleRecipe.j1 kj11 a1 t221 (t232 != t221) a0_0 l0_1 t217 t218 t228 t229) else (laws_FnExactScaleRecipe.j1 kj11 a1 t221 true a0_0 l0_1 t217 t218 t228 t229)))) = some r := H
       have A60 := mkA A600
       clear A600
       have HC61 := mkA H
       clear H
       try go_wp2
       have n0_ := mkA (Kd.R_drew HO_223001.out)
       have n1_ := mkA (Kd.R_drew HO_228001.out)
       have n2_ := mkA (Kd.R_drew HO_234001.out)
       have n3_ := mkA (blk_drew BK211.out)
       have n4_ := mkA (blk_drew BK222.out)
       have n5_ := mkA (blk_drew BK227.out)
       have n6_ := mkA (blk_drew BK233.out)
       have n7_ := mkA (below_drew1 HB.out)
       clear HO_223001
       clear HO_228001
       clear HO_234001
       clear BK211
       clear BK222
       clear BK227
       clear BK233
       clear HB
       have HO_223001 := n0_
       have HO_228001 := n1_
       have HO_234001 := n2_
       have BK211 := n3_
       have BK222 := n4_
       have BK227 := n5_
       have BK233 := n6_
       have HB := n7_
       clear n0_ n1_ n2_ n3_ n4_ n5_ n6_ n7_
       refine start_ (n := 5) (S := fun w' => w'.cell? ⟨gb227, 0, none⟩ = some (.string t223) ∧ w'.cell? ⟨gb227, 1, none⟩ = some (.slice Ao30 t224.length co30) ∧ w'.cell? ⟨gb211, 0, none⟩ = some (.string a0_0) ∧ w'.cell? ⟨gb211, 1, none⟩ = some (.slice A0_1 l0_1.length c0_1)) (ds := []) #[false, false, false, false, false] (by kernel_rfl) rfl rfl ⟨(blk_cell BK227.out 0).trans rfl, (blk_cell BK227.out 1).trans rfl, (blk_cell BK211.out 0).trans rfl, (blk_cell BK211.out 1).trans rfl⟩ (fun hHeld => ?_)
       generalize wc.drew = w62 at HO_223001 HO_228001 HO_234001 BK211 BK222 BK227 BK233 HB hHeld ⊢
       refine take_ (i := 0) (N := some 45) (v := ?_) (a' := ?_) #[true, false, false, false, false] rfl rfl (by kernel_rfl) (fun _ _ _ h => h) (Or.inl ⟨by rfl, ?_⟩) hHeld ?_ ?_
       rotate_left
       · rintro w' ⟨s0, s1, s2, s3⟩
         go_simp
         with_reducible rfl
       rotate_left
       · simp only [Act.put, sA, sB, sC, i64_w, i32_w]
         rfl
       refine take_ (i := 1) (N := some 46) (v := ?_) (a' := ?_) #[true, true, false, false, false] rfl rfl (by kernel_rfl) (fun _ _ _ h => h) (Or.inl ⟨by rfl, ?_⟩) hHeld ?_ ?_
       rotate_left
       · rintro w' ⟨s0, s1, s2, s3⟩
         go_simp
         with_reducible rfl
       rotate_left
       · simp only [Act.put, sA, sB, sC, i64_w, i32_w]
         rfl
       refine one_ (i := 2) (N := some 47) #[true, true, true, false, false] rfl rfl (by kernel_rfl) (by decide) (fun K hK => ?_)
       refine goes_ Try.func11 (by kernel_rfl) rfl #[.agg #[.string a0_0, .slice A0_1 l0_1.length c0_1]] (by rfl) rfl rfl (by (try simp only [List.map_toArray, List.map_cons, List.map_nil]); first | done | rfl | (simp only [List.length_drop, List.length_take]; rfl)) ?_
       with_reducible refine (laws_toRecipe.calls kj11 a0_0 _ _ l0_1 t235 t236 _ ?side1 ?side2 A57.out).mono ?_
       (case side1 => exact cb_ HR0_1.out HB.out)
       (case side2 => exact HC0_1.out)
       rintro e w63 ⟨v237, rfl, ho0, hb⟩
       refine ⟨_, rfl, ?_⟩
       have n0_ := mkA (Kd.R_elder' (by (with_reducible repeat (first | apply Kd.R_alloc | apply Kd.R_drewN | apply Kd.R_drew)); exact HO_223001.out) (Kd.R_base ho0) hb)
       have n1_ := mkA (Kd.R_elder' (by (with_reducible repeat (first | apply Kd.R_alloc | apply Kd.R_drewN | apply Kd.R_drew)); exact HO_228001.out) (Kd.R_base ho0) hb)
       have n2_ := mkA (Kd.R_elder' (by (with_reducible repeat (first | apply Kd.R_alloc | apply Kd.R_drewN | apply Kd.R_drew)); exact HO_234001.out) (Kd.R_base ho0) hb)
       have n3_ := mkA (Kd.R_lower (Kd.R_new' (Kd.R_new' (Kd.R_new' ho0 (Kd.R_lt (by (with_reducible repeat (first | apply Kd.R_alloc | apply Kd.R_drewN | apply Kd.R_drew)); exact HO_223001.out))) (Kd.R_lt (by (with_reducible repeat (first | apply Kd.R_alloc | apply Kd.R_drewN | apply Kd.R_drew)); exact HO_228001.out))) (Kd.R_lt (by (with_reducible repeat (first | apply Kd.R_alloc | apply Kd.R_drewN | apply Kd.R_drew)); exact HO_234001.out))) (below_size (bs4_ HB.out GE211.out GE222.out GE227.out GE233.out)))
       have n4_ := mkA (blk_below (g := gb211) (o := .cells #[.string a0_0, .slice A0_1 l0_1.length c0_1] 24 (0, 0)) (bl_ BK211.out) hb)
       have n5_ := mkA (blk_below (g := gb222) (o := .cells #[.string t217, .slice Ao23 t218.length co23] 29 (0, 0)) (bl_ BK222.out) hb)
       have n6_ := mkA (blk_below (g := gb227) (o := .cells #[.string t223, .slice Ao30 t224.length co30] 29 (0, 0)) (bl_ BK227.out) hb)
       have n7_ := mkA (blk_below (g := gb233) (o := .cells #[.string t228, .slice Ao37 t229.length co37] 29 (0, 0)) (bl_ BK233.out) hb)
       have n8_ := mkA (below_step (bs4_ HB.out GE211.out GE222.out GE227.out GE233.out) hb)
       clear HO_223001
       clear HO_228001
       clear HO_234001
       clear BK211
       clear BK222
       clear BK227
       clear BK233
       clear HB
       have HO_223001 := n0_
       have HO_228001 := n1_
       have HO_234001 := n2_
       have HO238 := n3_
       have BK211 := n4_
       have BK222 := n5_
       have BK227 := n6_
       have BK233 := n7_
       have HB := n8_
       clear n0_ n1_ n2_ n3_ n4_ n5_ n6_ n7_ n8_
       (try clear hb)
       (try clear hb2)
       (try clear hk)
       (try clear hi)
       (try clear ho0)
       obtain ⟨Ao64, co64, eo64⟩ := Kd.R_slice HO238.out
       (first | subst eo64 | (injection eo64 with f1_ f2_ f3_; have f4_ := f1_.symm; have f5_ := f3_.symm; clear f1_ f2_ f3_; subst f4_; subst f5_))
       refine hK.out _ _ ⟨(blk_cell BK227.out 0).trans rfl, (blk_cell BK227.out 1).trans rfl, (blk_cell BK211.out 0).trans rfl, (blk_cell BK211.out 1).trans rfl⟩ (fun hHeld => ?_)
       clear hK K
       refine norm_ (a' := ?_) ?_ ?_
       rotate_left
       · show Act.put _ (some 47) _ = _
         simp only [Act.put, sA, sB, sC, i64_w, i32_w]
         rfl
       refine one_ (i := 3) (N := some 48) #[true, true, true, true, false] rfl rfl (by kernel_rfl) (by decide) (fun K hK => ?_)
       refine goes_ Try.func13 (by kernel_rfl) rfl #[.agg #[.string t223, .slice Ao30 t224.length co30], .agg #[.string t235, .slice Ao64 t236.length co64]] (by rfl) rfl rfl (by (try simp only [List.map_toArray, List.map_cons, List.map_nil]); first | done | rfl | (simp only [List.length_drop, List.length_take]; rfl)) ?_
       with_reducible refine (laws_eqRecipe.calls kj11 t223 _ _ t224 t235 _ _ t236 true _ ?side1 ?side2 ?side3 ?side4 A58.out).mono ?_
       (case side1 => repeat (first | exact (Kd.R_reads' HO_228001.out).2.2 | (with_reducible refine Kd.C_alloc ?_ _) | (with_reducible refine Kd.C_drewN ?_ _) | (with_reducible refine Kd.C_drew ?_)))
       (case side2 => exact (Kd.R_reads' HO_228001.out).2.1)
       (case side3 => repeat (first | exact (Kd.R_reads' HO238.out).2.2 | (with_reducible refine Kd.C_alloc ?_ _) | (with_reducible refine Kd.C_drewN ?_ _) | (with_reducible refine Kd.C_drew ?_)))
       (case side4 => exact (Kd.R_reads' HO238.out).2.1)
       rintro e w65 ⟨rfl, hb⟩
       refine ⟨_, rfl, ?_⟩
       have n0_ := mkA (Kd.R_below (by (with_reducible repeat (first | apply Kd.R_alloc | apply Kd.R_drewN | apply Kd.R_drew)); exact HO_223001.out) hb)
       have n1_ := mkA (Kd.R_below (by (with_reducible repeat (first | apply Kd.R_alloc | apply Kd.R_drewN | apply Kd.R_drew)); exact HO_228001.out) hb)
       have n2_ := mkA (Kd.R_below (by (with_reducible repeat (first | apply Kd.R_alloc | apply Kd.R_drewN | apply Kd.R_drew)); exact HO_234001.out) hb)
       have n3_ := mkA (Kd.R_below (by (with_reducible repeat (first | apply Kd.R_alloc | apply Kd.R_drewN | apply Kd.R_drew)); exact HO238.out) hb)
       have n4_ := mkA (blk_below (g := gb211) (o := .cells #[.string a0_0, .slice A0_1 l0_1.length c0_1] 24 (0, 0)) (bl_ BK211.out) hb)
       have n5_ := mkA (blk_below (g := gb222) (o := .cells #[.string t217, .slice Ao23 t218.length co23] 29 (0, 0)) (bl_ BK222.out) hb)
       have n6_ := mkA (blk_below (g := gb227) (o := .cells #[.string t223, .slice Ao30 t224.length co30] 29 (0, 0)) (bl_ BK227.out) hb)
       have n7_ := mkA (blk_below (g := gb233) (o := .cells #[.string t228, .slice Ao37 t229.length co37] 29 (0, 0)) (bl_ BK233.out) hb)
       have n8_ := mkA (below_step (bs4_ HB.out GE211.out GE222.out GE227.out GE233.out) hb)
       clear HO_223001
       clear HO_228001
       clear HO_234001
       clear HO238
       clear BK211
       clear BK222
       clear BK227
       clear BK233
       clear HB
       have HO_223001 := n0_
       have HO_228001 := n1_
       have HO_234001 := n2_
       have HO238 := n3_
       have BK211 := n4_
       have BK222 := n5_
       have BK227 := n6_
       have BK233 := n7_
       have HB := n8_
       clear n0_ n1_ n2_ n3_ n4_ n5_ n6_ n7_ n8_
       (try clear hb)
       (try clear hb2)
       (try clear hk)
       (try clear hi)
       refine hK.out _ _ ⟨(blk_cell BK227.out 0).trans rfl, (blk_cell BK227.out 1).trans rfl, (blk_cell BK211.out 0).trans rfl, (blk_cell BK211.out 1).trans rfl⟩ (fun hHeld => ?_)
       clear hK K
       refine norm_ (a' := ?_) ?_ ?_
       rotate_left
       · show Act.put _ (some 48) _ = _
         simp only [Act.put, sA, sB, sC, i64_w, i32_w]
         rfl
       refine pure_ (i := 4) (N := some 49) (v := ?_) (a' := ?_) #[true, true, true, true, true] rfl rfl (by kernel_rfl) (fun _ _ _ h => h) (Or.inl ⟨by rfl, ?_⟩) ?_ ?_
       rotate_left
       · intro w'
         go_simp
         with_reducible rfl
       rotate_left
       · simp only [Act.put, sA, sB, sC, i64_w, i32_w]
         rfl
       refine done_ (by kernel_rfl) ?_
       have hnb66 := NB227_211.out
       have hnc66 := NB211_227.out
       have hnb67 := NB227_222.out
       have hnc67 := NB222_227.out
       have hnb68 := NB227_233.out
       have hnc68 := NB233_227.out
       have hcz69_0 : w65.cell? ⟨gb227, 0, none⟩ = some (.string t223) := (blk_cell BK227.out 0).trans rfl
       have hcz69_1 : w65.cell? ⟨gb227, 1, none⟩ = some (.slice Ao30 t224.length co30) := (blk_cell BK227.out 1).trans rfl
       have hfz69_0 := blk_frozen BK227.out 0
       have hfz69_1 := blk_frozen BK227.out 1
       go_upto_region 14 with (first | ((with_reducible refine gate_callee (f := 26) rfl ?_); refine goesL_ (some 52) rfl rfl Try.func26 (by kernel_rfl) rfl #[.agg #[.string t223, .slice Ao30 t224.length co30], .int .i64 1] rfl (by (try simp only [List.map_toArray, List.map_cons, List.map_nil]); first | done | rfl | (simp only [List.length_drop, List.length_take]; rfl)) ?_; (with_reducible refine (laws_markRecipe.calls kj11 t223 (fun k_ => some k_ = (.slice Ao30 t224.length co30 : Value).ownBlock) (.slice Ao30 t224.length co30) t224 1 t240 t241 w _ ?side1 ?side2 A60.out).mono ?_); (case side1 => repeat (first | (with_reducible first | exact HB.out | apply below_alloc | apply pw_below_drewN | apply below_drew1 | refine below_set ?_ GE211.out | refine below_set ?_ GE222.out | refine below_set ?_ GE227.out | refine below_set ?_ GE233.out) | exact HB.out)); (case side2 => exact Kd.R_tight rfl HO_228001.out); rintro e w70 ⟨rfl, hy0, hb, hkp⟩; refine ⟨_, rfl, ?_⟩; have n0_ := mkA (Kd.R_mono (ok' := fun k_ => some k_ ≠ (.slice Ao30 t224.length co30 : Value).ownBlock ∧ some k_ ≠ (.slice Ao37 t229.length co37 : Value).ownBlock ∧ some k_ ≠ (.slice Ao64 t236.length co64 : Value).ownBlock) (Kd.R_keptB (HO_223001.out) hkp (fun k_ hk_ hs_ => (hk_.1.1) hs_)) (fun k_ hk_ => ⟨hk_.1.1.1, hk_.1.1.2, hk_.1.2⟩)); have n1_ := mkA (Kd.R_reok rfl hy0 (fun k_ e_ => HO_228001.out.1 k_ e_)); have n2_ := mkA (Kd.R_mono (ok' := fun k_ => some k_ ≠ (.slice Ao23 t218.length co23 : Value).ownBlock ∧ some k_ ≠ (.slice Ao30 t224.length co30 : Value).ownBlock ∧ some k_ ≠ (.slice Ao64 t236.length co64 : Value).ownBlock) (Kd.R_keptB (HO_234001.out) hkp (fun k_ hk_ hs_ => (hk_.1.2) hs_)) (fun k_ hk_ => ⟨hk_.1.1.1, hk_.1.1.2, hk_.1.2⟩)); have n3_ := mkA (blk_kept (bl_ BK211.out) hkp (fun hs_ => (fun e_ => (Kd.R_ne HO_228001.out BK211.out (by decide)) e_) hs_)); have n4_ := mkA (blk_kept (bl_ BK222.out) hkp (fun hs_ => (fun e_ => (Kd.R_ne HO_228001.out BK222.out (by decide)) e_) hs_)); have n5_ := mkA (blk_kept (bl_ BK227.out) hkp (fun hs_ => (fun e_ => (Kd.R_ne HO_228001.out BK227.out (by decide)) e_) hs_)); have n6_ := mkA (blk_kept (bl_ BK233.out) hkp (fun hs_ => (fun e_ => (Kd.R_ne HO_228001.out BK233.out (by decide)) e_) hs_)); have n7_ := mkA (Kd.R_mono (ok' := fun k_ => some k_ ≠ (.slice Ao23 t218.length co23 : Value).ownBlock ∧ some k_ ≠ (.slice Ao30 t224.length co30 : Value).ownBlock ∧ some k_ ≠ (.slice Ao37 t229.length co37 : Value).ownBlock) (Kd.R_keptB (HO238.out) hkp (fun k_ hk_ hs_ => (hk_.1.2) hs_)) (fun k_ hk_ => ⟨hk_.1.1.1.2, hk_.1.1.2, hk_.1.2⟩)); have n8_ := mkA (hb); clear HO_223001; clear HO_228001; clear HO_234001; clear BK211; clear BK222; clear BK227; clear BK233; clear HO238; clear HB; have HO_223001 := n0_; have HO_228001 := n1_; have HO_234001 := n2_; have BK211 := n3_; have BK222 := n4_; have BK227 := n5_; have BK233 := n6_; have HO238 := n7_; have HB := n8_; clear n0_ n1_ n2_ n3_ n4_ n5_ n6_ n7_ n8_; (try clear hb); (try clear hkp); (try clear hy0)))
       (try simp only [Act.put, sA, sB, sC])
       go_cut [65] (fun v65 wc => ∃ (kq : Nat) (x65_60 : Bool), v65 = .bool x65_60 ∧ Aside0 (laws_FnExactScaleRecipe.j1 kq a1 t221 x65_60 a0_0 l0_1 t217 t218 t228 t229 = some r) ∧ Aside0 (kq ≤ kj11) ∧ Aside0 (Kd.R k38 38 wc w.heap.size (fun k_ => some k_ ≠ ((.slice Ao30 t224.length co30) : Value).ownBlock ∧ some k_ ≠ ((.slice Ao37 t229.length co37) : Value).ownBlock) (.slice Ao23 t218.length co23) t218) ∧ Aside0 (Kd.R k38 38 wc w.heap.size (fun k_ => some k_ ≠ ((.slice Ao23 t218.length co23) : Value).ownBlock ∧ some k_ ≠ ((.slice Ao37 t229.length co37) : Value).ownBlock) (.slice Ao30 t224.length co30) t241) ∧ Aside0 (Kd.R k38 38 wc w.heap.size (fun k_ => some k_ ≠ ((.slice Ao23 t218.length co23) : Value).ownBlock ∧ some k_ ≠ ((.slice Ao30 t224.length co30) : Value).ownBlock) (.slice Ao37 t229.length co37) t229) ∧ Aside0 (wc.heap[gb211]? = some (.cells #[.string a0_0, (.slice A0_1 l0_1.length c0_1)] 24 (0, 0))) ∧ Aside0 (wc.heap[gb222]? = some (.cells #[.string t217, (.slice Ao23 t218.length co23)] 29 (0, 0))) ∧ Aside0 (wc.heap[gb227]? = some (.cells #[.string t223, (.slice Ao30 t224.length co30)] 29 (0, 0))) ∧ Aside0 (wc.heap[gb233]? = some (.cells #[.string t228, (.slice Ao37 t229.length co37)] 29 (0, 0))) ∧ Aside0 (Below w.heap.size w wc))
       case first =>
        have H := HC61.out
        clear HC61
        by_cases c71 : t240 < 0
        · rw [if_pos c71] at H
          have c71b0 : decide (t240 < 0) = true := decide_eq_true c71
          clear c71
          (first | rw [c71b0] | (simp only [i64_w, i32_w]; rw [c71b0]) | skip)
          have H' := mkA H
          clear H
          go_wp2
          go_meet
          case rel => exact ⟨_, (true), (by first | rfl | (simp; done) | (simp [*]; done) | (simp [i64_w, i32_w]; done)), H', ⟨by have := HJ11.out; first | omega | exact Nat.le_refl _⟩, ⟨by (with_reducible repeat (first | apply Kd.R_alloc | apply Kd.R_drewN | apply Kd.R_drew)); exact Kd.R_mono HO_223001.out (fun _ hk => ⟨hk.1, hk.2.1⟩)⟩, ⟨by (with_reducible repeat (first | apply Kd.R_alloc | apply Kd.R_drewN | apply Kd.R_drew)); exact Kd.R_mono HO_228001.out (fun _ hk => ⟨hk.1.1, hk.1.2⟩)⟩, ⟨by (with_reducible repeat (first | apply Kd.R_alloc | apply Kd.R_drewN | apply Kd.R_drew)); exact Kd.R_mono HO_234001.out (fun _ hk => ⟨hk.1, hk.2.1⟩)⟩, ⟨by (with_reducible repeat (first | refine blk_drewN ?_ _ | refine blk_drew ?_ | refine blk_alloc ?_ _)); exact BK211.out⟩, ⟨by (with_reducible repeat (first | refine blk_drewN ?_ _ | refine blk_drew ?_ | refine blk_alloc ?_ _)); exact BK222.out⟩, ⟨by (with_reducible repeat (first | refine blk_drewN ?_ _ | refine blk_drew ?_ | refine blk_alloc ?_ _)); exact BK227.out⟩, ⟨by (with_reducible repeat (first | refine blk_drewN ?_ _ | refine blk_drew ?_ | refine blk_alloc ?_ _)); exact BK233.out⟩, ⟨by repeat (first | (with_reducible first | exact HB.out | apply below_alloc | apply pw_below_drewN | apply below_drew1 | refine below_set ?_ GE211.out | refine below_set ?_ GE222.out | refine below_set ?_ GE227.out | refine below_set ?_ GE233.out) | exact HB.out)⟩⟩
        · rw [if_neg c71] at H
          have c71b0 : decide (t240 < 0) = false := decide_eq_false c71
          clear c71
          (first | rw [c71b0] | (simp only [i64_w, i32_w]; rw [c71b0]) | skip)
          replace H := Option.bind_eq_some_iff.mp H
          obtain ⟨t242, A720, H⟩ := H
          replace H : (if t242 = true then (laws_FnExactScaleRecipe.j1 kj11 a1 t221 (t232 != t221) a0_0 l0_1 t217 t218 t228 t229) else (laws_FnExactScaleRecipe.j1 kj11 a1 t221 true a0_0 l0_1 t217 t218 t228 t229)) = some r := H
          have A72 := mkA A720
          clear A720
          by_cases c73 : t242 = true
          · subst c73
            have H1 : (laws_FnExactScaleRecipe.j1 kj11 a1 t221 (t232 != t221) a0_0 l0_1 t217 t218 t228 t229) = some r := by rw [if_pos rfl] at H; exact H
            clear H
            have H := H1
            clear H1
            have H' := mkA H
            clear H
            have hnb74 := NB233_211.out
            have hnc74 := NB211_233.out
            have hnb75 := NB233_222.out
            have hnc75 := NB222_233.out
            have hnb76 := NB233_227.out
            have hnc76 := NB227_233.out
            have hcz77_0 : w70.cell? ⟨gb233, 0, none⟩ = some (.string t228) := (blk_cell BK233.out 0).trans rfl
            have hcz77_1 : w70.cell? ⟨gb233, 1, none⟩ = some (.slice Ao37 t229.length co37) := (blk_cell BK233.out 1).trans rfl
            have hfz77_0 := blk_frozen BK233.out 0
            have hfz77_1 := blk_frozen BK233.out 1
            have hnb78 := NB222_211.out
            have hnc78 := NB211_222.out
            have hnb79 := NB222_227.out
            have hnc79 := NB227_222.out
            have hcz80_0 : w70.cell? ⟨gb222, 0, none⟩ = some (.string t217) := (blk_cell BK222.out 0).trans rfl
            have hcz80_1 : w70.cell? ⟨gb222, 1, none⟩ = some (.slice Ao23 t218.length co23) := (blk_cell BK222.out 1).trans rfl
            have hfz80_0 := blk_frozen BK222.out 0
            have hfz80_1 := blk_frozen BK222.out 1
            go_wp2_with (first | (go_at_call 13; (with_reducible refine (laws_eqRecipe.calls kj11 t228 _ _ t229 t217 _ _ t218 true _ ?side1 ?side2 ?side3 ?side4 A72.out).mono ?_); (case side1 => repeat (first | exact (Kd.R_reads' HO_234001.out).2.2 | (with_reducible refine Kd.C_alloc ?_ _) | (with_reducible refine Kd.C_drewN ?_ _) | (with_reducible refine Kd.C_drew ?_))); (case side2 => exact (Kd.R_reads' HO_234001.out).2.1); (case side3 => repeat (first | exact (Kd.R_reads' HO_223001.out).2.2 | (with_reducible refine Kd.C_alloc ?_ _) | (with_reducible refine Kd.C_drewN ?_ _) | (with_reducible refine Kd.C_drew ?_))); (case side4 => exact (Kd.R_reads' HO_223001.out).2.1); rintro e w81 ⟨rfl, hb⟩; have n0_ := mkA (Kd.R_below (by (with_reducible repeat (first | apply Kd.R_alloc | apply Kd.R_drewN | apply Kd.R_drew)); exact HO_223001.out) hb); have n1_ := mkA (Kd.R_below (by (with_reducible repeat (first | apply Kd.R_alloc | apply Kd.R_drewN | apply Kd.R_drew)); exact HO_228001.out) hb); have n2_ := mkA (Kd.R_below (by (with_reducible repeat (first | apply Kd.R_alloc | apply Kd.R_drewN | apply Kd.R_drew)); exact HO_234001.out) hb); have n3_ := mkA (Kd.R_below (by (with_reducible repeat (first | apply Kd.R_alloc | apply Kd.R_drewN | apply Kd.R_drew)); exact HO238.out) hb); have n4_ := mkA (blk_below (g := gb211) (o := .cells #[.string a0_0, .slice A0_1 l0_1.length c0_1] 24 (0, 0)) (bl_ BK211.out) hb); have n5_ := mkA (blk_below (g := gb222) (o := .cells #[.string t217, .slice Ao23 t218.length co23] 29 (0, 0)) (bl_ BK222.out) hb); have n6_ := mkA (blk_below (g := gb227) (o := .cells #[.string t223, .slice Ao30 t224.length co30] 29 (0, 0)) (bl_ BK227.out) hb); have n7_ := mkA (blk_below (g := gb233) (o := .cells #[.string t228, .slice Ao37 t229.length co37] 29 (0, 0)) (bl_ BK233.out) hb); have n8_ := mkA (below_step (bs4_ HB.out GE211.out GE222.out GE227.out GE233.out) hb); clear HO_223001; clear HO_228001; clear HO_234001; clear HO238; clear BK211; clear BK222; clear BK227; clear BK233; clear HB; have HO_223001 := n0_; have HO_228001 := n1_; have HO_234001 := n2_; have HO238 := n3_; have BK211 := n4_; have BK222 := n5_; have BK227 := n6_; have BK233 := n7_; have HB := n8_; clear n0_ n1_ n2_ n3_ n4_ n5_ n6_ n7_ n8_; (try clear hb); (try clear hb2); (try clear hk); (try clear hi)))
            go_meet
            case rel => exact ⟨_, ((t232 != t221)), (by first | rfl | (simp; done) | (simp [*]; done) | (simp [i64_w, i32_w]; done)), H', ⟨by have := HJ11.out; first | omega | exact Nat.le_refl _⟩, ⟨by (with_reducible repeat (first | apply Kd.R_alloc | apply Kd.R_drewN | apply Kd.R_drew)); exact Kd.R_mono HO_223001.out (fun _ hk => ⟨hk.1, hk.2.1⟩)⟩, ⟨by (with_reducible repeat (first | apply Kd.R_alloc | apply Kd.R_drewN | apply Kd.R_drew)); exact Kd.R_mono HO_228001.out (fun _ hk => ⟨hk.1.1, hk.1.2⟩)⟩, ⟨by (with_reducible repeat (first | apply Kd.R_alloc | apply Kd.R_drewN | apply Kd.R_drew)); exact Kd.R_mono HO_234001.out (fun _ hk => ⟨hk.1, hk.2.1⟩)⟩, ⟨by (with_reducible repeat (first | refine blk_drewN ?_ _ | refine blk_drew ?_ | refine blk_alloc ?_ _)); exact BK211.out⟩, ⟨by (with_reducible repeat (first | refine blk_drewN ?_ _ | refine blk_drew ?_ | refine blk_alloc ?_ _)); exact BK222.out⟩, ⟨by (with_reducible repeat (first | refine blk_drewN ?_ _ | refine blk_drew ?_ | refine blk_alloc ?_ _)); exact BK227.out⟩, ⟨by (with_reducible repeat (first | refine blk_drewN ?_ _ | refine blk_drew ?_ | refine blk_alloc ?_ _)); exact BK233.out⟩, ⟨by repeat (first | (with_reducible first | exact HB.out | apply below_alloc | apply pw_below_drewN | apply below_drew1 | refine below_set ?_ GE211.out | refine below_set ?_ GE222.out | refine below_set ?_ GE227.out | refine below_set ?_ GE233.out) | exact HB.out)⟩⟩
          · replace c73 := Bool.eq_false_iff.mpr c73
            subst c73
            have H1 : (laws_FnExactScaleRecipe.j1 kj11 a1 t221 true a0_0 l0_1 t217 t218 t228 t229) = some r := by rw [if_neg (show ¬ (false = true) by decide)] at H; exact H
            clear H
            have H := H1
            clear H1
            have H' := mkA H
            clear H
            have hnb82 := NB233_211.out
            have hnc82 := NB211_233.out
            have hnb83 := NB233_222.out
            have hnc83 := NB222_233.out
            have hnb84 := NB233_227.out
            have hnc84 := NB227_233.out
            have hcz85_0 : w70.cell? ⟨gb233, 0, none⟩ = some (.string t228) := (blk_cell BK233.out 0).trans rfl
            have hcz85_1 : w70.cell? ⟨gb233, 1, none⟩ = some (.slice Ao37 t229.length co37) := (blk_cell BK233.out 1).trans rfl
            have hfz85_0 := blk_frozen BK233.out 0
            have hfz85_1 := blk_frozen BK233.out 1
            have hnb86 := NB222_211.out
            have hnc86 := NB211_222.out
            have hnb87 := NB222_227.out
            have hnc87 := NB227_222.out
            have hcz88_0 : w70.cell? ⟨gb222, 0, none⟩ = some (.string t217) := (blk_cell BK222.out 0).trans rfl
            have hcz88_1 : w70.cell? ⟨gb222, 1, none⟩ = some (.slice Ao23 t218.length co23) := (blk_cell BK222.out 1).trans rfl
            have hfz88_0 := blk_frozen BK222.out 0
            have hfz88_1 := blk_frozen BK222.out 1
            go_wp2_with (first | (go_at_call 13; (with_reducible refine (laws_eqRecipe.calls kj11 t228 _ _ t229 t217 _ _ t218 false _ ?side1 ?side2 ?side3 ?side4 A72.out).mono ?_); (case side1 => repeat (first | exact (Kd.R_reads' HO_234001.out).2.2 | (with_reducible refine Kd.C_alloc ?_ _) | (with_reducible refine Kd.C_drewN ?_ _) | (with_reducible refine Kd.C_drew ?_))); (case side2 => exact (Kd.R_reads' HO_234001.out).2.1); (case side3 => repeat (first | exact (Kd.R_reads' HO_223001.out).2.2 | (with_reducible refine Kd.C_alloc ?_ _) | (with_reducible refine Kd.C_drewN ?_ _) | (with_reducible refine Kd.C_drew ?_))); (case side4 => exact (Kd.R_reads' HO_223001.out).2.1); rintro e w89 ⟨rfl, hb⟩; have n0_ := mkA (Kd.R_below (by (with_reducible repeat (first | apply Kd.R_alloc | apply Kd.R_drewN | apply Kd.R_drew)); exact HO_223001.out) hb); have n1_ := mkA (Kd.R_below (by (with_reducible repeat (first | apply Kd.R_alloc | apply Kd.R_drewN | apply Kd.R_drew)); exact HO_228001.out) hb); have n2_ := mkA (Kd.R_below (by (with_reducible repeat (first | apply Kd.R_alloc | apply Kd.R_drewN | apply Kd.R_drew)); exact HO_234001.out) hb); have n3_ := mkA (Kd.R_below (by (with_reducible repeat (first | apply Kd.R_alloc | apply Kd.R_drewN | apply Kd.R_drew)); exact HO238.out) hb); have n4_ := mkA (blk_below (g := gb211) (o := .cells #[.string a0_0, .slice A0_1 l0_1.length c0_1] 24 (0, 0)) (bl_ BK211.out) hb); have n5_ := mkA (blk_below (g := gb222) (o := .cells #[.string t217, .slice Ao23 t218.length co23] 29 (0, 0)) (bl_ BK222.out) hb); have n6_ := mkA (blk_below (g := gb227) (o := .cells #[.string t223, .slice Ao30 t224.length co30] 29 (0, 0)) (bl_ BK227.out) hb); have n7_ := mkA (blk_below (g := gb233) (o := .cells #[.string t228, .slice Ao37 t229.length co37] 29 (0, 0)) (bl_ BK233.out) hb); have n8_ := mkA (below_step (bs4_ HB.out GE211.out GE222.out GE227.out GE233.out) hb); clear HO_223001; clear HO_228001; clear HO_234001; clear HO238; clear BK211; clear BK222; clear BK227; clear BK233; clear HB; have HO_223001 := n0_; have HO_228001 := n1_; have HO_234001 := n2_; have HO238 := n3_; have BK211 := n4_; have BK222 := n5_; have BK227 := n6_; have BK233 := n7_; have HB := n8_; clear n0_ n1_ n2_ n3_ n4_ n5_ n6_ n7_ n8_; (try clear hb); (try clear hb2); (try clear hk); (try clear hi)))
            go_meet
            case rel => exact ⟨_, (true), (by first | rfl | (simp; done) | (simp [*]; done) | (simp [i64_w, i32_w]; done)), H', ⟨by have := HJ11.out; first | omega | exact Nat.le_refl _⟩, ⟨by (with_reducible repeat (first | apply Kd.R_alloc | apply Kd.R_drewN | apply Kd.R_drew)); exact Kd.R_mono HO_223001.out (fun _ hk => ⟨hk.1, hk.2.1⟩)⟩, ⟨by (with_reducible repeat (first | apply Kd.R_alloc | apply Kd.R_drewN | apply Kd.R_drew)); exact Kd.R_mono HO_228001.out (fun _ hk => ⟨hk.1.1, hk.1.2⟩)⟩, ⟨by (with_reducible repeat (first | apply Kd.R_alloc | apply Kd.R_drewN | apply Kd.R_drew)); exact Kd.R_mono HO_234001.out (fun _ hk => ⟨hk.1, hk.2.1⟩)⟩, ⟨by (with_reducible repeat (first | refine blk_drewN ?_ _ | refine blk_drew ?_ | refine blk_alloc ?_ _)); exact BK211.out⟩, ⟨by (with_reducible repeat (first | refine blk_drewN ?_ _ | refine blk_drew ?_ | refine blk_alloc ?_ _)); exact BK222.out⟩, ⟨by (with_reducible repeat (first | refine blk_drewN ?_ _ | refine blk_drew ?_ | refine blk_alloc ?_ _)); exact BK227.out⟩, ⟨by (with_reducible repeat (first | refine blk_drewN ?_ _ | refine blk_drew ?_ | refine blk_alloc ?_ _)); exact BK233.out⟩, ⟨by repeat (first | (with_reducible first | exact HB.out | apply below_alloc | apply pw_below_drewN | apply below_drew1 | refine below_set ?_ GE211.out | refine below_set ?_ GE222.out | refine below_set ?_ GE227.out | refine below_set ?_ GE233.out) | exact HB.out)⟩⟩
       case rest =>
        clear HC61
        try clear c1
        try clear c2
        try clear p2
        try clear c3
        try clear c4
        try clear c4b0
        try clear c5
        try clear c6
        try clear c7
        try clear c8
        try clear c9
        try clear c11
        try clear c13
        try clear c21
        try clear c24
        try clear c25
        try clear c26
        try clear c27
        try clear c28
        try clear c33
        try clear c34
        try clear c35
        try clear c39
        try clear c40
        try clear c41
        try clear c42
        try clear c44
        try clear c45
        try clear c48
        try clear c49
        try clear c50
        try clear c52
        try clear c53
        try clear c56
        try clear c59
        try clear c66
        try clear c67
        try clear c68
        try clear c71
        try clear c71b0
        try clear c73
        try clear c74
        try clear c75
        try clear c76
        try clear c78
        try clear c79
        try clear c82
        try clear c83
        try clear c84
        try clear c86
        try clear c87
        try clear hcz14_0
        try clear hcz14_1
        try clear hcz16_0
        try clear hcz16_1
        try clear hcz22_0
        try clear hcz22_1
        try clear hcz24_0
        try clear hcz24_1
        try clear hcz29_0
        try clear hcz29_1
        try clear hcz36_0
        try clear hcz36_1
        try clear hcz43_0
        try clear hcz43_1
        try clear hcz46_0
        try clear hcz46_1
        try clear hcz51_0
        try clear hcz51_1
        try clear hcz54_0
        try clear hcz54_1
        try clear hcz69_0
        try clear hcz69_1
        try clear hcz6_0
        try clear hcz6_1
        try clear hcz77_0
        try clear hcz77_1
        try clear hcz80_0
        try clear hcz80_1
        try clear hcz85_0
        try clear hcz85_1
        try clear hcz88_0
        try clear hcz88_1
        try clear hfz14_0
        try clear hfz14_1
        try clear hfz16_0
        try clear hfz16_1
        try clear hfz22_0
        try clear hfz22_1
        try clear hfz24_0
        try clear hfz24_1
        try clear hfz29_0
        try clear hfz29_1
        try clear hfz36_0
        try clear hfz36_1
        try clear hfz43_0
        try clear hfz43_1
        try clear hfz46_0
        try clear hfz46_1
        try clear hfz51_0
        try clear hfz51_1
        try clear hfz54_0
        try clear hfz54_1
        try clear hfz69_0
        try clear hfz69_1
        try clear hfz6_0
        try clear hfz6_1
        try clear hfz77_0
        try clear hfz77_1
        try clear hfz80_0
        try clear hfz80_1
        try clear hfz85_0
        try clear hfz85_1
        try clear hfz88_0
        try clear hfz88_1
        try clear p2
        obtain ⟨kq, x65_60, rfl, HA, HJ60, HO_223001, HO_228001, HO_234001, BK211, BK222, BK227, BK233, HB⟩ := hcut
        have hl228001_60 := (Kd.R_reads' HO_228001.out).1
        rw [hl228001_60] at HO_228001
        (try simp only [hl228001_60])
        (try simp only [hl228001_60] at BK211)
        (try simp only [hl228001_60] at BK222)
        (try simp only [hl228001_60] at BK227)
        (try simp only [hl228001_60] at BK233)
        (try simp only [hl228001_60] at HO_223001)
        (try simp only [hl228001_60] at HO_234001)
        cases kq with
        | zero => exact absurd HA.out (by simp [laws_FnExactScaleRecipe.j1])
        | succ kj60 =>
         have H := HA.out
         clear HA
         simp only [laws_FnExactScaleRecipe.j1] at H
         by_cases c90 : x65_60 = true
         · subst c90
           have H1 : (some false) = some r := by rw [if_pos rfl] at H; exact H
           clear H
           have H := H1
           clear H1
           obtain rfl := Option.some.inj H
           go_wp2
           go_ret
           exact ⟨by first | rfl | (simp [errW_none, errW_some] <;> rfl) | (simp [*, errW_none, errW_some] <;> rfl), by repeat (first | (with_reducible first | exact HB.out | apply below_alloc | apply pw_below_drewN | apply below_drew1 | refine below_set ?_ GE211.out | refine below_set ?_ GE222.out | refine below_set ?_ GE227.out | refine below_set ?_ GE233.out) | exact HB.out)⟩
         · replace c90 := Bool.eq_false_iff.mpr c90
           subst c90
           have H1 : ((laws_markRecipe.f kj60 t228 t229 1).bind fun bt243 => ((laws_heldRecipe.f kj60 t228 bt243.2 1).bind fun t245 => (if t245 < 0 then (some false) else (if t245 = bt243.1 then ((laws_toRecipe.f kj60 a0_0 l0_1).bind fun bt246 => ((impl_ScaleRecipe.f kj60 bt246.1 bt246.2 a1).bind fun bt250 => ((laws_eqRecipe.f kj60 bt250.1 bt250.2.1 t217 t218).bind fun t256 => (if t256 = true then (laws_FnExactScaleRecipe.j2 kj60 bt243.1 (bt250.2.2 != t221) t228 bt243.2) else (laws_FnExactScaleRecipe.j2 kj60 bt243.1 true t228 bt243.2))))) else (some false))))) = some r := by rw [if_neg (show ¬ (false = true) by decide)] at H; exact H
           clear H
           have H := H1
           clear H1
           replace H := Option.bind_eq_some_iff.mp H
           obtain ⟨⟨t243, t244⟩, A910, H⟩ := H
           replace H : ((laws_heldRecipe.f kj60 t228 t244 1).bind fun t245 => (if t245 < 0 then (some false) else (if t245 = t243 then ((laws_toRecipe.f kj60 a0_0 l0_1).bind fun bt246 => ((impl_ScaleRecipe.f kj60 bt246.1 bt246.2 a1).bind fun bt250 => ((laws_eqRecipe.f kj60 bt250.1 bt250.2.1 t217 t218).bind fun t256 => (if t256 = true then (laws_FnExactScaleRecipe.j2 kj60 t243 (bt250.2.2 != t221) t228 t244) else (laws_FnExactScaleRecipe.j2 kj60 t243 true t228 t244))))) else (some false)))) = some r := H
           have A91 := mkA A910
           clear A910
           replace H := Option.bind_eq_some_iff.mp H
           obtain ⟨t245, A920, H⟩ := H
           replace H : (if t245 < 0 then (some false) else (if t245 = t243 then ((laws_toRecipe.f kj60 a0_0 l0_1).bind fun bt246 => ((impl_ScaleRecipe.f kj60 bt246.1 bt246.2 a1).bind fun bt250 => ((laws_eqRecipe.f kj60 bt250.1 bt250.2.1 t217 t218).bind fun t256 => (if t256 = true then (laws_FnExactScaleRecipe.j2 kj60 t243 (bt250.2.2 != t221) t228 t244) else (laws_FnExactScaleRecipe.j2 kj60 t243 true t228 t244))))) else (some false))) = some r := H
           have A92 := mkA A920
           clear A920
           by_cases c93 : t245 < 0
           · rw [if_pos c93] at H
             have c93b0 : decide (t245 < 0) = true := decide_eq_true c93
             clear c93
             obtain rfl := Option.some.inj H
             have hnb94 := NB233_211.out
             have hnc94 := NB211_233.out
             have hnb95 := NB233_222.out
             have hnc95 := NB222_233.out
             have hnb96 := NB233_227.out
             have hnc96 := NB227_233.out
             have hcz97_0 : wc.cell? ⟨gb233, 0, none⟩ = some (.string t228) := (blk_cell BK233.out 0).trans rfl
             have hcz97_1 : wc.cell? ⟨gb233, 1, none⟩ = some (.slice Ao37 t229.length co37) := (blk_cell BK233.out 1).trans rfl
             have hfz97_0 := blk_frozen BK233.out 0
             have hfz97_1 := blk_frozen BK233.out 1
             go_wp2_with (first | ((with_reducible refine gate_callee (f := 26) rfl ?_); refine goesL_ (some 68) rfl rfl Try.func26 (by kernel_rfl) rfl #[.agg #[.string t228, .slice Ao37 t229.length co37], .int .i64 1] rfl (by (try simp only [List.map_toArray, List.map_cons, List.map_nil]); first | done | rfl | (simp only [List.length_drop, List.length_take]; rfl)) ?_; (with_reducible refine (laws_markRecipe.calls kj60 t228 (fun k_ => some k_ = (.slice Ao37 t229.length co37 : Value).ownBlock) (.slice Ao37 t229.length co37) t229 1 t243 t244 w _ ?side1 ?side2 A91.out).mono ?_); (case side1 => repeat (first | (with_reducible first | exact HB.out | apply below_alloc | apply pw_below_drewN | apply below_drew1 | refine below_set ?_ GE211.out | refine below_set ?_ GE222.out | refine below_set ?_ GE227.out | refine below_set ?_ GE233.out) | exact HB.out)); (case side2 => exact Kd.R_tight rfl HO_234001.out); rintro e w98 ⟨rfl, hy0, hb, hkp⟩; refine ⟨_, rfl, ?_⟩; have n0_ := mkA (Kd.R_mono (ok' := fun k_ => some k_ ≠ (.slice Ao30 t241.length co30 : Value).ownBlock ∧ some k_ ≠ (.slice Ao37 t229.length co37 : Value).ownBlock) (Kd.R_keptB (HO_223001.out) hkp (fun k_ hk_ hs_ => (hk_.2) hs_)) (fun k_ hk_ => ⟨hk_.1.1, hk_.1.2⟩)); have n1_ := mkA (Kd.R_mono (ok' := fun k_ => some k_ ≠ (.slice Ao23 t218.length co23 : Value).ownBlock ∧ some k_ ≠ (.slice Ao37 t229.length co37 : Value).ownBlock) (Kd.R_keptB (HO_228001.out) hkp (fun k_ hk_ hs_ => (hk_.2) hs_)) (fun k_ hk_ => ⟨hk_.1.1, hk_.1.2⟩)); have n2_ := mkA (Kd.R_reok rfl hy0 (fun k_ e_ => HO_234001.out.1 k_ e_)); have n3_ := mkA (blk_kept (bl_ BK211.out) hkp (fun hs_ => (fun e_ => (Kd.R_ne HO_234001.out BK211.out (by decide)) e_) hs_)); have n4_ := mkA (blk_kept (bl_ BK222.out) hkp (fun hs_ => (fun e_ => (Kd.R_ne HO_234001.out BK222.out (by decide)) e_) hs_)); have n5_ := mkA (blk_kept (bl_ BK227.out) hkp (fun hs_ => (fun e_ => (Kd.R_ne HO_234001.out BK227.out (by decide)) e_) hs_)); have n6_ := mkA (blk_kept (bl_ BK233.out) hkp (fun hs_ => (fun e_ => (Kd.R_ne HO_234001.out BK233.out (by decide)) e_) hs_)); have n7_ := mkA (hb); clear HO_223001; clear HO_228001; clear HO_234001; clear BK211; clear BK222; clear BK227; clear BK233; clear HB; have HO_223001 := n0_; have HO_228001 := n1_; have HO_234001 := n2_; have BK211 := n3_; have BK222 := n4_; have BK227 := n5_; have BK233 := n6_; have HB := n7_; clear n0_ n1_ n2_ n3_ n4_ n5_ n6_ n7_; (try clear hb); (try clear hkp); (try clear hy0); have hcz99_0 : w98.cell? ⟨gb233, 0, none⟩ = some (.string t228) := (blk_cell BK233.out 0).trans rfl; have hcz99_1 : w98.cell? ⟨gb233, 1, none⟩ = some (.slice Ao37 t229.length co37) := (blk_cell BK233.out 1).trans rfl; have hfz99_0 := blk_frozen BK233.out 0; have hfz99_1 := blk_frozen BK233.out 1) | ((with_reducible refine gate_callee (f := 27) rfl ?_); refine goesL_ (some 71) rfl rfl Try.func27 (by kernel_rfl) rfl #[.agg #[.string t228, .slice Ao37 t244.length co37], .int .i64 1] rfl (by (try simp only [List.map_toArray, List.map_cons, List.map_nil]); first | done | (rw [show t244.length = t229.length from (Kd.R_reads' HO_234001.out).1.symm] <;> rfl) | rfl | (simp only [List.length_drop, List.length_take]; rfl)) ?_; (with_reducible refine (laws_heldRecipe.calls kj60 t228 _ _ t244 1 t245 _ ?side1 ?side2 A92.out).mono ?_); (case side1 => repeat (first | exact (Kd.R_reads' HO_234001.out).2.2 | (with_reducible refine Kd.C_alloc ?_ _) | (with_reducible refine Kd.C_drewN ?_ _) | (with_reducible refine Kd.C_drew ?_))); (case side2 => rw [show t244.length = t229.length from (Kd.R_reads' HO_234001.out).1.symm]; exact (Kd.R_reads' HO_234001.out).2.1); rintro e w100 ⟨rfl, hb⟩; refine ⟨_, rfl, ?_⟩; have n0_ := mkA (Kd.R_below (by (with_reducible repeat (first | apply Kd.R_alloc | apply Kd.R_drewN | apply Kd.R_drew)); exact HO_223001.out) hb); have n1_ := mkA (Kd.R_below (by (with_reducible repeat (first | apply Kd.R_alloc | apply Kd.R_drewN | apply Kd.R_drew)); exact HO_228001.out) hb); have n2_ := mkA (Kd.R_below (by (with_reducible repeat (first | apply Kd.R_alloc | apply Kd.R_drewN | apply Kd.R_drew)); exact HO_234001.out) hb); have n3_ := mkA (blk_below (g := gb211) (o := .cells #[.string a0_0, .slice A0_1 l0_1.length c0_1] 24 (0, 0)) (bl_ BK211.out) hb); have n4_ := mkA (blk_below (g := gb222) (o := .cells #[.string t217, .slice Ao23 t218.length co23] 29 (0, 0)) (bl_ BK222.out) hb); have n5_ := mkA (blk_below (g := gb227) (o := .cells #[.string t223, .slice Ao30 t241.length co30] 29 (0, 0)) (bl_ BK227.out) hb); have n6_ := mkA (blk_below (g := gb233) (o := .cells #[.string t228, .slice Ao37 t229.length co37] 29 (0, 0)) (bl_ BK233.out) hb); have n7_ := mkA (below_step (bs4_ HB.out GE211.out GE222.out GE227.out GE233.out) hb); clear HO_223001; clear HO_228001; clear HO_234001; clear BK211; clear BK222; clear BK227; clear BK233; clear HB; have HO_223001 := n0_; have HO_228001 := n1_; have HO_234001 := n2_; have BK211 := n3_; have BK222 := n4_; have BK227 := n5_; have BK233 := n6_; have HB := n7_; clear n0_ n1_ n2_ n3_ n4_ n5_ n6_ n7_; (try clear hb); (try clear hb2); (try clear hk); (try clear hi)))
             go_ret
             exact ⟨by first | rfl | (simp [errW_none, errW_some] <;> rfl) | (simp [*, errW_none, errW_some] <;> rfl), by repeat (first | (with_reducible first | exact HB.out | apply below_alloc | apply pw_below_drewN | apply below_drew1 | refine below_set ?_ GE211.out | refine below_set ?_ GE222.out | refine below_set ?_ GE227.out | refine below_set ?_ GE233.out) | exact HB.out)⟩
           · rw [if_neg c93] at H
             have c93b0 : decide (t245 < 0) = false := decide_eq_false c93
             clear c93
             by_cases c101 : t245 = t243
             rotate_left
             · rw [if_neg c101] at H
               have c101b0 : (t245 == t243) = false := beq_eq_false_iff_ne.mpr c101
               have c101b1 : (t245 != t243) = true := bne_iff_ne.mpr c101
               obtain rfl := Option.some.inj H
               have hnb169 := NB233_211.out
               have hnc169 := NB211_233.out
               have hnb170 := NB233_222.out
               have hnc170 := NB222_233.out
               have hnb171 := NB233_227.out
               have hnc171 := NB227_233.out
               have hcz172_0 : wc.cell? ⟨gb233, 0, none⟩ = some (.string t228) := (blk_cell BK233.out 0).trans rfl
               have hcz172_1 : wc.cell? ⟨gb233, 1, none⟩ = some (.slice Ao37 t229.length co37) := (blk_cell BK233.out 1).trans rfl
               have hfz172_0 := blk_frozen BK233.out 0
               have hfz172_1 := blk_frozen BK233.out 1
               go_wp2_with (first | ((with_reducible refine gate_callee (f := 26) rfl ?_); refine goesL_ (some 68) rfl rfl Try.func26 (by kernel_rfl) rfl #[.agg #[.string t228, .slice Ao37 t229.length co37], .int .i64 1] rfl (by (try simp only [List.map_toArray, List.map_cons, List.map_nil]); first | done | rfl | (simp only [List.length_drop, List.length_take]; rfl)) ?_; (with_reducible refine (laws_markRecipe.calls kj60 t228 (fun k_ => some k_ = (.slice Ao37 t229.length co37 : Value).ownBlock) (.slice Ao37 t229.length co37) t229 1 t243 t244 w _ ?side1 ?side2 A91.out).mono ?_); (case side1 => repeat (first | (with_reducible first | exact HB.out | apply below_alloc | apply pw_below_drewN | apply below_drew1 | refine below_set ?_ GE211.out | refine below_set ?_ GE222.out | refine below_set ?_ GE227.out | refine below_set ?_ GE233.out) | exact HB.out)); (case side2 => exact Kd.R_tight rfl HO_234001.out); rintro e w173 ⟨rfl, hy0, hb, hkp⟩; refine ⟨_, rfl, ?_⟩; have n0_ := mkA (Kd.R_mono (ok' := fun k_ => some k_ ≠ (.slice Ao30 t241.length co30 : Value).ownBlock ∧ some k_ ≠ (.slice Ao37 t229.length co37 : Value).ownBlock) (Kd.R_keptB (HO_223001.out) hkp (fun k_ hk_ hs_ => (hk_.2) hs_)) (fun k_ hk_ => ⟨hk_.1.1, hk_.1.2⟩)); have n1_ := mkA (Kd.R_mono (ok' := fun k_ => some k_ ≠ (.slice Ao23 t218.length co23 : Value).ownBlock ∧ some k_ ≠ (.slice Ao37 t229.length co37 : Value).ownBlock) (Kd.R_keptB (HO_228001.out) hkp (fun k_ hk_ hs_ => (hk_.2) hs_)) (fun k_ hk_ => ⟨hk_.1.1, hk_.1.2⟩)); have n2_ := mkA (Kd.R_reok rfl hy0 (fun k_ e_ => HO_234001.out.1 k_ e_)); have n3_ := mkA (blk_kept (bl_ BK211.out) hkp (fun hs_ => (fun e_ => (Kd.R_ne HO_234001.out BK211.out (by decide)) e_) hs_)); have n4_ := mkA (blk_kept (bl_ BK222.out) hkp (fun hs_ => (fun e_ => (Kd.R_ne HO_234001.out BK222.out (by decide)) e_) hs_)); have n5_ := mkA (blk_kept (bl_ BK227.out) hkp (fun hs_ => (fun e_ => (Kd.R_ne HO_234001.out BK227.out (by decide)) e_) hs_)); have n6_ := mkA (blk_kept (bl_ BK233.out) hkp (fun hs_ => (fun e_ => (Kd.R_ne HO_234001.out BK233.out (by decide)) e_) hs_)); have n7_ := mkA (hb); clear HO_223001; clear HO_228001; clear HO_234001; clear BK211; clear BK222; clear BK227; clear BK233; clear HB; have HO_223001 := n0_; have HO_228001 := n1_; have HO_234001 := n2_; have BK211 := n3_; have BK222 := n4_; have BK227 := n5_; have BK233 := n6_; have HB := n7_; clear n0_ n1_ n2_ n3_ n4_ n5_ n6_ n7_; (try clear hb); (try clear hkp); (try clear hy0); have hcz174_0 : w173.cell? ⟨gb233, 0, none⟩ = some (.string t228) := (blk_cell BK233.out 0).trans rfl; have hcz174_1 : w173.cell? ⟨gb233, 1, none⟩ = some (.slice Ao37 t229.length co37) := (blk_cell BK233.out 1).trans rfl; have hfz174_0 := blk_frozen BK233.out 0; have hfz174_1 := blk_frozen BK233.out 1) | ((with_reducible refine gate_callee (f := 27) rfl ?_); refine goesL_ (some 71) rfl rfl Try.func27 (by kernel_rfl) rfl #[.agg #[.string t228, .slice Ao37 t244.length co37], .int .i64 1] rfl (by (try simp only [List.map_toArray, List.map_cons, List.map_nil]); first | done | (rw [show t244.length = t229.length from (Kd.R_reads' HO_234001.out).1.symm] <;> rfl) | rfl | (simp only [List.length_drop, List.length_take]; rfl)) ?_; (with_reducible refine (laws_heldRecipe.calls kj60 t228 _ _ t244 1 t245 _ ?side1 ?side2 A92.out).mono ?_); (case side1 => repeat (first | exact (Kd.R_reads' HO_234001.out).2.2 | (with_reducible refine Kd.C_alloc ?_ _) | (with_reducible refine Kd.C_drewN ?_ _) | (with_reducible refine Kd.C_drew ?_))); (case side2 => rw [show t244.length = t229.length from (Kd.R_reads' HO_234001.out).1.symm]; exact (Kd.R_reads' HO_234001.out).2.1); rintro e w175 ⟨rfl, hb⟩; refine ⟨_, rfl, ?_⟩; have n0_ := mkA (Kd.R_below (by (with_reducible repeat (first | apply Kd.R_alloc | apply Kd.R_drewN | apply Kd.R_drew)); exact HO_223001.out) hb); have n1_ := mkA (Kd.R_below (by (with_reducible repeat (first | apply Kd.R_alloc | apply Kd.R_drewN | apply Kd.R_drew)); exact HO_228001.out) hb); have n2_ := mkA (Kd.R_below (by (with_reducible repeat (first | apply Kd.R_alloc | apply Kd.R_drewN | apply Kd.R_drew)); exact HO_234001.out) hb); have n3_ := mkA (blk_below (g := gb211) (o := .cells #[.string a0_0, .slice A0_1 l0_1.length c0_1] 24 (0, 0)) (bl_ BK211.out) hb); have n4_ := mkA (blk_below (g := gb222) (o := .cells #[.string t217, .slice Ao23 t218.length co23] 29 (0, 0)) (bl_ BK222.out) hb); have n5_ := mkA (blk_below (g := gb227) (o := .cells #[.string t223, .slice Ao30 t241.length co30] 29 (0, 0)) (bl_ BK227.out) hb); have n6_ := mkA (blk_below (g := gb233) (o := .cells #[.string t228, .slice Ao37 t229.length co37] 29 (0, 0)) (bl_ BK233.out) hb); have n7_ := mkA (below_step (bs4_ HB.out GE211.out GE222.out GE227.out GE233.out) hb); clear HO_223001; clear HO_228001; clear HO_234001; clear BK211; clear BK222; clear BK227; clear BK233; clear HB; have HO_223001 := n0_; have HO_228001 := n1_; have HO_234001 := n2_; have BK211 := n3_; have BK222 := n4_; have BK227 := n5_; have BK233 := n6_; have HB := n7_; clear n0_ n1_ n2_ n3_ n4_ n5_ n6_ n7_; (try clear hb); (try clear hb2); (try clear hk); (try clear hi)))
               go_ret
               exact ⟨by first | rfl | (simp [errW_none, errW_some] <;> rfl) | (simp [*, errW_none, errW_some] <;> rfl), by repeat (first | (with_reducible first | exact HB.out | apply below_alloc | apply pw_below_drewN | apply below_drew1 | refine below_set ?_ GE211.out | refine below_set ?_ GE222.out | refine below_set ?_ GE227.out | refine below_set ?_ GE233.out) | exact HB.out)⟩
             rw [if_pos c101] at H
             have c101b0 : (t245 == t243) = true := beq_iff_eq.mpr c101
             have c101b1 : (t245 != t243) = false := bne_eq_false_iff_eq.mpr c101
             clear c101
             replace H := Option.bind_eq_some_iff.mp H
             obtain ⟨⟨t246, t247⟩, A1020, H⟩ := H
             replace H : ((impl_ScaleRecipe.f kj60 t246 t247 a1).bind fun bt250 => ((laws_eqRecipe.f kj60 bt250.1 bt250.2.1 t217 t218).bind fun t256 => (if t256 = true then (laws_FnExactScaleRecipe.j2 kj60 t243 (bt250.2.2 != t221) t228 t244) else (laws_FnExactScaleRecipe.j2 kj60 t243 true t228 t244)))) = some r := H
             have A102 := mkA A1020
             clear A1020
             replace H := Option.bind_eq_some_iff.mp H
             obtain ⟨⟨t250, t251, t254⟩, A1030, H⟩ := H
             replace H : ((laws_eqRecipe.f kj60 t250 t251 t217 t218).bind fun t256 => (if t256 = true then (laws_FnExactScaleRecipe.j2 kj60 t243 (t254 != t221) t228 t244) else (laws_FnExactScaleRecipe.j2 kj60 t243 true t228 t244))) = some r := H
             have A103 := mkA A1030
             clear A1030
             have HC104 := mkA H
             clear H
             have hnb105 := NB233_211.out
             have hnc105 := NB211_233.out
             have hnb106 := NB233_222.out
             have hnc106 := NB222_233.out
             have hnb107 := NB233_227.out
             have hnc107 := NB227_233.out
             have hcz108_0 : wc.cell? ⟨gb233, 0, none⟩ = some (.string t228) := (blk_cell BK233.out 0).trans rfl
             have hcz108_1 : wc.cell? ⟨gb233, 1, none⟩ = some (.slice Ao37 t229.length co37) := (blk_cell BK233.out 1).trans rfl
             have hfz108_0 := blk_frozen BK233.out 0
             have hfz108_1 := blk_frozen BK233.out 1
             go_upto_region 25 with (first | ((with_reducible refine gate_callee (f := 26) rfl ?_); refine goesL_ (some 68) rfl rfl Try.func26 (by kernel_rfl) rfl #[.agg #[.string t228, .slice Ao37 t229.length co37], .int .i64 1] rfl (by (try simp only [List.map_toArray, List.map_cons, List.map_nil]); first | done | rfl | (simp only [List.length_drop, List.length_take]; rfl)) ?_; (with_reducible refine (laws_markRecipe.calls kj60 t228 (fun k_ => some k_ = (.slice Ao37 t229.length co37 : Value).ownBlock) (.slice Ao37 t229.length co37) t229 1 t243 t244 w _ ?side1 ?side2 A91.out).mono ?_); (case side1 => repeat (first | (with_reducible first | exact HB.out | apply below_alloc | apply pw_below_drewN | apply below_drew1 | refine below_set ?_ GE211.out | refine below_set ?_ GE222.out | refine below_set ?_ GE227.out | refine below_set ?_ GE233.out) | exact HB.out)); (case side2 => exact Kd.R_tight rfl HO_234001.out); rintro e w109 ⟨rfl, hy0, hb, hkp⟩; refine ⟨_, rfl, ?_⟩; have n0_ := mkA (Kd.R_mono (ok' := fun k_ => some k_ ≠ (.slice Ao30 t241.length co30 : Value).ownBlock ∧ some k_ ≠ (.slice Ao37 t229.length co37 : Value).ownBlock) (Kd.R_keptB (HO_223001.out) hkp (fun k_ hk_ hs_ => (hk_.2) hs_)) (fun k_ hk_ => ⟨hk_.1.1, hk_.1.2⟩)); have n1_ := mkA (Kd.R_mono (ok' := fun k_ => some k_ ≠ (.slice Ao23 t218.length co23 : Value).ownBlock ∧ some k_ ≠ (.slice Ao37 t229.length co37 : Value).ownBlock) (Kd.R_keptB (HO_228001.out) hkp (fun k_ hk_ hs_ => (hk_.2) hs_)) (fun k_ hk_ => ⟨hk_.1.1, hk_.1.2⟩)); have n2_ := mkA (Kd.R_reok rfl hy0 (fun k_ e_ => HO_234001.out.1 k_ e_)); have n3_ := mkA (blk_kept (bl_ BK211.out) hkp (fun hs_ => (fun e_ => (Kd.R_ne HO_234001.out BK211.out (by decide)) e_) hs_)); have n4_ := mkA (blk_kept (bl_ BK222.out) hkp (fun hs_ => (fun e_ => (Kd.R_ne HO_234001.out BK222.out (by decide)) e_) hs_)); have n5_ := mkA (blk_kept (bl_ BK227.out) hkp (fun hs_ => (fun e_ => (Kd.R_ne HO_234001.out BK227.out (by decide)) e_) hs_)); have n6_ := mkA (blk_kept (bl_ BK233.out) hkp (fun hs_ => (fun e_ => (Kd.R_ne HO_234001.out BK233.out (by decide)) e_) hs_)); have n7_ := mkA (hb); clear HO_223001; clear HO_228001; clear HO_234001; clear BK211; clear BK222; clear BK227; clear BK233; clear HB; have HO_223001 := n0_; have HO_228001 := n1_; have HO_234001 := n2_; have BK211 := n3_; have BK222 := n4_; have BK227 := n5_; have BK233 := n6_; have HB := n7_; clear n0_ n1_ n2_ n3_ n4_ n5_ n6_ n7_; (try clear hb); (try clear hkp); (try clear hy0); have hcz110_0 : w109.cell? ⟨gb233, 0, none⟩ = some (.string t228) := (blk_cell BK233.out 0).trans rfl; have hcz110_1 : w109.cell? ⟨gb233, 1, none⟩ = some (.slice Ao37 t229.length co37) := (blk_cell BK233.out 1).trans rfl; have hfz110_0 := blk_frozen BK233.out 0; have hfz110_1 := blk_frozen BK233.out 1) | ((with_reducible refine gate_callee (f := 27) rfl ?_); refine goesL_ (some 71) rfl rfl Try.func27 (by kernel_rfl) rfl #[.agg #[.string t228, .slice Ao37 t244.length co37], .int .i64 1] rfl (by (try simp only [List.map_toArray, List.map_cons, List.map_nil]); first | done | (rw [show t244.length = t229.length from (Kd.R_reads' HO_234001.out).1.symm] <;> rfl) | rfl | (simp only [List.length_drop, List.length_take]; rfl)) ?_; (with_reducible refine (laws_heldRecipe.calls kj60 t228 _ _ t244 1 t245 _ ?side1 ?side2 A92.out).mono ?_); (case side1 => repeat (first | exact (Kd.R_reads' HO_234001.out).2.2 | (with_reducible refine Kd.C_alloc ?_ _) | (with_reducible refine Kd.C_drewN ?_ _) | (with_reducible refine Kd.C_drew ?_))); (case side2 => rw [show t244.length = t229.length from (Kd.R_reads' HO_234001.out).1.symm]; exact (Kd.R_reads' HO_234001.out).2.1); rintro e w111 ⟨rfl, hb⟩; refine ⟨_, rfl, ?_⟩; have n0_ := mkA (Kd.R_below (by (with_reducible repeat (first | apply Kd.R_alloc | apply Kd.R_drewN | apply Kd.R_drew)); exact HO_223001.out) hb); have n1_ := mkA (Kd.R_below (by (with_reducible repeat (first | apply Kd.R_alloc | apply Kd.R_drewN | apply Kd.R_drew)); exact HO_228001.out) hb); have n2_ := mkA (Kd.R_below (by (with_reducible repeat (first | apply Kd.R_alloc | apply Kd.R_drewN | apply Kd.R_drew)); exact HO_234001.out) hb); have n3_ := mkA (blk_below (g := gb211) (o := .cells #[.string a0_0, .slice A0_1 l0_1.length c0_1] 24 (0, 0)) (bl_ BK211.out) hb); have n4_ := mkA (blk_below (g := gb222) (o := .cells #[.string t217, .slice Ao23 t218.length co23] 29 (0, 0)) (bl_ BK222.out) hb); have n5_ := mkA (blk_below (g := gb227) (o := .cells #[.string t223, .slice Ao30 t241.length co30] 29 (0, 0)) (bl_ BK227.out) hb); have n6_ := mkA (blk_below (g := gb233) (o := .cells #[.string t228, .slice Ao37 t229.length co37] 29 (0, 0)) (bl_ BK233.out) hb); have n7_ := mkA (below_step (bs4_ HB.out GE211.out GE222.out GE227.out GE233.out) hb); clear HO_223001; clear HO_228001; clear HO_234001; clear BK211; clear BK222; clear BK227; clear BK233; clear HB; have HO_223001 := n0_; have HO_228001 := n1_; have HO_234001 := n2_; have BK211 := n3_; have BK222 := n4_; have BK227 := n5_; have BK233 := n6_; have HB := n7_; clear n0_ n1_ n2_ n3_ n4_ n5_ n6_ n7_; (try clear hb); (try clear hb2); (try clear hk); (try clear hi); have hnb112 := NB211_222.out; have hnc112 := NB222_211.out; have hnb113 := NB211_227.out; have hnc113 := NB227_211.out; have hcz114_0 : w111.cell? ⟨gb211, 0, none⟩ = some (.string a0_0) := (blk_cell BK211.out 0).trans rfl; have hcz114_1 : w111.cell? ⟨gb211, 1, none⟩ = some (.slice A0_1 l0_1.length c0_1) := (blk_cell BK211.out 1).trans rfl; have hfz114_0 := blk_frozen BK211.out 0; have hfz114_1 := blk_frozen BK211.out 1) | ((with_reducible refine gate_callee (f := 11) rfl ?_); refine goesL_ (some 79) rfl rfl Try.func11 (by kernel_rfl) rfl #[.agg #[.string a0_0, .slice A0_1 l0_1.length c0_1]] rfl (by (try simp only [List.map_toArray, List.map_cons, List.map_nil]); first | done | rfl | (simp only [List.length_drop, List.length_take]; rfl)) ?_; (with_reducible refine (laws_toRecipe.calls kj60 a0_0 _ _ l0_1 t246 t247 _ ?side1 ?side2 A102.out).mono ?_); (case side1 => exact cb_ HR0_1.out HB.out); (case side2 => exact HC0_1.out); rintro e w115 ⟨v248, rfl, ho0, hb⟩; refine ⟨_, rfl, ?_⟩; have n0_ := mkA (Kd.R_elder' (by (with_reducible repeat (first | apply Kd.R_alloc | apply Kd.R_drewN | apply Kd.R_drew)); exact HO_223001.out) (Kd.R_base ho0) hb); have n1_ := mkA (Kd.R_elder' (by (with_reducible repeat (first | apply Kd.R_alloc | apply Kd.R_drewN | apply Kd.R_drew)); exact HO_228001.out) (Kd.R_base ho0) hb); have n2_ := mkA (Kd.R_elder' (by (with_reducible repeat (first | apply Kd.R_alloc | apply Kd.R_drewN | apply Kd.R_drew)); exact HO_234001.out) (Kd.R_base ho0) hb); have n3_ := mkA (Kd.R_lower (Kd.R_new' (Kd.R_new' (Kd.R_new' ho0 (Kd.R_lt (by (with_reducible repeat (first | apply Kd.R_alloc | apply Kd.R_drewN | apply Kd.R_drew)); exact HO_223001.out))) (Kd.R_lt (by (with_reducible repeat (first | apply Kd.R_alloc | apply Kd.R_drewN | apply Kd.R_drew)); exact HO_228001.out))) (Kd.R_lt (by (with_reducible repeat (first | apply Kd.R_alloc | apply Kd.R_drewN | apply Kd.R_drew)); exact HO_234001.out))) (below_size (bs4_ HB.out GE211.out GE222.out GE227.out GE233.out))); have n4_ := mkA (blk_below (g := gb211) (o := .cells #[.string a0_0, .slice A0_1 l0_1.length c0_1] 24 (0, 0)) (bl_ BK211.out) hb); have n5_ := mkA (blk_below (g := gb222) (o := .cells #[.string t217, .slice Ao23 t218.length co23] 29 (0, 0)) (bl_ BK222.out) hb); have n6_ := mkA (blk_below (g := gb227) (o := .cells #[.string t223, .slice Ao30 t241.length co30] 29 (0, 0)) (bl_ BK227.out) hb); have n7_ := mkA (blk_below (g := gb233) (o := .cells #[.string t228, .slice Ao37 t229.length co37] 29 (0, 0)) (bl_ BK233.out) hb); have n8_ := mkA (below_step (bs4_ HB.out GE211.out GE222.out GE227.out GE233.out) hb); clear HO_223001; clear HO_228001; clear HO_234001; clear BK211; clear BK222; clear BK227; clear BK233; clear HB; have HO_223001 := n0_; have HO_228001 := n1_; have HO_234001 := n2_; have HO249 := n3_; have BK211 := n4_; have BK222 := n5_; have BK227 := n6_; have BK233 := n7_; have HB := n8_; clear n0_ n1_ n2_ n3_ n4_ n5_ n6_ n7_ n8_; (try clear hb); (try clear hb2); (try clear hk); (try clear hi); (try clear ho0); obtain ⟨Ao116, co116, eo116⟩ := Kd.R_slice HO249.out; subst eo116) | ((with_reducible refine gate_callee (f := 25) rfl ?_); refine goesL_ (some 81) rfl rfl Try.func25 (by kernel_rfl) rfl #[.agg #[.string t246, .slice Ao116 t247.length co116], .int .i64 a1] rfl (by (try simp only [List.map_toArray, List.map_cons, List.map_nil]); first | done | rfl | (simp only [List.length_drop, List.length_take]; rfl)) ?_; (with_reducible refine (impl_ScaleRecipe.calls kj60 t246 _ _ t247 a1 t250 t251 t254 _ ?side1 ?side2 A103.out).mono ?_); (case side1 => repeat (first | exact (Kd.R_reads' HO249.out).2.2 | (with_reducible refine Kd.C_alloc ?_ _) | (with_reducible refine Kd.C_drewN ?_ _) | (with_reducible refine Kd.C_drew ?_))); (case side2 => exact (Kd.R_reads' HO249.out).2.1); rintro e w117 ⟨v252, rfl, ho0, hb⟩; refine ⟨_, rfl, ?_⟩; have n0_ := mkA (Kd.R_elder' (by (with_reducible repeat (first | apply Kd.R_alloc | apply Kd.R_drewN | apply Kd.R_drew)); exact HO_223001.out) (Kd.R_base ho0) hb); have n1_ := mkA (Kd.R_elder' (by (with_reducible repeat (first | apply Kd.R_alloc | apply Kd.R_drewN | apply Kd.R_drew)); exact HO_228001.out) (Kd.R_base ho0) hb); have n2_ := mkA (Kd.R_elder' (by (with_reducible repeat (first | apply Kd.R_alloc | apply Kd.R_drewN | apply Kd.R_drew)); exact HO_234001.out) (Kd.R_base ho0) hb); have n3_ := mkA (Kd.R_elder' (by (with_reducible repeat (first | apply Kd.R_alloc | apply Kd.R_drewN | apply Kd.R_drew)); exact HO249.out) (Kd.R_base ho0) hb); have n4_ := mkA (Kd.R_lower (Kd.R_new' (Kd.R_new' (Kd.R_new' (Kd.R_new' ho0 (Kd.R_lt (by (with_reducible repeat (first | apply Kd.R_alloc | apply Kd.R_drewN | apply Kd.R_drew)); exact HO_223001.out))) (Kd.R_lt (by (with_reducible repeat (first | apply Kd.R_alloc | apply Kd.R_drewN | apply Kd.R_drew)); exact HO_228001.out))) (Kd.R_lt (by (with_reducible repeat (first | apply Kd.R_alloc | apply Kd.R_drewN | apply Kd.R_drew)); exact HO_234001.out))) (Kd.R_lt (by (with_reducible repeat (first | apply Kd.R_alloc | apply Kd.R_drewN | apply Kd.R_drew)); exact HO249.out))) (below_size (bs4_ HB.out GE211.out GE222.out GE227.out GE233.out))); have n5_ := mkA (blk_below (g := gb211) (o := .cells #[.string a0_0, .slice A0_1 l0_1.length c0_1] 24 (0, 0)) (bl_ BK211.out) hb); have n6_ := mkA (blk_below (g := gb222) (o := .cells #[.string t217, .slice Ao23 t218.length co23] 29 (0, 0)) (bl_ BK222.out) hb); have n7_ := mkA (blk_below (g := gb227) (o := .cells #[.string t223, .slice Ao30 t241.length co30] 29 (0, 0)) (bl_ BK227.out) hb); have n8_ := mkA (blk_below (g := gb233) (o := .cells #[.string t228, .slice Ao37 t229.length co37] 29 (0, 0)) (bl_ BK233.out) hb); have n9_ := mkA (below_step (bs4_ HB.out GE211.out GE222.out GE227.out GE233.out) hb); clear HO_223001; clear HO_228001; clear HO_234001; clear HO249; clear BK211; clear BK222; clear BK227; clear BK233; clear HB; have HO_223001 := n0_; have HO_228001 := n1_; have HO_234001 := n2_; have HO249 := n3_; have HO253 := n4_; have BK211 := n5_; have BK222 := n6_; have BK227 := n7_; have BK233 := n8_; have HB := n9_; clear n0_ n1_ n2_ n3_ n4_ n5_ n6_ n7_ n8_ n9_; (try clear hb); (try clear hb2); (try clear hk); (try clear hi); (try clear ho0)) | ((with_reducible refine gate_dst (N := 14) rfl ?_); refine box_event ?hg (N := 14) ?hd (cs := #[.string (⟨#[]⟩ : ByteArray), .slice none 0 0]) (t := 29) ?hr ?_; (case hd => rfl); (case hg => rfl); (case hr => first | (go_simp; done) | (go_simp; rfl)); intro gb255 hg w118 hbox hb; have n0_ := mkA (Kd.R_below (by (with_reducible repeat (first | apply Kd.R_alloc | apply Kd.R_drewN | apply Kd.R_drew)); exact HO_223001.out) hb); have n1_ := mkA (Kd.R_below (by (with_reducible repeat (first | apply Kd.R_alloc | apply Kd.R_drewN | apply Kd.R_drew)); exact HO_228001.out) hb); have n2_ := mkA (Kd.R_below (by (with_reducible repeat (first | apply Kd.R_alloc | apply Kd.R_drewN | apply Kd.R_drew)); exact HO_234001.out) hb); have n3_ := mkA (Kd.R_below (by (with_reducible repeat (first | apply Kd.R_alloc | apply Kd.R_drewN | apply Kd.R_drew)); exact HO249.out) hb); have n4_ := mkA (Kd.R_below (by (with_reducible repeat (first | apply Kd.R_alloc | apply Kd.R_drewN | apply Kd.R_drew)); exact HO253.out) hb); have n5_ := mkA (blk_below (g := gb211) (o := .cells #[.string a0_0, .slice A0_1 l0_1.length c0_1] 24 (0, 0)) (bl_ BK211.out) hb); have n6_ := mkA (blk_below (g := gb222) (o := .cells #[.string t217, .slice Ao23 t218.length co23] 29 (0, 0)) (bl_ BK222.out) hb); have n7_ := mkA (blk_below (g := gb227) (o := .cells #[.string t223, .slice Ao30 t241.length co30] 29 (0, 0)) (bl_ BK227.out) hb); have n8_ := mkA (blk_below (g := gb233) (o := .cells #[.string t228, .slice Ao37 t229.length co37] 29 (0, 0)) (bl_ BK233.out) hb); have n9_ := mkA (below_step (bs4_ HB.out GE211.out GE222.out GE227.out GE233.out) hb); have n10_ := mkA (hbox); have n11_ := mkA ((by rw [hg]; exact (below_size (bs4_ HB.out GE211.out GE222.out GE227.out GE233.out)) : w.heap.size ≤ gb255)); have n12_ := mkA ((by rw [hg]; exact (below_size (bs4_ HB.out GE211.out GE222.out GE227.out GE233.out)) : w.heap.size ≤ gb255)); have n13_ := mkA ((by rw [hg]; exact Nat.ne_of_lt (blk_lt (g := gb211) (o := .cells #[.string a0_0, .slice A0_1 l0_1.length c0_1] 24 (0, 0)) (bl_ BK211.out)) : gb211 ≠ gb255)); have n14_ := mkA ((by rw [hg]; exact Nat.ne_of_gt (blk_lt (g := gb211) (o := .cells #[.string a0_0, .slice A0_1 l0_1.length c0_1] 24 (0, 0)) (bl_ BK211.out)) : gb255 ≠ gb211)); have n15_ := mkA ((by rw [hg]; exact Nat.ne_of_lt (blk_lt (g := gb222) (o := .cells #[.string t217, .slice Ao23 t218.length co23] 29 (0, 0)) (bl_ BK222.out)) : gb222 ≠ gb255)); have n16_ := mkA ((by rw [hg]; exact Nat.ne_of_gt (blk_lt (g := gb222) (o := .cells #[.string t217, .slice Ao23 t218.length co23] 29 (0, 0)) (bl_ BK222.out)) : gb255 ≠ gb222)); have n17_ := mkA ((by rw [hg]; exact Nat.ne_of_lt (blk_lt (g := gb227) (o := .cells #[.string t223, .slice Ao30 t241.length co30] 29 (0, 0)) (bl_ BK227.out)) : gb227 ≠ gb255)); have n18_ := mkA ((by rw [hg]; exact Nat.ne_of_gt (blk_lt (g := gb227) (o := .cells #[.string t223, .slice Ao30 t241.length co30] 29 (0, 0)) (bl_ BK227.out)) : gb255 ≠ gb227)); have n19_ := mkA ((by rw [hg]; exact Nat.ne_of_lt (blk_lt (g := gb233) (o := .cells #[.string t228, .slice Ao37 t229.length co37] 29 (0, 0)) (bl_ BK233.out)) : gb233 ≠ gb255)); have n20_ := mkA ((by rw [hg]; exact Nat.ne_of_gt (blk_lt (g := gb233) (o := .cells #[.string t228, .slice Ao37 t229.length co37] 29 (0, 0)) (bl_ BK233.out)) : gb255 ≠ gb233)); clear HO_223001; clear HO_228001; clear HO_234001; clear HO249; clear HO253; clear BK211; clear BK222; clear BK227; clear BK233; clear HB; have HO_223001 := n0_; have HO_228001 := n1_; have HO_234001 := n2_; have HO249 := n3_; have HO253 := n4_; have BK211 := n5_; have BK222 := n6_; have BK227 := n7_; have BK233 := n8_; have HB := n9_; have BK255 := n10_; have GW255 := n11_; have GE255 := n12_; have NB211_255 := n13_; have NB255_211 := n14_; have NB222_255 := n15_; have NB255_222 := n16_; have NB227_255 := n17_; have NB255_227 := n18_; have NB233_255 := n19_; have NB255_233 := n20_; clear n0_ n1_ n2_ n3_ n4_ n5_ n6_ n7_ n8_ n9_ n10_ n11_ n12_ n13_ n14_ n15_ n16_ n17_ n18_ n19_ n20_; clear hb hbox hg; have hnb119 := NB255_211.out; have hnc119 := NB211_255.out; have hnb120 := NB255_222.out; have hnc120 := NB222_255.out; have hnb121 := NB255_227.out; have hnc121 := NB227_255.out; have hnb122 := NB255_233.out; have hnc122 := NB233_255.out; have hcz123_0 : w118.cell? ⟨gb255, 0, none⟩ = some (.string (⟨#[]⟩ : ByteArray)) := (blk_cell BK255.out 0).trans rfl; have hcz123_1 : w118.cell? ⟨gb255, 1, none⟩ = some (.slice none 0 0) := (blk_cell BK255.out 1).trans rfl; have hfz123_0 := blk_frozen BK255.out 0; have hfz123_1 := blk_frozen BK255.out 1; obtain ⟨Ao124, co124, eo124⟩ := Kd.R_slice HO253.out; subst eo124))
             (try simp only [Act.put, sA, sB, sC])
             go_cut [92] (fun v92 wc => ∃ (kq : Nat) (x92_103 : Bool), v92 = .bool x92_103 ∧ Aside0 (laws_FnExactScaleRecipe.j2 kq t243 x92_103 t228 t244 = some r) ∧ Aside0 (kq ≤ kj60) ∧ Aside0 (Kd.R k38 38 wc w.heap.size (fun k_ => some k_ ≠ ((.slice Ao30 t241.length co30) : Value).ownBlock ∧ some k_ ≠ ((.slice Ao37 t229.length co37) : Value).ownBlock ∧ some k_ ≠ ((.slice Ao124 t251.length co124) : Value).ownBlock) (.slice Ao23 t218.length co23) t218) ∧ Aside0 (Kd.R k38 38 wc w.heap.size (fun k_ => some k_ ≠ ((.slice Ao23 t218.length co23) : Value).ownBlock ∧ some k_ ≠ ((.slice Ao37 t229.length co37) : Value).ownBlock ∧ some k_ ≠ ((.slice Ao124 t251.length co124) : Value).ownBlock) (.slice Ao30 t241.length co30) t241) ∧ Aside0 (Kd.R k38 38 wc w.heap.size (fun k_ => some k_ ≠ ((.slice Ao23 t218.length co23) : Value).ownBlock ∧ some k_ ≠ ((.slice Ao30 t241.length co30) : Value).ownBlock ∧ some k_ ≠ ((.slice Ao124 t251.length co124) : Value).ownBlock) (.slice Ao37 t229.length co37) t244) ∧ Aside0 (Kd.R k38 38 wc w.heap.size (fun k_ => some k_ ≠ ((.slice Ao23 t218.length co23) : Value).ownBlock ∧ some k_ ≠ ((.slice Ao30 t241.length co30) : Value).ownBlock ∧ some k_ ≠ ((.slice Ao37 t229.length co37) : Value).ownBlock) (.slice Ao124 t251.length co124) t251) ∧ Aside0 (wc.heap[gb211]? = some (.cells #[.string a0_0, (.slice A0_1 l0_1.length c0_1)] 24 (0, 0))) ∧ Aside0 (wc.heap[gb222]? = some (.cells #[.string t217, (.slice Ao23 t218.length co23)] 29 (0, 0))) ∧ Aside0 (wc.heap[gb227]? = some (.cells #[.string t223, (.slice Ao30 t241.length co30)] 29 (0, 0))) ∧ Aside0 (wc.heap[gb233]? = some (.cells #[.string t228, (.slice Ao37 t229.length co37)] 29 (0, 0))) ∧ Aside0 (wc.heap[gb255]? = some (.cells #[.string t250, (.slice Ao124 t251.length co124)] 29 (0, 0))) ∧ Aside0 (Below w.heap.size w wc))
             case first =>
              have H := HC104.out
              clear HC104
              replace H := Option.bind_eq_some_iff.mp H
              obtain ⟨t256, A1250, H⟩ := H
              replace H : (if t256 = true then (laws_FnExactScaleRecipe.j2 kj60 t243 (t254 != t221) t228 t244) else (laws_FnExactScaleRecipe.j2 kj60 t243 true t228 t244)) = some r := H
              have A125 := mkA A1250
              clear A1250
              by_cases c126 : t256 = true
              · subst c126
                have H1 : (laws_FnExactScaleRecipe.j2 kj60 t243 (t254 != t221) t228 t244) = some r := by rw [if_pos rfl] at H; exact H
                clear H
                have H := H1
                clear H1
                have H' := mkA H
                clear H
                have hnb127 := NB255_211.out
                have hnc127 := NB211_255.out
                have hnb128 := NB255_222.out
                have hnc128 := NB222_255.out
                have hnb129 := NB255_227.out
                have hnc129 := NB227_255.out
                have hnb130 := NB255_233.out
                have hnc130 := NB233_255.out
                have hcz131_0 : w118.cell? ⟨gb255, 0, none⟩ = some (.string (⟨#[]⟩ : ByteArray)) := (blk_cell BK255.out 0).trans rfl
                have hcz131_1 : w118.cell? ⟨gb255, 1, none⟩ = some (.slice none 0 0) := (blk_cell BK255.out 1).trans rfl
                have hfz131_0 := blk_frozen BK255.out 0
                have hfz131_1 := blk_frozen BK255.out 1
                have hnb132 := NB222_211.out
                have hnc132 := NB211_222.out
                have hnb133 := NB222_227.out
                have hnc133 := NB227_222.out
                have hnb134 := NB222_233.out
                have hnc134 := NB233_222.out
                have hcz135_0 : w118.cell? ⟨gb222, 0, none⟩ = some (.string t217) := (blk_cell BK222.out 0).trans rfl
                have hcz135_1 : w118.cell? ⟨gb222, 1, none⟩ = some (.slice Ao23 t218.length co23) := (blk_cell BK222.out 1).trans rfl
                have hfz135_0 := blk_frozen BK222.out 0
                have hfz135_1 := blk_frozen BK222.out 1
                go_wp2_with (first | ((with_reducible refine gate_callee (f := 13) rfl ?_); refine goesL_ (some 86) rfl rfl Try.func13 (by kernel_rfl) rfl #[.agg #[.string t250, .slice Ao124 t251.length co124], .agg #[.string t217, .slice Ao23 t218.length co23]] rfl (by (try simp only [List.map_toArray, List.map_cons, List.map_nil]); first | done | rfl | (simp only [List.length_drop, List.length_take]; rfl)) ?_; (with_reducible refine (laws_eqRecipe.calls kj60 t250 _ _ t251 t217 _ _ t218 true _ ?side1 ?side2 ?side3 ?side4 A125.out).mono ?_); (case side1 => refine (Kd.R_reads' (e := 38) (base := w.heap.size) (ok := fun k_ => ((((True ∧ some k_ ≠ (.slice Ao23 t218.length co23 : Value).ownBlock) ∧ some k_ ≠ (.slice Ao30 t241.length co30 : Value).ownBlock) ∧ some k_ ≠ (.slice Ao37 t229.length co37 : Value).ownBlock) ∧ some k_ ≠ (.slice Ao116 t247.length co116 : Value).ownBlock)) (n := t251.length) (c := co124) ?_).2.2; exact (by (with_reducible repeat (first | apply Kd.R_alloc | apply Kd.R_drewN | apply Kd.R_drew)); exact (Kd.R_mono (Kd.R_far (p := ⟨gb255, 1, none⟩) (Kd.R_far (p := ⟨gb255, 0, none⟩) (Kd.R_types HO253.out BK255.out (by decide)) (fun _ hk => hk.2) (.string t250)) (fun _ hk => hk.2) (.slice Ao124 t251.length co124)) (fun _ h_ => h_.1)))); (case side2 => exact (Kd.R_reads' HO253.out).2.1); (case side3 => refine (Kd.R_reads' (e := 38) (base := w.heap.size) (ok := fun k_ => (((some k_ ≠ (.slice Ao30 t241.length co30 : Value).ownBlock ∧ some k_ ≠ (.slice Ao37 t229.length co37 : Value).ownBlock) ∧ some k_ ≠ (.slice Ao116 t247.length co116 : Value).ownBlock) ∧ some k_ ≠ (.slice Ao124 t251.length co124 : Value).ownBlock)) (n := t218.length) (c := co23) ?_).2.2; exact (by (with_reducible repeat (first | apply Kd.R_alloc | apply Kd.R_drewN | apply Kd.R_drew)); exact (Kd.R_mono (Kd.R_far (p := ⟨gb255, 1, none⟩) (Kd.R_far (p := ⟨gb255, 0, none⟩) (Kd.R_types HO_223001.out BK255.out (by decide)) (fun _ hk => hk.2) (.string t250)) (fun _ hk => hk.2) (.slice Ao124 t251.length co124)) (fun _ h_ => h_.1)))); (case side4 => exact (Kd.R_reads' HO_223001.out).2.1); rintro e w136 ⟨rfl, hb⟩; refine ⟨_, rfl, ?_⟩; have n0_ := mkA (Kd.R_below (by (with_reducible repeat (first | apply Kd.R_alloc | apply Kd.R_drewN | apply Kd.R_drew)); exact (Kd.R_mono (Kd.R_far (p := ⟨gb255, 1, none⟩) (Kd.R_far (p := ⟨gb255, 0, none⟩) (Kd.R_types HO_223001.out BK255.out (by decide)) (fun _ hk => hk.2) (.string t250)) (fun _ hk => hk.2) (.slice Ao124 t251.length co124)) (fun _ h_ => h_.1))) hb); have n1_ := mkA (Kd.R_below (by (with_reducible repeat (first | apply Kd.R_alloc | apply Kd.R_drewN | apply Kd.R_drew)); exact (Kd.R_mono (Kd.R_far (p := ⟨gb255, 1, none⟩) (Kd.R_far (p := ⟨gb255, 0, none⟩) (Kd.R_types HO_228001.out BK255.out (by decide)) (fun _ hk => hk.2) (.string t250)) (fun _ hk => hk.2) (.slice Ao124 t251.length co124)) (fun _ h_ => h_.1))) hb); have n2_ := mkA (Kd.R_below (by (with_reducible repeat (first | apply Kd.R_alloc | apply Kd.R_drewN | apply Kd.R_drew)); exact (Kd.R_mono (Kd.R_far (p := ⟨gb255, 1, none⟩) (Kd.R_far (p := ⟨gb255, 0, none⟩) (Kd.R_types HO_234001.out BK255.out (by decide)) (fun _ hk => hk.2) (.string t250)) (fun _ hk => hk.2) (.slice Ao124 t251.length co124)) (fun _ h_ => h_.1))) hb); have n3_ := mkA (Kd.R_below (by (with_reducible repeat (first | apply Kd.R_alloc | apply Kd.R_drewN | apply Kd.R_drew)); exact (Kd.R_mono (Kd.R_far (p := ⟨gb255, 1, none⟩) (Kd.R_far (p := ⟨gb255, 0, none⟩) (Kd.R_types HO249.out BK255.out (by decide)) (fun _ hk => hk.2) (.string t250)) (fun _ hk => hk.2) (.slice Ao124 t251.length co124)) (fun _ h_ => h_.1))) hb); have n4_ := mkA (Kd.R_below (by (with_reducible repeat (first | apply Kd.R_alloc | apply Kd.R_drewN | apply Kd.R_drew)); exact (Kd.R_mono (Kd.R_far (p := ⟨gb255, 1, none⟩) (Kd.R_far (p := ⟨gb255, 0, none⟩) (Kd.R_types HO253.out BK255.out (by decide)) (fun _ hk => hk.2) (.string t250)) (fun _ hk => hk.2) (.slice Ao124 t251.length co124)) (fun _ h_ => h_.1))) hb); have n5_ := mkA (blk_below (g := gb211) (o := .cells #[.string a0_0, .slice A0_1 l0_1.length c0_1] 24 (0, 0)) (by (with_reducible repeat (first | refine blk_drewN ?_ _ | refine blk_drew ?_ | refine blk_alloc ?_ _)); refine blk_far ?_ NB211_255.out _; (with_reducible repeat (first | refine blk_drewN ?_ _ | refine blk_drew ?_ | refine blk_alloc ?_ _)); refine blk_far ?_ NB211_255.out _; (with_reducible repeat (first | refine blk_drewN ?_ _ | refine blk_drew ?_ | refine blk_alloc ?_ _)); exact BK211.out) hb); have n6_ := mkA (blk_below (g := gb222) (o := .cells #[.string t217, .slice Ao23 t218.length co23] 29 (0, 0)) (by (with_reducible repeat (first | refine blk_drewN ?_ _ | refine blk_drew ?_ | refine blk_alloc ?_ _)); refine blk_far ?_ NB222_255.out _; (with_reducible repeat (first | refine blk_drewN ?_ _ | refine blk_drew ?_ | refine blk_alloc ?_ _)); refine blk_far ?_ NB222_255.out _; (with_reducible repeat (first | refine blk_drewN ?_ _ | refine blk_drew ?_ | refine blk_alloc ?_ _)); exact BK222.out) hb); have n7_ := mkA (blk_below (g := gb227) (o := .cells #[.string t223, .slice Ao30 t241.length co30] 29 (0, 0)) (by (with_reducible repeat (first | refine blk_drewN ?_ _ | refine blk_drew ?_ | refine blk_alloc ?_ _)); refine blk_far ?_ NB227_255.out _; (with_reducible repeat (first | refine blk_drewN ?_ _ | refine blk_drew ?_ | refine blk_alloc ?_ _)); refine blk_far ?_ NB227_255.out _; (with_reducible repeat (first | refine blk_drewN ?_ _ | refine blk_drew ?_ | refine blk_alloc ?_ _)); exact BK227.out) hb); have n8_ := mkA (blk_below (g := gb233) (o := .cells #[.string t228, .slice Ao37 t229.length co37] 29 (0, 0)) (by (with_reducible repeat (first | refine blk_drewN ?_ _ | refine blk_drew ?_ | refine blk_alloc ?_ _)); refine blk_far ?_ NB233_255.out _; (with_reducible repeat (first | refine blk_drewN ?_ _ | refine blk_drew ?_ | refine blk_alloc ?_ _)); refine blk_far ?_ NB233_255.out _; (with_reducible repeat (first | refine blk_drewN ?_ _ | refine blk_drew ?_ | refine blk_alloc ?_ _)); exact BK233.out) hb); have n9_ := mkA (blk_below (g := gb255) (o := .cells #[.string t250, .slice Ao124 t251.length co124] 29 (0, 0)) (by (with_reducible repeat (first | refine blk_drewN ?_ _ | refine blk_drew ?_ | refine blk_alloc ?_ _)); refine blk_put (cs := #[.string t250, .slice none 0 0]) ?_ 1 _ rfl; (with_reducible repeat (first | refine blk_drewN ?_ _ | refine blk_drew ?_ | refine blk_alloc ?_ _)); refine blk_put (cs := #[.string (⟨#[]⟩ : ByteArray), .slice none 0 0]) ?_ 0 _ rfl; (with_reducible repeat (first | refine blk_drewN ?_ _ | refine blk_drew ?_ | refine blk_alloc ?_ _)); exact BK255.out) hb); have n10_ := mkA (below_step (bs5_ HB.out GE211.out GE222.out GE227.out GE233.out GE255.out) hb); clear HO_223001; clear HO_228001; clear HO_234001; clear HO249; clear HO253; clear BK211; clear BK222; clear BK227; clear BK233; clear BK255; clear HB; have HO_223001 := n0_; have HO_228001 := n1_; have HO_234001 := n2_; have HO249 := n3_; have HO253 := n4_; have BK211 := n5_; have BK222 := n6_; have BK227 := n7_; have BK233 := n8_; have BK255 := n9_; have HB := n10_; clear n0_ n1_ n2_ n3_ n4_ n5_ n6_ n7_ n8_ n9_ n10_; (try clear hb); (try clear hb2); (try clear hk); (try clear hi)))
                go_meet
                case rel => exact ⟨_, ((t254 != t221)), (by first | rfl | (simp; done) | (simp [*]; done) | (simp [i64_w, i32_w]; done)), H', ⟨by have := HJ11.out; have := HJ60.out; first | omega | exact Nat.le_refl _⟩, ⟨by (try simp only [hl228001_60]); (with_reducible repeat (first | apply Kd.R_alloc | apply Kd.R_drewN | apply Kd.R_drew)); exact Kd.R_mono HO_223001.out (fun _ hk => ⟨hk.1.1.1, ⟨hk.1.1.2, hk.2⟩⟩)⟩, ⟨by (try simp only [hl228001_60]); (with_reducible repeat (first | apply Kd.R_alloc | apply Kd.R_drewN | apply Kd.R_drew)); exact Kd.R_mono HO_228001.out (fun _ hk => ⟨hk.1.1.1, ⟨hk.1.1.2, hk.2⟩⟩)⟩, ⟨by (try simp only [hl228001_60]); (with_reducible repeat (first | apply Kd.R_alloc | apply Kd.R_drewN | apply Kd.R_drew)); exact Kd.R_mono HO_234001.out (fun _ hk => ⟨hk.1.1.1, ⟨hk.1.1.2, hk.2⟩⟩)⟩, ⟨by (try simp only [hl228001_60]); (with_reducible repeat (first | apply Kd.R_alloc | apply Kd.R_drewN | apply Kd.R_drew)); exact Kd.R_mono HO253.out (fun _ hk => ⟨hk.1.1.1.2, ⟨hk.1.1.2, hk.1.2⟩⟩)⟩, ⟨by (try simp only [hl228001_60]); (with_reducible repeat (first | refine blk_drewN ?_ _ | refine blk_drew ?_ | refine blk_alloc ?_ _)); exact BK211.out⟩, ⟨by (try simp only [hl228001_60]); (with_reducible repeat (first | refine blk_drewN ?_ _ | refine blk_drew ?_ | refine blk_alloc ?_ _)); exact BK222.out⟩, ⟨by (try simp only [hl228001_60]); (with_reducible repeat (first | refine blk_drewN ?_ _ | refine blk_drew ?_ | refine blk_alloc ?_ _)); exact BK227.out⟩, ⟨by (try simp only [hl228001_60]); (with_reducible repeat (first | refine blk_drewN ?_ _ | refine blk_drew ?_ | refine blk_alloc ?_ _)); exact BK233.out⟩, ⟨by (try simp only [hl228001_60]); (with_reducible repeat (first | refine blk_drewN ?_ _ | refine blk_drew ?_ | refine blk_alloc ?_ _)); exact BK255.out⟩, ⟨by repeat (first | (with_reducible first | exact HB.out | apply below_alloc | apply pw_below_drewN | apply below_drew1 | refine below_set ?_ GE211.out | refine below_set ?_ GE222.out | refine below_set ?_ GE227.out | refine below_set ?_ GE233.out | refine below_set ?_ GE255.out) | exact HB.out)⟩⟩
              · replace c126 := Bool.eq_false_iff.mpr c126
                subst c126
                have H1 : (laws_FnExactScaleRecipe.j2 kj60 t243 true t228 t244) = some r := by rw [if_neg (show ¬ (false = true) by decide)] at H; exact H
                clear H
                have H := H1
                clear H1
                have H' := mkA H
                clear H
                have hnb137 := NB255_211.out
                have hnc137 := NB211_255.out
                have hnb138 := NB255_222.out
                have hnc138 := NB222_255.out
                have hnb139 := NB255_227.out
                have hnc139 := NB227_255.out
                have hnb140 := NB255_233.out
                have hnc140 := NB233_255.out
                have hcz141_0 : w118.cell? ⟨gb255, 0, none⟩ = some (.string (⟨#[]⟩ : ByteArray)) := (blk_cell BK255.out 0).trans rfl
                have hcz141_1 : w118.cell? ⟨gb255, 1, none⟩ = some (.slice none 0 0) := (blk_cell BK255.out 1).trans rfl
                have hfz141_0 := blk_frozen BK255.out 0
                have hfz141_1 := blk_frozen BK255.out 1
                have hnb142 := NB222_211.out
                have hnc142 := NB211_222.out
                have hnb143 := NB222_227.out
                have hnc143 := NB227_222.out
                have hnb144 := NB222_233.out
                have hnc144 := NB233_222.out
                have hcz145_0 : w118.cell? ⟨gb222, 0, none⟩ = some (.string t217) := (blk_cell BK222.out 0).trans rfl
                have hcz145_1 : w118.cell? ⟨gb222, 1, none⟩ = some (.slice Ao23 t218.length co23) := (blk_cell BK222.out 1).trans rfl
                have hfz145_0 := blk_frozen BK222.out 0
                have hfz145_1 := blk_frozen BK222.out 1
                go_wp2_with (first | ((with_reducible refine gate_callee (f := 13) rfl ?_); refine goesL_ (some 86) rfl rfl Try.func13 (by kernel_rfl) rfl #[.agg #[.string t250, .slice Ao124 t251.length co124], .agg #[.string t217, .slice Ao23 t218.length co23]] rfl (by (try simp only [List.map_toArray, List.map_cons, List.map_nil]); first | done | rfl | (simp only [List.length_drop, List.length_take]; rfl)) ?_; (with_reducible refine (laws_eqRecipe.calls kj60 t250 _ _ t251 t217 _ _ t218 false _ ?side1 ?side2 ?side3 ?side4 A125.out).mono ?_); (case side1 => refine (Kd.R_reads' (e := 38) (base := w.heap.size) (ok := fun k_ => ((((True ∧ some k_ ≠ (.slice Ao23 t218.length co23 : Value).ownBlock) ∧ some k_ ≠ (.slice Ao30 t241.length co30 : Value).ownBlock) ∧ some k_ ≠ (.slice Ao37 t229.length co37 : Value).ownBlock) ∧ some k_ ≠ (.slice Ao116 t247.length co116 : Value).ownBlock)) (n := t251.length) (c := co124) ?_).2.2; exact (by (with_reducible repeat (first | apply Kd.R_alloc | apply Kd.R_drewN | apply Kd.R_drew)); exact (Kd.R_mono (Kd.R_far (p := ⟨gb255, 1, none⟩) (Kd.R_far (p := ⟨gb255, 0, none⟩) (Kd.R_types HO253.out BK255.out (by decide)) (fun _ hk => hk.2) (.string t250)) (fun _ hk => hk.2) (.slice Ao124 t251.length co124)) (fun _ h_ => h_.1)))); (case side2 => exact (Kd.R_reads' HO253.out).2.1); (case side3 => refine (Kd.R_reads' (e := 38) (base := w.heap.size) (ok := fun k_ => (((some k_ ≠ (.slice Ao30 t241.length co30 : Value).ownBlock ∧ some k_ ≠ (.slice Ao37 t229.length co37 : Value).ownBlock) ∧ some k_ ≠ (.slice Ao116 t247.length co116 : Value).ownBlock) ∧ some k_ ≠ (.slice Ao124 t251.length co124 : Value).ownBlock)) (n := t218.length) (c := co23) ?_).2.2; exact (by (with_reducible repeat (first | apply Kd.R_alloc | apply Kd.R_drewN | apply Kd.R_drew)); exact (Kd.R_mono (Kd.R_far (p := ⟨gb255, 1, none⟩) (Kd.R_far (p := ⟨gb255, 0, none⟩) (Kd.R_types HO_223001.out BK255.out (by decide)) (fun _ hk => hk.2) (.string t250)) (fun _ hk => hk.2) (.slice Ao124 t251.length co124)) (fun _ h_ => h_.1)))); (case side4 => exact (Kd.R_reads' HO_223001.out).2.1); rintro e w146 ⟨rfl, hb⟩; refine ⟨_, rfl, ?_⟩; have n0_ := mkA (Kd.R_below (by (with_reducible repeat (first | apply Kd.R_alloc | apply Kd.R_drewN | apply Kd.R_drew)); exact (Kd.R_mono (Kd.R_far (p := ⟨gb255, 1, none⟩) (Kd.R_far (p := ⟨gb255, 0, none⟩) (Kd.R_types HO_223001.out BK255.out (by decide)) (fun _ hk => hk.2) (.string t250)) (fun _ hk => hk.2) (.slice Ao124 t251.length co124)) (fun _ h_ => h_.1))) hb); have n1_ := mkA (Kd.R_below (by (with_reducible repeat (first | apply Kd.R_alloc | apply Kd.R_drewN | apply Kd.R_drew)); exact (Kd.R_mono (Kd.R_far (p := ⟨gb255, 1, none⟩) (Kd.R_far (p := ⟨gb255, 0, none⟩) (Kd.R_types HO_228001.out BK255.out (by decide)) (fun _ hk => hk.2) (.string t250)) (fun _ hk => hk.2) (.slice Ao124 t251.length co124)) (fun _ h_ => h_.1))) hb); have n2_ := mkA (Kd.R_below (by (with_reducible repeat (first | apply Kd.R_alloc | apply Kd.R_drewN | apply Kd.R_drew)); exact (Kd.R_mono (Kd.R_far (p := ⟨gb255, 1, none⟩) (Kd.R_far (p := ⟨gb255, 0, none⟩) (Kd.R_types HO_234001.out BK255.out (by decide)) (fun _ hk => hk.2) (.string t250)) (fun _ hk => hk.2) (.slice Ao124 t251.length co124)) (fun _ h_ => h_.1))) hb); have n3_ := mkA (Kd.R_below (by (with_reducible repeat (first | apply Kd.R_alloc | apply Kd.R_drewN | apply Kd.R_drew)); exact (Kd.R_mono (Kd.R_far (p := ⟨gb255, 1, none⟩) (Kd.R_far (p := ⟨gb255, 0, none⟩) (Kd.R_types HO249.out BK255.out (by decide)) (fun _ hk => hk.2) (.string t250)) (fun _ hk => hk.2) (.slice Ao124 t251.length co124)) (fun _ h_ => h_.1))) hb); have n4_ := mkA (Kd.R_below (by (with_reducible repeat (first | apply Kd.R_alloc | apply Kd.R_drewN | apply Kd.R_drew)); exact (Kd.R_mono (Kd.R_far (p := ⟨gb255, 1, none⟩) (Kd.R_far (p := ⟨gb255, 0, none⟩) (Kd.R_types HO253.out BK255.out (by decide)) (fun _ hk => hk.2) (.string t250)) (fun _ hk => hk.2) (.slice Ao124 t251.length co124)) (fun _ h_ => h_.1))) hb); have n5_ := mkA (blk_below (g := gb211) (o := .cells #[.string a0_0, .slice A0_1 l0_1.length c0_1] 24 (0, 0)) (by (with_reducible repeat (first | refine blk_drewN ?_ _ | refine blk_drew ?_ | refine blk_alloc ?_ _)); refine blk_far ?_ NB211_255.out _; (with_reducible repeat (first | refine blk_drewN ?_ _ | refine blk_drew ?_ | refine blk_alloc ?_ _)); refine blk_far ?_ NB211_255.out _; (with_reducible repeat (first | refine blk_drewN ?_ _ | refine blk_drew ?_ | refine blk_alloc ?_ _)); exact BK211.out) hb); have n6_ := mkA (blk_below (g := gb222) (o := .cells #[.string t217, .slice Ao23 t218.length co23] 29 (0, 0)) (by (with_reducible repeat (first | refine blk_drewN ?_ _ | refine blk_drew ?_ | refine blk_alloc ?_ _)); refine blk_far ?_ NB222_255.out _; (with_reducible repeat (first | refine blk_drewN ?_ _ | refine blk_drew ?_ | refine blk_alloc ?_ _)); refine blk_far ?_ NB222_255.out _; (with_reducible repeat (first | refine blk_drewN ?_ _ | refine blk_drew ?_ | refine blk_alloc ?_ _)); exact BK222.out) hb); have n7_ := mkA (blk_below (g := gb227) (o := .cells #[.string t223, .slice Ao30 t241.length co30] 29 (0, 0)) (by (with_reducible repeat (first | refine blk_drewN ?_ _ | refine blk_drew ?_ | refine blk_alloc ?_ _)); refine blk_far ?_ NB227_255.out _; (with_reducible repeat (first | refine blk_drewN ?_ _ | refine blk_drew ?_ | refine blk_alloc ?_ _)); refine blk_far ?_ NB227_255.out _; (with_reducible repeat (first | refine blk_drewN ?_ _ | refine blk_drew ?_ | refine blk_alloc ?_ _)); exact BK227.out) hb); have n8_ := mkA (blk_below (g := gb233) (o := .cells #[.string t228, .slice Ao37 t229.length co37] 29 (0, 0)) (by (with_reducible repeat (first | refine blk_drewN ?_ _ | refine blk_drew ?_ | refine blk_alloc ?_ _)); refine blk_far ?_ NB233_255.out _; (with_reducible repeat (first | refine blk_drewN ?_ _ | refine blk_drew ?_ | refine blk_alloc ?_ _)); refine blk_far ?_ NB233_255.out _; (with_reducible repeat (first | refine blk_drewN ?_ _ | refine blk_drew ?_ | refine blk_alloc ?_ _)); exact BK233.out) hb); have n9_ := mkA (blk_below (g := gb255) (o := .cells #[.string t250, .slice Ao124 t251.length co124] 29 (0, 0)) (by (with_reducible repeat (first | refine blk_drewN ?_ _ | refine blk_drew ?_ | refine blk_alloc ?_ _)); refine blk_put (cs := #[.string t250, .slice none 0 0]) ?_ 1 _ rfl; (with_reducible repeat (first | refine blk_drewN ?_ _ | refine blk_drew ?_ | refine blk_alloc ?_ _)); refine blk_put (cs := #[.string (⟨#[]⟩ : ByteArray), .slice none 0 0]) ?_ 0 _ rfl; (with_reducible repeat (first | refine blk_drewN ?_ _ | refine blk_drew ?_ | refine blk_alloc ?_ _)); exact BK255.out) hb); have n10_ := mkA (below_step (bs5_ HB.out GE211.out GE222.out GE227.out GE233.out GE255.out) hb); clear HO_223001; clear HO_228001; clear HO_234001; clear HO249; clear HO253; clear BK211; clear BK222; clear BK227; clear BK233; clear BK255; clear HB; have HO_223001 := n0_; have HO_228001 := n1_; have HO_234001 := n2_; have HO249 := n3_; have HO253 := n4_; have BK211 := n5_; have BK222 := n6_; have BK227 := n7_; have BK233 := n8_; have BK255 := n9_; have HB := n10_; clear n0_ n1_ n2_ n3_ n4_ n5_ n6_ n7_ n8_ n9_ n10_; (try clear hb); (try clear hb2); (try clear hk); (try clear hi)))
                go_meet
                case rel => exact ⟨_, (true), (by first | rfl | (simp; done) | (simp [*]; done) | (simp [i64_w, i32_w]; done)), H', ⟨by have := HJ11.out; have := HJ60.out; first | omega | exact Nat.le_refl _⟩, ⟨by (try simp only [hl228001_60]); (with_reducible repeat (first | apply Kd.R_alloc | apply Kd.R_drewN | apply Kd.R_drew)); exact Kd.R_mono HO_223001.out (fun _ hk => ⟨hk.1.1.1, ⟨hk.1.1.2, hk.2⟩⟩)⟩, ⟨by (try simp only [hl228001_60]); (with_reducible repeat (first | apply Kd.R_alloc | apply Kd.R_drewN | apply Kd.R_drew)); exact Kd.R_mono HO_228001.out (fun _ hk => ⟨hk.1.1.1, ⟨hk.1.1.2, hk.2⟩⟩)⟩, ⟨by (try simp only [hl228001_60]); (with_reducible repeat (first | apply Kd.R_alloc | apply Kd.R_drewN | apply Kd.R_drew)); exact Kd.R_mono HO_234001.out (fun _ hk => ⟨hk.1.1.1, ⟨hk.1.1.2, hk.2⟩⟩)⟩, ⟨by (try simp only [hl228001_60]); (with_reducible repeat (first | apply Kd.R_alloc | apply Kd.R_drewN | apply Kd.R_drew)); exact Kd.R_mono HO253.out (fun _ hk => ⟨hk.1.1.1.2, ⟨hk.1.1.2, hk.1.2⟩⟩)⟩, ⟨by (try simp only [hl228001_60]); (with_reducible repeat (first | refine blk_drewN ?_ _ | refine blk_drew ?_ | refine blk_alloc ?_ _)); exact BK211.out⟩, ⟨by (try simp only [hl228001_60]); (with_reducible repeat (first | refine blk_drewN ?_ _ | refine blk_drew ?_ | refine blk_alloc ?_ _)); exact BK222.out⟩, ⟨by (try simp only [hl228001_60]); (with_reducible repeat (first | refine blk_drewN ?_ _ | refine blk_drew ?_ | refine blk_alloc ?_ _)); exact BK227.out⟩, ⟨by (try simp only [hl228001_60]); (with_reducible repeat (first | refine blk_drewN ?_ _ | refine blk_drew ?_ | refine blk_alloc ?_ _)); exact BK233.out⟩, ⟨by (try simp only [hl228001_60]); (with_reducible repeat (first | refine blk_drewN ?_ _ | refine blk_drew ?_ | refine blk_alloc ?_ _)); exact BK255.out⟩, ⟨by repeat (first | (with_reducible first | exact HB.out | apply below_alloc | apply pw_below_drewN | apply below_drew1 | refine below_set ?_ GE211.out | refine below_set ?_ GE222.out | refine below_set ?_ GE227.out | refine below_set ?_ GE233.out | refine below_set ?_ GE255.out) | exact HB.out)⟩⟩
             case rest =>
              clear HC104
              try clear c1
              try clear c2
              try clear p2
              try clear c3
              try clear c4
              try clear c4b0
              try clear c5
              try clear c6
              try clear c7
              try clear c8
              try clear c9
              try clear c10
              try clear c11
              try clear c12
              try clear c13
              try clear c14
              try clear c21
              try clear c24
              try clear c25
              try clear c26
              try clear c27
              try clear c28
              try clear c33
              try clear c34
              try clear c35
              try clear c39
              try clear c40
              try clear c41
              try clear c42
              try clear c44
              try clear c45
              try clear c48
              try clear c49
              try clear c50
              try clear c52
              try clear c53
              try clear c56
              try clear c59
              try clear c66
              try clear c67
              try clear c68
              try clear c71
              try clear c71b0
              try clear c73
              try clear c74
              try clear c75
              try clear c76
              try clear c78
              try clear c79
              try clear c82
              try clear c83
              try clear c84
              try clear c86
              try clear c87
              try clear c90
              try clear c93
              try clear c93b0
              try clear c94
              try clear c95
              try clear c96
              try clear c101
              try clear c101b0
              try clear c101b1
              try clear c105
              try clear c106
              try clear c107
              try clear c112
              try clear c113
              try clear c119
              try clear c120
              try clear c121
              try clear c122
              try clear c126
              try clear c127
              try clear c128
              try clear c129
              try clear c130
              try clear c132
              try clear c133
              try clear c134
              try clear c137
              try clear c138
              try clear c139
              try clear c140
              try clear c142
              try clear c143
              try clear c144
              try clear hcz108_0
              try clear hcz108_1
              try clear hcz110_0
              try clear hcz110_1
              try clear hcz114_0
              try clear hcz114_1
              try clear hcz123_0
              try clear hcz123_1
              try clear hcz131_0
              try clear hcz131_1
              try clear hcz135_0
              try clear hcz135_1
              try clear hcz141_0
              try clear hcz141_1
              try clear hcz145_0
              try clear hcz145_1
              try clear hcz14_0
              try clear hcz14_1
              try clear hcz16_0
              try clear hcz16_1
              try clear hcz22_0
              try clear hcz22_1
              try clear hcz24_0
              try clear hcz24_1
              try clear hcz29_0
              try clear hcz29_1
              try clear hcz36_0
              try clear hcz36_1
              try clear hcz43_0
              try clear hcz43_1
              try clear hcz46_0
              try clear hcz46_1
              try clear hcz51_0
              try clear hcz51_1
              try clear hcz54_0
              try clear hcz54_1
              try clear hcz69_0
              try clear hcz69_1
              try clear hcz6_0
              try clear hcz6_1
              try clear hcz77_0
              try clear hcz77_1
              try clear hcz80_0
              try clear hcz80_1
              try clear hcz85_0
              try clear hcz85_1
              try clear hcz88_0
              try clear hcz88_1
              try clear hcz97_0
              try clear hcz97_1
              try clear hcz99_0
              try clear hcz99_1
              try clear hfz108_0
              try clear hfz108_1
              try clear hfz110_0
              try clear hfz110_1
              try clear hfz114_0
              try clear hfz114_1
              try clear hfz123_0
              try clear hfz123_1
              try clear hfz131_0
              try clear hfz131_1
              try clear hfz135_0
              try clear hfz135_1
              try clear hfz141_0
              try clear hfz141_1
              try clear hfz145_0
              try clear hfz145_1
              try clear hfz14_0
              try clear hfz14_1
              try clear hfz16_0
              try clear hfz16_1
              try clear hfz22_0
              try clear hfz22_1
              try clear hfz24_0
              try clear hfz24_1
              try clear hfz29_0
              try clear hfz29_1
              try clear hfz36_0
              try clear hfz36_1
              try clear hfz43_0
              try clear hfz43_1
              try clear hfz46_0
              try clear hfz46_1
              try clear hfz51_0
              try clear hfz51_1
              try clear hfz54_0
              try clear hfz54_1
              try clear hfz69_0
              try clear hfz69_1
              try clear hfz6_0
              try clear hfz6_1
              try clear hfz77_0
              try clear hfz77_1
              try clear hfz80_0
              try clear hfz80_1
              try clear hfz85_0
              try clear hfz85_1
              try clear hfz88_0
              try clear hfz88_1
              try clear hfz97_0
              try clear hfz97_1
              try clear hfz99_0
              try clear hfz99_1
              try clear p2
              obtain ⟨kq, x92_103, rfl, HA, HJ103, HO_223001, HO_228001, HO_234001, HO_256001, BK211, BK222, BK227, BK233, BK255, HB⟩ := hcut
              have hl234001_103 := (Kd.R_reads' HO_234001.out).1
              rw [hl234001_103] at HO_234001
              (try simp only [hl234001_103])
              (try simp only [hl234001_103] at BK211)
              (try simp only [hl234001_103] at BK222)
              (try simp only [hl234001_103] at BK227)
              (try simp only [hl234001_103] at BK233)
              (try simp only [hl234001_103] at BK255)
              (try simp only [hl234001_103] at HO_223001)
              (try simp only [hl234001_103] at HO_228001)
              (try simp only [hl234001_103] at HO_256001)
              cases kq with
              | zero => exact absurd HA.out (by simp [laws_FnExactScaleRecipe.j2])
              | succ kj103 =>
               have H := HA.out
               clear HA
               simp only [laws_FnExactScaleRecipe.j2] at H
               by_cases c147 : x92_103 = true
               · subst c147
                 have H1 : (some false) = some r := by rw [if_pos rfl] at H; exact H
                 clear H
                 have H := H1
                 clear H1
                 obtain rfl := Option.some.inj H
                 go_wp2
                 go_ret
                 exact ⟨by first | rfl | (simp [errW_none, errW_some] <;> rfl) | (simp [*, errW_none, errW_some] <;> rfl), by repeat (first | (with_reducible first | exact HB.out | apply below_alloc | apply pw_below_drewN | apply below_drew1 | refine below_set ?_ GE211.out | refine below_set ?_ GE222.out | refine below_set ?_ GE227.out | refine below_set ?_ GE233.out | refine below_set ?_ GE255.out) | exact HB.out)⟩
               · replace c147 := Bool.eq_false_iff.mpr c147
                 subst c147
                 have H1 : ((laws_heldRecipe.f kj103 t228 t244 1).bind fun t257 => (if t257 < 0 then (some false) else (if t257 = t243 then (some true) else (some false)))) = some r := by rw [if_neg (show ¬ (false = true) by decide)] at H; exact H
                 clear H
                 have H := H1
                 clear H1
                 replace H := Option.bind_eq_some_iff.mp H
                 obtain ⟨t257, A1480, H⟩ := H
                 replace H : (if t257 < 0 then (some false) else (if t257 = t243 then (some true) else (some false))) = some r := H
                 have A148 := mkA A1480
                 clear A1480
                 by_cases c149 : t257 < 0
                 · rw [if_pos c149] at H
                   have c149b0 : decide (t257 < 0) = true := decide_eq_true c149
                   clear c149
                   obtain rfl := Option.some.inj H
                   have hnb150 := NB233_211.out
                   have hnc150 := NB211_233.out
                   have hnb151 := NB233_222.out
                   have hnc151 := NB222_233.out
                   have hnb152 := NB233_227.out
                   have hnc152 := NB227_233.out
                   have hnb153 := NB233_255.out
                   have hnc153 := NB255_233.out
                   have hcz154_0 : wc.cell? ⟨gb233, 0, none⟩ = some (.string t228) := (blk_cell BK233.out 0).trans rfl
                   have hcz154_1 : wc.cell? ⟨gb233, 1, none⟩ = some (.slice Ao37 t244.length co37) := (blk_cell BK233.out 1).trans rfl
                   have hfz154_0 := blk_frozen BK233.out 0
                   have hfz154_1 := blk_frozen BK233.out 1
                   go_wp2_with (first | ((with_reducible refine gate_callee (f := 27) rfl ?_); refine goesL_ (some 95) rfl rfl Try.func27 (by kernel_rfl) rfl #[.agg #[.string t228, .slice Ao37 t244.length co37], .int .i64 1] rfl (by (try simp only [List.map_toArray, List.map_cons, List.map_nil]); first | done | rfl | (simp only [List.length_drop, List.length_take]; rfl)) ?_; (with_reducible refine (laws_heldRecipe.calls kj103 t228 _ _ t244 1 t257 _ ?side1 ?side2 A148.out).mono ?_); (case side1 => repeat (first | exact (Kd.R_reads' HO_234001.out).2.2 | (with_reducible refine Kd.C_alloc ?_ _) | (with_reducible refine Kd.C_drewN ?_ _) | (with_reducible refine Kd.C_drew ?_))); (case side2 => exact (Kd.R_reads' HO_234001.out).2.1); rintro e w155 ⟨rfl, hb⟩; refine ⟨_, rfl, ?_⟩; have n0_ := mkA (Kd.R_below (by (with_reducible repeat (first | apply Kd.R_alloc | apply Kd.R_drewN | apply Kd.R_drew)); exact HO_223001.out) hb); have n1_ := mkA (Kd.R_below (by (with_reducible repeat (first | apply Kd.R_alloc | apply Kd.R_drewN | apply Kd.R_drew)); exact HO_228001.out) hb); have n2_ := mkA (Kd.R_below (by (with_reducible repeat (first | apply Kd.R_alloc | apply Kd.R_drewN | apply Kd.R_drew)); exact HO_234001.out) hb); have n3_ := mkA (Kd.R_below (by (with_reducible repeat (first | apply Kd.R_alloc | apply Kd.R_drewN | apply Kd.R_drew)); exact HO_256001.out) hb); have n4_ := mkA (blk_below (g := gb211) (o := .cells #[.string a0_0, .slice A0_1 l0_1.length c0_1] 24 (0, 0)) (bl_ BK211.out) hb); have n5_ := mkA (blk_below (g := gb222) (o := .cells #[.string t217, .slice Ao23 t218.length co23] 29 (0, 0)) (bl_ BK222.out) hb); have n6_ := mkA (blk_below (g := gb227) (o := .cells #[.string t223, .slice Ao30 t241.length co30] 29 (0, 0)) (bl_ BK227.out) hb); have n7_ := mkA (blk_below (g := gb233) (o := .cells #[.string t228, .slice Ao37 t244.length co37] 29 (0, 0)) (bl_ BK233.out) hb); have n8_ := mkA (blk_below (g := gb255) (o := .cells #[.string t250, .slice Ao124 t251.length co124] 29 (0, 0)) (bl_ BK255.out) hb); have n9_ := mkA (below_step (bs5_ HB.out GE211.out GE222.out GE227.out GE233.out GE255.out) hb); clear HO_223001; clear HO_228001; clear HO_234001; clear HO_256001; clear BK211; clear BK222; clear BK227; clear BK233; clear BK255; clear HB; have HO_223001 := n0_; have HO_228001 := n1_; have HO_234001 := n2_; have HO_256001 := n3_; have BK211 := n4_; have BK222 := n5_; have BK227 := n6_; have BK233 := n7_; have BK255 := n8_; have HB := n9_; clear n0_ n1_ n2_ n3_ n4_ n5_ n6_ n7_ n8_ n9_; (try clear hb); (try clear hb2); (try clear hk); (try clear hi)))
                   go_ret
                   exact ⟨by first | rfl | (simp [errW_none, errW_some] <;> rfl) | (simp [*, errW_none, errW_some] <;> rfl), by repeat (first | (with_reducible first | exact HB.out | apply below_alloc | apply pw_below_drewN | apply below_drew1 | refine below_set ?_ GE211.out | refine below_set ?_ GE222.out | refine below_set ?_ GE227.out | refine below_set ?_ GE233.out | refine below_set ?_ GE255.out) | exact HB.out)⟩
                 · rw [if_neg c149] at H
                   have c149b0 : decide (t257 < 0) = false := decide_eq_false c149
                   clear c149
                   by_cases c156 : t257 = t243
                   rotate_left
                   · rw [if_neg c156] at H
                     have c156b0 : (t257 == t243) = false := beq_eq_false_iff_ne.mpr c156
                     have c156b1 : (t257 != t243) = true := bne_iff_ne.mpr c156
                     obtain rfl := Option.some.inj H
                     have hnb163 := NB233_211.out
                     have hnc163 := NB211_233.out
                     have hnb164 := NB233_222.out
                     have hnc164 := NB222_233.out
                     have hnb165 := NB233_227.out
                     have hnc165 := NB227_233.out
                     have hnb166 := NB233_255.out
                     have hnc166 := NB255_233.out
                     have hcz167_0 : wc.cell? ⟨gb233, 0, none⟩ = some (.string t228) := (blk_cell BK233.out 0).trans rfl
                     have hcz167_1 : wc.cell? ⟨gb233, 1, none⟩ = some (.slice Ao37 t244.length co37) := (blk_cell BK233.out 1).trans rfl
                     have hfz167_0 := blk_frozen BK233.out 0
                     have hfz167_1 := blk_frozen BK233.out 1
                     go_wp2_with (first | ((with_reducible refine gate_callee (f := 27) rfl ?_); refine goesL_ (some 95) rfl rfl Try.func27 (by kernel_rfl) rfl #[.agg #[.string t228, .slice Ao37 t244.length co37], .int .i64 1] rfl (by (try simp only [List.map_toArray, List.map_cons, List.map_nil]); first | done | rfl | (simp only [List.length_drop, List.length_take]; rfl)) ?_; (with_reducible refine (laws_heldRecipe.calls kj103 t228 _ _ t244 1 t257 _ ?side1 ?side2 A148.out).mono ?_); (case side1 => repeat (first | exact (Kd.R_reads' HO_234001.out).2.2 | (with_reducible refine Kd.C_alloc ?_ _) | (with_reducible refine Kd.C_drewN ?_ _) | (with_reducible refine Kd.C_drew ?_))); (case side2 => exact (Kd.R_reads' HO_234001.out).2.1); rintro e w168 ⟨rfl, hb⟩; refine ⟨_, rfl, ?_⟩; have n0_ := mkA (Kd.R_below (by (with_reducible repeat (first | apply Kd.R_alloc | apply Kd.R_drewN | apply Kd.R_drew)); exact HO_223001.out) hb); have n1_ := mkA (Kd.R_below (by (with_reducible repeat (first | apply Kd.R_alloc | apply Kd.R_drewN | apply Kd.R_drew)); exact HO_228001.out) hb); have n2_ := mkA (Kd.R_below (by (with_reducible repeat (first | apply Kd.R_alloc | apply Kd.R_drewN | apply Kd.R_drew)); exact HO_234001.out) hb); have n3_ := mkA (Kd.R_below (by (with_reducible repeat (first | apply Kd.R_alloc | apply Kd.R_drewN | apply Kd.R_drew)); exact HO_256001.out) hb); have n4_ := mkA (blk_below (g := gb211) (o := .cells #[.string a0_0, .slice A0_1 l0_1.length c0_1] 24 (0, 0)) (bl_ BK211.out) hb); have n5_ := mkA (blk_below (g := gb222) (o := .cells #[.string t217, .slice Ao23 t218.length co23] 29 (0, 0)) (bl_ BK222.out) hb); have n6_ := mkA (blk_below (g := gb227) (o := .cells #[.string t223, .slice Ao30 t241.length co30] 29 (0, 0)) (bl_ BK227.out) hb); have n7_ := mkA (blk_below (g := gb233) (o := .cells #[.string t228, .slice Ao37 t244.length co37] 29 (0, 0)) (bl_ BK233.out) hb); have n8_ := mkA (blk_below (g := gb255) (o := .cells #[.string t250, .slice Ao124 t251.length co124] 29 (0, 0)) (bl_ BK255.out) hb); have n9_ := mkA (below_step (bs5_ HB.out GE211.out GE222.out GE227.out GE233.out GE255.out) hb); clear HO_223001; clear HO_228001; clear HO_234001; clear HO_256001; clear BK211; clear BK222; clear BK227; clear BK233; clear BK255; clear HB; have HO_223001 := n0_; have HO_228001 := n1_; have HO_234001 := n2_; have HO_256001 := n3_; have BK211 := n4_; have BK222 := n5_; have BK227 := n6_; have BK233 := n7_; have BK255 := n8_; have HB := n9_; clear n0_ n1_ n2_ n3_ n4_ n5_ n6_ n7_ n8_ n9_; (try clear hb); (try clear hb2); (try clear hk); (try clear hi)))
                     go_ret
                     exact ⟨by first | rfl | (simp [errW_none, errW_some] <;> rfl) | (simp [*, errW_none, errW_some] <;> rfl), by repeat (first | (with_reducible first | exact HB.out | apply below_alloc | apply pw_below_drewN | apply below_drew1 | refine below_set ?_ GE211.out | refine below_set ?_ GE222.out | refine below_set ?_ GE227.out | refine below_set ?_ GE233.out | refine below_set ?_ GE255.out) | exact HB.out)⟩
                   rw [if_pos c156] at H
                   have c156b0 : (t257 == t243) = true := beq_iff_eq.mpr c156
                   have c156b1 : (t257 != t243) = false := bne_eq_false_iff_eq.mpr c156
                   clear c156
                   obtain rfl := Option.some.inj H
                   have hnb157 := NB233_211.out
                   have hnc157 := NB211_233.out
                   have hnb158 := NB233_222.out
                   have hnc158 := NB222_233.out
                   have hnb159 := NB233_227.out
                   have hnc159 := NB227_233.out
                   have hnb160 := NB233_255.out
                   have hnc160 := NB255_233.out
                   have hcz161_0 : wc.cell? ⟨gb233, 0, none⟩ = some (.string t228) := (blk_cell BK233.out 0).trans rfl
                   have hcz161_1 : wc.cell? ⟨gb233, 1, none⟩ = some (.slice Ao37 t244.length co37) := (blk_cell BK233.out 1).trans rfl
                   have hfz161_0 := blk_frozen BK233.out 0
                   have hfz161_1 := blk_frozen BK233.out 1
                   go_wp2_with (first | ((with_reducible refine gate_callee (f := 27) rfl ?_); refine goesL_ (some 95) rfl rfl Try.func27 (by kernel_rfl) rfl #[.agg #[.string t228, .slice Ao37 t244.length co37], .int .i64 1] rfl (by (try simp only [List.map_toArray, List.map_cons, List.map_nil]); first | done | rfl | (simp only [List.length_drop, List.length_take]; rfl)) ?_; (with_reducible refine (laws_heldRecipe.calls kj103 t228 _ _ t244 1 t257 _ ?side1 ?side2 A148.out).mono ?_); (case side1 => repeat (first | exact (Kd.R_reads' HO_234001.out).2.2 | (with_reducible refine Kd.C_alloc ?_ _) | (with_reducible refine Kd.C_drewN ?_ _) | (with_reducible refine Kd.C_drew ?_))); (case side2 => exact (Kd.R_reads' HO_234001.out).2.1); rintro e w162 ⟨rfl, hb⟩; refine ⟨_, rfl, ?_⟩; have n0_ := mkA (Kd.R_below (by (with_reducible repeat (first | apply Kd.R_alloc | apply Kd.R_drewN | apply Kd.R_drew)); exact HO_223001.out) hb); have n1_ := mkA (Kd.R_below (by (with_reducible repeat (first | apply Kd.R_alloc | apply Kd.R_drewN | apply Kd.R_drew)); exact HO_228001.out) hb); have n2_ := mkA (Kd.R_below (by (with_reducible repeat (first | apply Kd.R_alloc | apply Kd.R_drewN | apply Kd.R_drew)); exact HO_234001.out) hb); have n3_ := mkA (Kd.R_below (by (with_reducible repeat (first | apply Kd.R_alloc | apply Kd.R_drewN | apply Kd.R_drew)); exact HO_256001.out) hb); have n4_ := mkA (blk_below (g := gb211) (o := .cells #[.string a0_0, .slice A0_1 l0_1.length c0_1] 24 (0, 0)) (bl_ BK211.out) hb); have n5_ := mkA (blk_below (g := gb222) (o := .cells #[.string t217, .slice Ao23 t218.length co23] 29 (0, 0)) (bl_ BK222.out) hb); have n6_ := mkA (blk_below (g := gb227) (o := .cells #[.string t223, .slice Ao30 t241.length co30] 29 (0, 0)) (bl_ BK227.out) hb); have n7_ := mkA (blk_below (g := gb233) (o := .cells #[.string t228, .slice Ao37 t244.length co37] 29 (0, 0)) (bl_ BK233.out) hb); have n8_ := mkA (blk_below (g := gb255) (o := .cells #[.string t250, .slice Ao124 t251.length co124] 29 (0, 0)) (bl_ BK255.out) hb); have n9_ := mkA (below_step (bs5_ HB.out GE211.out GE222.out GE227.out GE233.out GE255.out) hb); clear HO_223001; clear HO_228001; clear HO_234001; clear HO_256001; clear BK211; clear BK222; clear BK227; clear BK233; clear BK255; clear HB; have HO_223001 := n0_; have HO_228001 := n1_; have HO_234001 := n2_; have HO_256001 := n3_; have BK211 := n4_; have BK222 := n5_; have BK227 := n6_; have BK233 := n7_; have BK255 := n8_; have HB := n9_; clear n0_ n1_ n2_ n3_ n4_ n5_ n6_ n7_ n8_ n9_; (try clear hb); (try clear hb2); (try clear hk); (try clear hi)))
                   go_ret
                   exact ⟨by first | rfl | (simp [errW_none, errW_some] <;> rfl) | (simp [*, errW_none, errW_some] <;> rfl), by repeat (first | (with_reducible first | exact HB.out | apply below_alloc | apply pw_below_drewN | apply below_drew1 | refine below_set ?_ GE211.out | refine below_set ?_ GE222.out | refine below_set ?_ GE227.out | refine below_set ?_ GE233.out | refine below_set ?_ GE255.out) | exact HB.out)⟩
def G36 (x : S36) : Prop := (Lit.int .i64 x.f0).wf = true ∧ (Lit.int .i64 x.f1).wf = true ∧ (Lit.int .i64 x.f2).wf = true
def G24 (x : S24) : Prop := x.f0.size ≤ maxLen ∧ (x.f1.length ≤ maxLen ∧ ∀ y0 ∈ x.f1, G36 y0)

/-- THE ONE PURE STATEMENT of laws_FnExactScaleRecipe. -/
def laws_FnExactScaleRecipe.Pure : Prop := ∀ (a0_0 : ByteArray) (l0_1 : List (S36)) (a1 : Int), G24 (⟨a0_0, l0_1⟩ : S24) → (Lit.int .i64 a1).wf = true → ∃ k, laws_FnExactScaleRecipe.f k a0_0 l0_1 a1 = some true

end Go.Proofs.Yteijbdngbmciaaa.GFnExactScaleRecipe

-- Written by the session's own program (gen.py) out of the translation's print. Lean checks it.
import Derived.Test.YteijbdngbmciaaaGFnExactScaleRecipex0
import Derived.Test.YteijbdngbmciaaaGFnExactScaleRecipex2
namespace Go.Proofs.Yteijbdngbmciaaa.GFnExactScaleRecipe
open Go.RowKit Go.Proofs.YteijbdngbmciaaaW.PrintWords Go.Proofs.YteijbdngbmciaaaW.PrintLast Go.Proofs.YteijbdngbmciaaaW.PrintMore
attribute [local go_sem] max2_int min2_int max_two min_two max_three min_three max_four min_four   -- for this text's walks alone
set_option linter.unusedVariables false
set_option linter.unusedSimpArgs false

/-! ### spec_ScaleRecipe: function 24 -/
def spec_ScaleRecipe.l0 : Nat → Int → Int → ByteArray → List (S38) → Option (ByteArray × (List (S38)) × Int)
  | 0, _, _, _, _ => none
  | k + 1, x1, x7, x161000, x161001 => if x7 < (x161001.length : Int) then (if 0 ≤ x7 then (if ((rd_T38 x161001 x7).f0) = 1 then ((spec_l01Div.f (wrap64 (((rd_T38 x161001 x7).f2) * 100)) x1).bind fun t163 => (spec_ScaleRecipe.l0 k x1 (wrap64 (x7 + 1)) x161000 (x161001.set (x7 : Int).toNat (⟨(rd_T38 x161001 x7).f0, (rd_T38 x161001 x7).f1, t163⟩ : S38)))) else (spec_ScaleRecipe.l0 k x1 (wrap64 (x7 + 1)) x161000 x161001)) else (none)) else ((spec_l21Ok.f k [(⟨x161000, x161001⟩ : S29)]).bind fun t165 => (if t165 = true then (some (x161000, x161001, 0)) else (some ((⟨#[]⟩ : ByteArray), ([] : List (S38)), 6))))
def spec_ScaleRecipe.f (k : Nat) (a0_0 : ByteArray) (l0_1 : List (S38)) (a1 : Int) : Option (ByteArray × (List (S38)) × Int) := (spec_l21Ok.f k [(⟨a0_0, l0_1⟩ : S29)]).bind fun t152 => (if t152 = true then ((spec_l00In.f a1 50 200).bind fun t153 => (if t153 = true then ((some (([] : List (S38)) : List (S38))).bind fun y154 => (if y154.length + l0_1.length < 5864062014805 then (spec_ScaleRecipe.l0 k a1 0 a0_0 (y154 ++ l0_1)) else (none))) else (some ((⟨#[]⟩ : ByteArray), ([] : List (S38)), 2)))) else (some ((⟨#[]⟩ : ByteArray), ([] : List (S38)), 1)))
theorem spec_ScaleRecipe.mono_l : ∀ k, (∀ y0 y1 y2 y3, LeO (spec_ScaleRecipe.l0 k y0 y1 y2 y3) (spec_ScaleRecipe.l0 (k + 1) y0 y1 y2 y3))
  | 0 => fun _ _ _ _ r h => by simp [spec_ScaleRecipe.l0] at h
  | k + 1 => by
    have ih0 := spec_ScaleRecipe.mono_l k
    · intro y0 y1 y2 y3
      unfold spec_ScaleRecipe.l0
      repeat' first
      | (with_reducible exact ih0 _ _ _ _)
      | (with_reducible exact spec_l21Ok.mono _ _)
      | (with_reducible exact LeO.refl _)
      | (with_reducible exact LeO.none _)
      | (with_reducible refine LeO.ite ?_ ?_)
      | (with_reducible refine LeO.bind ?_ (fun _ => ?_))
      | exact ih0 _ _ _ _
      | exact spec_l21Ok.mono _ _
      | exact LeO.none _
      | refine LeO.ite ?_ ?_
      | refine LeO.bind ?_ (fun _ => ?_)
theorem spec_ScaleRecipe.mono : ∀ a0 a1 a2 k, LeO (spec_ScaleRecipe.f k a0 a1 a2) (spec_ScaleRecipe.f (k + 1) a0 a1 a2) := by
  intro a0 a1 a2 k
  have ih0 := spec_ScaleRecipe.mono_l k
  unfold spec_ScaleRecipe.f
  repeat' first
      | (with_reducible exact ih0 _ _ _ _)
      | (with_reducible exact spec_l21Ok.mono _ _)
      | (with_reducible exact LeO.refl _)
      | (with_reducible exact LeO.none _)
      | (with_reducible refine LeO.ite ?_ ?_)
      | (with_reducible refine LeO.bind ?_ (fun _ => ?_))
      | exact ih0 _ _ _ _
      | exact spec_l21Ok.mono _ _
      | exact LeO.none _
      | refine LeO.ite ?_ ?_
      | refine LeO.bind ?_ (fun _ => ?_)
def spec_ScaleRecipe.T5 : Bool × List (List Nat × List Nat) := (true, [([], []), ([0], [0]), ([], []), ([], []), ([3], [3]), ([2, 4], [2, 4]), ([1, 5], [1, 5]), ([], []), ([7, 6, 5, 0, 1, 2, 3, 4, 5, 6, 7], [6, 7])])
def spec_ScaleRecipe.B5 : List Nat := [0, 1, 0, 0, 8, 28, 63, 0, 255]
theorem spec_ScaleRecipe.tab5 : rtab .any (opsOf Try.f24 5) = spec_ScaleRecipe.T5 := by kernel_rfl
theorem spec_ScaleRecipe.bits5 : waitsOk spec_ScaleRecipe.T5.2 spec_ScaleRecipe.B5 = true := by kernel_rfl
def spec_ScaleRecipe.T10 : Bool × List (List Nat × List Nat) := (true, [([], []), ([0], [0]), ([], []), ([], []), ([3], [3]), ([], []), ([4, 5], [4, 5]), ([6], [6]), ([7], [7]), ([8], [8]), ([], []), ([9, 10], [9, 10]), ([1, 2, 0, 1, 2, 3, 4, 5, 6, 7, 8, 9, 10, 11], [1, 2]), ([12, 0, 1, 2, 3, 4, 5, 6, 7, 8, 9, 10, 11], [12]), ([13, 11, 11, 0, 1, 2, 3, 4, 5, 6, 7, 8, 9, 10, 11], [11, 13])])
def spec_ScaleRecipe.B10 : List Nat := [0, 1, 0, 0, 8, 0, 56, 120, 248, 504, 0, 2040, 4095, 8191, 16383]
theorem spec_ScaleRecipe.tab10 : rtab .any (opsOf Try.f24 10) = spec_ScaleRecipe.T10 := by kernel_rfl
theorem spec_ScaleRecipe.bits10 : waitsOk spec_ScaleRecipe.T10.2 spec_ScaleRecipe.B10 = true := by kernel_rfl
open List renaming setIfInBounds_toArray → sA, set_cons_zero → sB, set_cons_succ → sC
open Go.Proofs.YteijbdngbmciaaaW.PrintWords.Aside0 renaming mk → mkA
open Go.Proofs.YteijbdngbmciaaaX (dt_ bc_ p0_ p1_ bl_ cb_ bs0_ bs1_ bs2_ bs3_ bs4_ bs5_ bs6_ bs7_ bs8_ bs9_ bs10_ bs11_ bs12_)
abbrev spec_ScaleRecipe.d0 : Array Bool := #[false, false, false, false, false, false, false, false, false]
abbrev spec_ScaleRecipe.d1 : Array Bool := #[true, false, false, false, false, false, false, false, false]
abbrev spec_ScaleRecipe.d2 : Array Bool := #[true, false, false, true, false, false, false, false, false]
abbrev spec_ScaleRecipe.d3 : Array Bool := #[true, true, false, true, false, false, false, false, false]
abbrev spec_ScaleRecipe.d4 : Array Bool := #[true, true, false, true, true, false, false, false, false]
abbrev spec_ScaleRecipe.d5 : Array Bool := #[true, true, true, true, true, true, true, true, false]
abbrev spec_ScaleRecipe.d6 : Array Bool := #[true, true, true, true, true, false, false, false, false]
abbrev spec_ScaleRecipe.d7 : Array Bool := #[true, true, false, true, true, false, false, true, false]
abbrev spec_ScaleRecipe.d8 : Array Bool := #[true, true, true, true, true, true, false, false, false]
abbrev spec_ScaleRecipe.d9 : Array Bool := #[true, true, true, true, true, false, false, true, false]
abbrev spec_ScaleRecipe.d10 : Array Bool := #[true, true, true, true, true, true, true, false, false]
abbrev spec_ScaleRecipe.d11 : Array Bool := #[true, true, true, true, true, true, false, true, false]
abbrev spec_ScaleRecipe.d12 : Array Bool := #[true, true, true, true, true, true, true, true, true]
abbrev spec_ScaleRecipe.d13 : Array Bool := #[false, false, false, false, false, false, false, false, false, false, false, false, false, false, false]
abbrev spec_ScaleRecipe.d14 : Array Bool := #[true, false, false, false, false, false, false, false, false, false, false, false, false, false, false]
abbrev spec_ScaleRecipe.d15 : Array Bool := #[true, false, true, false, false, false, false, false, false, false, false, false, false, false, false]
abbrev spec_ScaleRecipe.d16 : Array Bool := #[true, false, true, true, false, false, false, false, false, false, false, false, false, false, false]
abbrev spec_ScaleRecipe.d17 : Array Bool := #[true, false, true, true, false, true, false, false, false, false, false, false, false, false, false]
abbrev spec_ScaleRecipe.d18 : Array Bool := #[true, false, true, true, false, true, false, false, false, false, true, false, false, false, false]
abbrev spec_ScaleRecipe.d19 : Array Bool := #[true, true, true, true, false, true, false, false, false, false, true, false, false, false, false]
abbrev spec_ScaleRecipe.d20 : Array Bool := #[true, true, true, true, true, true, false, false, false, false, true, false, false, false, false]
abbrev spec_ScaleRecipe.d21 : Array Bool := #[true, true, true, true, true, true, true, false, false, false, true, false, false, false, false]
abbrev spec_ScaleRecipe.d22 : Array Bool := #[true, true, true, true, true, true, true, true, false, false, true, false, false, false, false]
abbrev spec_ScaleRecipe.d23 : Array Bool := #[true, true, true, true, true, true, true, true, true, false, true, false, false, false, false]
abbrev spec_ScaleRecipe.d24 : Array Bool := #[true, true, true, true, true, true, true, true, true, true, true, false, false, false, false]
abbrev spec_ScaleRecipe.d25 : Array Bool := #[true, true, true, true, true, true, true, true, true, true, true, true, false, false, false]
abbrev spec_ScaleRecipe.d26 : Array Bool := #[true, true, true, true, true, true, true, true, true, true, true, true, true, false, false]
abbrev spec_ScaleRecipe.d27 : Array Bool := #[true, true, true, true, true, true, true, true, true, true, true, true, true, true, false]
abbrev spec_ScaleRecipe.d28 : Array Bool := #[true, true, true, true, true, true, true, true, true, true, true, true, true, true, true]
set_option maxHeartbeats 8000000 in
set_option maxRecDepth 100000 in
theorem spec_ScaleRecipe.calls (k : Nat) (a0_0 : ByteArray) (A0_1 : Option Addr) (c0_1 : Nat) (l0_1 : List (S38)) (a1 : Int) (r1 : ByteArray) (r2 : List (S38)) (r3 : Int) (w : World) (hr0_1 : Kd.C k38 w A0_1 l0_1.length l0_1) (hc0_1 : l0_1.length ≤ c0_1) (h : spec_ScaleRecipe.f k a0_0 l0_1 a1 = some (r1, r2, r3)) :
 Calls Try.prog 24 #[.agg #[.string a0_0, .slice A0_1 l0_1.length c0_1], .int .i64 a1] w fun e w' => ∃ v1_ : Value, e = .returned (.tuple #[.agg #[.string r1, v1_], .int .i64 r3]) ∧ Kd.R k38 38 w' w.heap.size (fun _ => True) v1_ r2 ∧ Below w.heap.size w w' := by
 have hu29 := Try.underlying29
 have HR0_1 := mkA hr0_1
 have HC0_1 := mkA hc0_1
 clear hr0_1 hc0_1
 have HB := mkA (Below.refl w.heap.size w)
 have H : ((spec_l21Ok.f k [(⟨a0_0, l0_1⟩ : S29)]).bind fun t152 => (if t152 = true then ((spec_l00In.f a1 50 200).bind fun t153 => (if t153 = true then ((some (([] : List (S38)) : List (S38))).bind fun y154 => (if y154.length + l0_1.length < 5864062014805 then (spec_ScaleRecipe.l0 k a1 0 a0_0 (y154 ++ l0_1)) else (none))) else (some ((⟨#[]⟩ : ByteArray), ([] : List (S38)), 2)))) else (some ((⟨#[]⟩ : ByteArray), ([] : List (S38)), 1)))) = some (r1, r2, r3) := h
 clear h
 replace H := Option.bind_eq_some_iff.mp H
 obtain ⟨t152, A30, H⟩ := H
 replace H : (if t152 = true then ((spec_l00In.f a1 50 200).bind fun t153 => (if t153 = true then ((some (([] : List (S38)) : List (S38))).bind fun y154 => (if y154.length + l0_1.length < 5864062014805 then (spec_ScaleRecipe.l0 k a1 0 a0_0 (y154 ++ l0_1)) else (none))) else (some ((⟨#[]⟩ : ByteArray), ([] : List (S38)), 2)))) else (some ((⟨#[]⟩ : ByteArray), ([] : List (S38)), 1))) = some (r1, r2, r3) := H
 have A3 := mkA A30
 clear A30
 by_cases c4 : t152 = true
 rotate_left
 · replace c4 := Bool.eq_false_iff.mpr c4
   subst c4
   have H1 : (some ((⟨#[]⟩ : ByteArray), ([] : List (S38)), 1)) = some (r1, r2, r3) := by rw [if_neg (show ¬ (false = true) by decide)] at H; exact H
   clear H
   have H := H1
   clear H1
   simp only [Option.some.injEq, Prod.mk.injEq] at H
   obtain ⟨rfl, rfl, rfl⟩ := H
   go_enter Try.func24, Try.ntmps24
   go_wp2_with (first | ((with_reducible refine gate_dst (N := 2) rfl ?_); refine box_event ?hg (N := 2) ?hd (cs := #[.string a0_0, .slice A0_1 l0_1.length c0_1]) (t := 29) ?hr ?_; (case hd => rfl); (case hg => rfl); (case hr => first | (go_simp; done) | (go_simp; rfl)); intro gb150 hg w54 hbox hb; have n0_ := mkA (below_step (bs0_ HB.out) hb); have n1_ := mkA (hbox); have n2_ := mkA ((by rw [hg]; exact (below_size (bs0_ HB.out)) : w.heap.size ≤ gb150)); have n3_ := mkA ((by rw [hg]; exact (below_size (bs0_ HB.out)) : w.heap.size ≤ gb150)); clear HB; have HB := n0_; have BK150 := n1_; have GW150 := n2_; have GE150 := n3_; clear n0_ n1_ n2_ n3_; clear hb hbox hg) | ((with_reducible refine gate_dst (N := 4) rfl ?_); refine box_event ?hg (N := 4) ?hd (cs := #[.string (⟨#[]⟩ : ByteArray), .slice none 0 0]) (t := 29) ?hr ?_; (case hd => rfl); (case hg => rfl); (case hr => first | (go_simp; done) | (go_simp; rfl)); intro gb151 hg w55 hbox hb; have n0_ := mkA (blk_below (g := gb150) (o := .cells #[.string a0_0, .slice A0_1 l0_1.length c0_1] 29 (0, 0)) (bl_ BK150.out) hb); have n1_ := mkA (below_step (bs1_ HB.out GE150.out) hb); have n2_ := mkA (hbox); have n3_ := mkA ((by rw [hg]; exact (below_size (bs1_ HB.out GE150.out)) : w.heap.size ≤ gb151)); have n4_ := mkA ((by rw [hg]; exact (below_size (bs1_ HB.out GE150.out)) : w.heap.size ≤ gb151)); have n5_ := mkA ((by rw [hg]; exact Nat.ne_of_lt (blk_lt (g := gb150) (o := .cells #[.string a0_0, .slice A0_1 l0_1.length c0_1] 29 (0, 0)) (bl_ BK150.out)) : gb150 ≠ gb151)); have n6_ := mkA ((by rw [hg]; exact Nat.ne_of_gt (blk_lt (g := gb150) (o := .cells #[.string a0_0, .slice A0_1 l0_1.length c0_1] 29 (0, 0)) (bl_ BK150.out)) : gb151 ≠ gb150)); clear BK150; clear HB; have BK150 := n0_; have HB := n1_; have BK151 := n2_; have GW151 := n3_; have GE151 := n4_; have NB150_151 := n5_; have NB151_150 := n6_; clear n0_ n1_ n2_ n3_ n4_ n5_ n6_; clear hb hbox hg) | ((with_reducible refine gate_callee (f := 34) rfl ?_); refine goesL_ (some 8) rfl rfl Try.func34 (by kernel_rfl) rfl #[.pointer (some ⟨gb150, 0, none⟩)] rfl (by (try simp only [List.map_toArray, List.map_cons, List.map_nil]); first | done | rfl | (simp only [List.length_drop, List.length_take]; rfl)) ?_; (with_reducible refine (spec_l21Ok.calls k _ [(⟨a0_0, l0_1⟩ : S29)] false _ ?side1 A3.out).mono ?_); (case side1 => exact Go.Proofs.YteijbdngbmciaaaX.rp_box (t := 29) (fr := (0, 0)) (bl_ BK150.out) (k29_mk _ (⟨a0_0, l0_1⟩ : S29) (by exact HC0_1.out) (by repeat (first | exact (Kd.C_below HR0_1.out HB.out) | (with_reducible refine Kd.C_alloc ?_ _) | (with_reducible refine Kd.C_drewN ?_ _) | (with_reducible refine Kd.C_drew ?_))))); rintro e w' ⟨rfl, ⟨nd, rfl⟩⟩; refine ⟨_, rfl, ?_⟩; (try (rw [drewN_self w55]; generalize hq_ : World.drewN w55 _ = w55; have n0_ : Aside0 (w55.heap[gb150]? = some (.cells #[.string a0_0, .slice A0_1 l0_1.length c0_1] 29 (0, 0))) := ⟨by rw [← hq_]; exact (bl_ BK150.out)⟩; have n1_ : Aside0 (w55.heap[gb151]? = some (.cells #[.string (⟨#[]⟩ : ByteArray), .slice none 0 0] 29 (0, 0))) := ⟨by rw [← hq_]; exact (bl_ BK151.out)⟩; have n2_ : Aside0 (Below w.heap.size w w55) := ⟨by rw [← hq_]; exact (bs2_ HB.out GE150.out GE151.out)⟩; clear BK150 BK151 HB hq_; have BK150 := n0_; have BK151 := n1_; have HB := n2_; clear n0_ n1_ n2_)); have hnb56 := NB151_150.out; have hnc56 := NB150_151.out; have hcz57_0 : w55.cell? ⟨gb151, 0, none⟩ = some (.string (⟨#[]⟩ : ByteArray)) := (blk_cell BK151.out 0).trans rfl; have hcz57_1 : w55.cell? ⟨gb151, 1, none⟩ = some (.slice none 0 0) := (blk_cell BK151.out 1).trans rfl; have hfz57_0 := blk_frozen BK151.out 0; have hfz57_1 := blk_frozen BK151.out 1))
   refine bodyPost_ret (results_ct rfl _ _ gb151 29 #[.string (⟨#[]⟩ : ByteArray), .slice none 0 0] (0, 0) _ rfl (by (with_reducible repeat (first | refine blk_drewN ?_ _ | refine blk_drew ?_ | refine blk_alloc ?_ _)); refine blk_put (cs := #[.string (⟨#[]⟩ : ByteArray), .slice none 0 0]) ?_ 1 _ rfl; (with_reducible repeat (first | refine blk_drewN ?_ _ | refine blk_drew ?_ | refine blk_alloc ?_ _)); refine blk_put (cs := #[.string (⟨#[]⟩ : ByteArray), .slice none 0 0]) ?_ 0 _ rfl; (with_reducible repeat (first | refine blk_drewN ?_ _ | refine blk_drew ?_ | refine blk_alloc ?_ _)); exact BK151.out) Try.underlying29 rfl (by kernel_rfl)) rfl ?_
   exact ⟨_, by first | rfl | (simp [errW_none, errW_some] <;> rfl) | (simp [*, errW_none, errW_some] <;> rfl), by first | exact Kd.R_nil _ _ _ _ _ | exact Kd.N_nil _ _ _ _ _ | exact Kd.V_nil _ _ _ _ _ | exact Kd.Q_nil _ _ _ _ _ | exact Kd.S_nil _ _ _ _ _, by repeat (first | (with_reducible first | exact HB.out | apply below_alloc | apply pw_below_drewN | apply below_drew1 | refine below_set ?_ GE150.out | refine below_set ?_ GE151.out) | exact HB.out)⟩

 subst c4
 have H1 : ((spec_l00In.f a1 50 200).bind fun t153 => (if t153 = true then ((some (([] : List (S38)) : List (S38))).bind fun y154 => (if y154.length + l0_1.length < 5864062014805 then (spec_ScaleRecipe.l0 k a1 0 a0_0 (y154 ++ l0_1)) else (none))) else (some ((⟨#[]⟩ : ByteArray), ([] : List (S38)), 2)))) = some (r1, r2, r3) := by rw [if_pos rfl] at H; exact H
 clear H
 have H := H1
 clear H1
 replace H := Option.bind_eq_some_iff.mp H
 obtain ⟨t153, A50, H⟩ := H
 replace H : (if t153 = true then ((some (([] : List (S38)) : List (S38))).bind fun y154 => (if y154.length + l0_1.length < 5864062014805 then (spec_ScaleRecipe.l0 k a1 0 a0_0 (y154 ++ l0_1)) else (none))) else (some ((⟨#[]⟩ : ByteArray), ([] : List (S38)), 2))) = some (r1, r2, r3) := H
 have A5 := mkA A50
 clear A50
 by_cases c6 : t153 = true
 rotate_left
 · replace c6 := Bool.eq_false_iff.mpr c6
   subst c6
   have H1 : (some ((⟨#[]⟩ : ByteArray), ([] : List (S38)), 2)) = some (r1, r2, r3) := by rw [if_neg (show ¬ (false = true) by decide)] at H; exact H
   clear H
   have H := H1
   clear H1
   simp only [Option.some.injEq, Prod.mk.injEq] at H
   obtain ⟨rfl, rfl, rfl⟩ := H
   go_enter Try.func24, Try.ntmps24
   go_wp2_with (first | ((with_reducible refine gate_dst (N := 2) rfl ?_); refine box_event ?hg (N := 2) ?hd (cs := #[.string a0_0, .slice A0_1 l0_1.length c0_1]) (t := 29) ?hr ?_; (case hd => rfl); (case hg => rfl); (case hr => first | (go_simp; done) | (go_simp; rfl)); intro gb150 hg w50 hbox hb; have n0_ := mkA (below_step (bs0_ HB.out) hb); have n1_ := mkA (hbox); have n2_ := mkA ((by rw [hg]; exact (below_size (bs0_ HB.out)) : w.heap.size ≤ gb150)); have n3_ := mkA ((by rw [hg]; exact (below_size (bs0_ HB.out)) : w.heap.size ≤ gb150)); clear HB; have HB := n0_; have BK150 := n1_; have GW150 := n2_; have GE150 := n3_; clear n0_ n1_ n2_ n3_; clear hb hbox hg) | ((with_reducible refine gate_dst (N := 4) rfl ?_); refine box_event ?hg (N := 4) ?hd (cs := #[.string (⟨#[]⟩ : ByteArray), .slice none 0 0]) (t := 29) ?hr ?_; (case hd => rfl); (case hg => rfl); (case hr => first | (go_simp; done) | (go_simp; rfl)); intro gb151 hg w51 hbox hb; have n0_ := mkA (blk_below (g := gb150) (o := .cells #[.string a0_0, .slice A0_1 l0_1.length c0_1] 29 (0, 0)) (bl_ BK150.out) hb); have n1_ := mkA (below_step (bs1_ HB.out GE150.out) hb); have n2_ := mkA (hbox); have n3_ := mkA ((by rw [hg]; exact (below_size (bs1_ HB.out GE150.out)) : w.heap.size ≤ gb151)); have n4_ := mkA ((by rw [hg]; exact (below_size (bs1_ HB.out GE150.out)) : w.heap.size ≤ gb151)); have n5_ := mkA ((by rw [hg]; exact Nat.ne_of_lt (blk_lt (g := gb150) (o := .cells #[.string a0_0, .slice A0_1 l0_1.length c0_1] 29 (0, 0)) (bl_ BK150.out)) : gb150 ≠ gb151)); have n6_ := mkA ((by rw [hg]; exact Nat.ne_of_gt (blk_lt (g := gb150) (o := .cells #[.string a0_0, .slice A0_1 l0_1.length c0_1] 29 (0, 0)) (bl_ BK150.out)) : gb151 ≠ gb150)); clear BK150; clear HB; have BK150 := n0_; have HB := n1_; have BK151 := n2_; have GW151 := n3_; have GE151 := n4_; have NB150_151 := n5_; have NB151_150 := n6_; clear n0_ n1_ n2_ n3_ n4_ n5_ n6_; clear hb hbox hg) | ((with_reducible refine gate_callee (f := 34) rfl ?_); refine goesL_ (some 8) rfl rfl Try.func34 (by kernel_rfl) rfl #[.pointer (some ⟨gb150, 0, none⟩)] rfl (by (try simp only [List.map_toArray, List.map_cons, List.map_nil]); first | done | rfl | (simp only [List.length_drop, List.length_take]; rfl)) ?_; (with_reducible refine (spec_l21Ok.calls k _ [(⟨a0_0, l0_1⟩ : S29)] true _ ?side1 A3.out).mono ?_); (case side1 => exact Go.Proofs.YteijbdngbmciaaaX.rp_box (t := 29) (fr := (0, 0)) (bl_ BK150.out) (k29_mk _ (⟨a0_0, l0_1⟩ : S29) (by exact HC0_1.out) (by repeat (first | exact (Kd.C_below HR0_1.out HB.out) | (with_reducible refine Kd.C_alloc ?_ _) | (with_reducible refine Kd.C_drewN ?_ _) | (with_reducible refine Kd.C_drew ?_))))); rintro e w' ⟨rfl, ⟨nd, rfl⟩⟩; refine ⟨_, rfl, ?_⟩; (try (rw [drewN_self w51]; generalize hq_ : World.drewN w51 _ = w51; have n0_ : Aside0 (w51.heap[gb150]? = some (.cells #[.string a0_0, .slice A0_1 l0_1.length c0_1] 29 (0, 0))) := ⟨by rw [← hq_]; exact (bl_ BK150.out)⟩; have n1_ : Aside0 (w51.heap[gb151]? = some (.cells #[.string (⟨#[]⟩ : ByteArray), .slice none 0 0] 29 (0, 0))) := ⟨by rw [← hq_]; exact (bl_ BK151.out)⟩; have n2_ : Aside0 (Below w.heap.size w w51) := ⟨by rw [← hq_]; exact (bs2_ HB.out GE150.out GE151.out)⟩; clear BK150 BK151 HB hq_; have BK150 := n0_; have BK151 := n1_; have HB := n2_; clear n0_ n1_ n2_))) | ((with_reducible refine gate_callee (f := 57) rfl ?_); refine goesL_ (some 12) rfl rfl Try.func57 (by kernel_rfl) rfl #[.int .i64 a1, .int .i64 50, .int .i64 200] rfl (by (try simp only [List.map_toArray, List.map_cons, List.map_nil]); first | done | rfl | (simp only [List.length_drop, List.length_take]; rfl)) ?_; (with_reducible refine (spec_l00In.calls a1 50 200 false _ A5.out).mono ?_); rintro e w' ⟨rfl, ⟨nd, rfl⟩⟩; refine ⟨_, rfl, ?_⟩; (try (rw [drewN_self w51]; generalize hq_ : World.drewN w51 _ = w51; have n0_ : Aside0 (w51.heap[gb150]? = some (.cells #[.string a0_0, .slice A0_1 l0_1.length c0_1] 29 (0, 0))) := ⟨by rw [← hq_]; exact (bl_ BK150.out)⟩; have n1_ : Aside0 (w51.heap[gb151]? = some (.cells #[.string (⟨#[]⟩ : ByteArray), .slice none 0 0] 29 (0, 0))) := ⟨by rw [← hq_]; exact (bl_ BK151.out)⟩; have n2_ : Aside0 (Below w.heap.size w w51) := ⟨by rw [← hq_]; exact (bs2_ HB.out GE150.out GE151.out)⟩; clear BK150 BK151 HB hq_; have BK150 := n0_; have BK151 := n1_; have HB := n2_; clear n0_ n1_ n2_)); have hnb52 := NB151_150.out; have hnc52 := NB150_151.out; have hcz53_0 : w51.cell? ⟨gb151, 0, none⟩ = some (.string (⟨#[]⟩ : ByteArray)) := (blk_cell BK151.out 0).trans rfl; have hcz53_1 : w51.cell? ⟨gb151, 1, none⟩ = some (.slice none 0 0) := (blk_cell BK151.out 1).trans rfl; have hfz53_0 := blk_frozen BK151.out 0; have hfz53_1 := blk_frozen BK151.out 1))
   refine bodyPost_ret (results_ct rfl _ _ gb151 29 #[.string (⟨#[]⟩ : ByteArray), .slice none 0 0] (0, 0) _ rfl (by (with_reducible repeat (first | refine blk_drewN ?_ _ | refine blk_drew ?_ | refine blk_alloc ?_ _)); refine blk_put (cs := #[.string (⟨#[]⟩ : ByteArray), .slice none 0 0]) ?_ 1 _ rfl; (with_reducible repeat (first | refine blk_drewN ?_ _ | refine blk_drew ?_ | refine blk_alloc ?_ _)); refine blk_put (cs := #[.string (⟨#[]⟩ : ByteArray), .slice none 0 0]) ?_ 0 _ rfl; (with_reducible repeat (first | refine blk_drewN ?_ _ | refine blk_drew ?_ | refine blk_alloc ?_ _)); exact BK151.out) Try.underlying29 rfl (by kernel_rfl)) rfl ?_
   exact ⟨_, by first | rfl | (simp [errW_none, errW_some] <;> rfl) | (simp [*, errW_none, errW_some] <;> rfl), by first | exact Kd.R_nil _ _ _ _ _ | exact Kd.N_nil _ _ _ _ _ | exact Kd.V_nil _ _ _ _ _ | exact Kd.Q_nil _ _ _ _ _ | exact Kd.S_nil _ _ _ _ _, by repeat (first | (with_reducible first | exact HB.out | apply below_alloc | apply pw_below_drewN | apply below_drew1 | refine below_set ?_ GE150.out | refine below_set ?_ GE151.out) | exact HB.out)⟩
 subst c6
 have H1 : ((some (([] : List (S38)) : List (S38))).bind fun y154 => (if y154.length + l0_1.length < 5864062014805 then (spec_ScaleRecipe.l0 k a1 0 a0_0 (y154 ++ l0_1)) else (none))) = some (r1, r2, r3) := by rw [if_pos rfl] at H; exact H
 clear H
 have H := H1
 clear H1
 obtain ⟨y154, hy154⟩ : ∃ y_ : List (S38), y_ = (([] : List (S38))) := ⟨_, rfl⟩
 replace H : (if y154.length + l0_1.length < 5864062014805 then (spec_ScaleRecipe.l0 k a1 0 a0_0 (y154 ++ l0_1)) else (none)) = some (r1, r2, r3) := by first | (rw [hy154]; with_reducible exact H) | (have H2_ := (Option.bind_some _ _).symm.trans H; rw [hy154]; with_reducible exact H2_) | (have H2_ := (Option.bind_some _ _).symm.trans H; with_reducible exact H2_) | with_reducible exact H | (rw [hy154]; exact H) | exact H
 have Ny154 := mkA hy154
 clear hy154
 by_cases c7 : y154.length + l0_1.length < 5864062014805
 rotate_left
 · rw [if_neg c7] at H
   exact absurd H (by simp)
 rw [if_pos c7] at H
 have LMc7 := mkA c7
 clear c7
 obtain ⟨y157, hy157⟩ : ∃ y_ : List (S38), y_ = (y154 ++ l0_1) := ⟨_, rfl⟩
 replace H : (spec_ScaleRecipe.l0 k a1 0 a0_0 y157) = some (r1, r2, r3) := by first | (rw [hy157]; with_reducible exact H) | (have H2_ := (Option.bind_some _ _).symm.trans H; rw [hy157]; with_reducible exact H2_) | (have H2_ := (Option.bind_some _ _).symm.trans H; with_reducible exact H2_) | with_reducible exact H | (rw [hy157]; exact H) | exact H
 have Ny157 := mkA hy157
 clear hy157
 have H' := mkA H
 clear H
 go_enter Try.func24, Try.ntmps24
 try go_wp2_with (first | ((with_reducible refine gate_dst (N := 2) rfl ?_); refine box_event ?hg (N := 2) ?hd (cs := #[.string a0_0, .slice A0_1 l0_1.length c0_1]) (t := 29) ?hr ?_; (case hd => rfl); (case hg => rfl); (case hr => first | (go_simp; done) | (go_simp; rfl)); intro gb150 hg w8 hbox hb; have n0_ := mkA (below_step (bs0_ HB.out) hb); have n1_ := mkA (hbox); have n2_ := mkA ((by rw [hg]; exact (below_size (bs0_ HB.out)) : w.heap.size ≤ gb150)); have n3_ := mkA ((by rw [hg]; exact (below_size (bs0_ HB.out)) : w.heap.size ≤ gb150)); clear HB; have HB := n0_; have BK150 := n1_; have GW150 := n2_; have GE150 := n3_; clear n0_ n1_ n2_ n3_; clear hb hbox hg) | ((with_reducible refine gate_dst (N := 4) rfl ?_); refine box_event ?hg (N := 4) ?hd (cs := #[.string (⟨#[]⟩ : ByteArray), .slice none 0 0]) (t := 29) ?hr ?_; (case hd => rfl); (case hg => rfl); (case hr => first | (go_simp; done) | (go_simp; rfl)); intro gb151 hg w9 hbox hb; have n0_ := mkA (blk_below (g := gb150) (o := .cells #[.string a0_0, .slice A0_1 l0_1.length c0_1] 29 (0, 0)) (bl_ BK150.out) hb); have n1_ := mkA (below_step (bs1_ HB.out GE150.out) hb); have n2_ := mkA (hbox); have n3_ := mkA ((by rw [hg]; exact (below_size (bs1_ HB.out GE150.out)) : w.heap.size ≤ gb151)); have n4_ := mkA ((by rw [hg]; exact (below_size (bs1_ HB.out GE150.out)) : w.heap.size ≤ gb151)); have n5_ := mkA ((by rw [hg]; exact Nat.ne_of_lt (blk_lt (g := gb150) (o := .cells #[.string a0_0, .slice A0_1 l0_1.length c0_1] 29 (0, 0)) (bl_ BK150.out)) : gb150 ≠ gb151)); have n6_ := mkA ((by rw [hg]; exact Nat.ne_of_gt (blk_lt (g := gb150) (o := .cells #[.string a0_0, .slice A0_1 l0_1.length c0_1] 29 (0, 0)) (bl_ BK150.out)) : gb151 ≠ gb150)); clear BK150; clear HB; have BK150 := n0_; have HB := n1_; have BK151 := n2_; have GW151 := n3_; have GE151 := n4_; have NB150_151 := n5_; have NB151_150 := n6_; clear n0_ n1_ n2_ n3_ n4_ n5_ n6_; clear hb hbox hg) | ((with_reducible refine gate_callee (f := 34) rfl ?_); refine goesL_ (some 8) rfl rfl Try.func34 (by kernel_rfl) rfl #[.pointer (some ⟨gb150, 0, none⟩)] rfl (by (try simp only [List.map_toArray, List.map_cons, List.map_nil]); first | done | rfl | (simp only [List.length_drop, List.length_take]; rfl)) ?_; (with_reducible refine (spec_l21Ok.calls k _ [(⟨a0_0, l0_1⟩ : S29)] true _ ?side1 A3.out).mono ?_); (case side1 => exact Go.Proofs.YteijbdngbmciaaaX.rp_box (t := 29) (fr := (0, 0)) (bl_ BK150.out) (k29_mk _ (⟨a0_0, l0_1⟩ : S29) (by exact HC0_1.out) (by repeat (first | exact (Kd.C_below HR0_1.out HB.out) | (with_reducible refine Kd.C_alloc ?_ _) | (with_reducible refine Kd.C_drewN ?_ _) | (with_reducible refine Kd.C_drew ?_))))); rintro e w' ⟨rfl, ⟨nd, rfl⟩⟩; refine ⟨_, rfl, ?_⟩; (try (rw [drewN_self w9]; generalize hq_ : World.drewN w9 _ = w9; have n0_ : Aside0 (w9.heap[gb150]? = some (.cells #[.string a0_0, .slice A0_1 l0_1.length c0_1] 29 (0, 0))) := ⟨by rw [← hq_]; exact (bl_ BK150.out)⟩; have n1_ : Aside0 (w9.heap[gb151]? = some (.cells #[.string (⟨#[]⟩ : ByteArray), .slice none 0 0] 29 (0, 0))) := ⟨by rw [← hq_]; exact (bl_ BK151.out)⟩; have n2_ : Aside0 (Below w.heap.size w w9) := ⟨by rw [← hq_]; exact (bs2_ HB.out GE150.out GE151.out)⟩; clear BK150 BK151 HB hq_; have BK150 := n0_; have BK151 := n1_; have HB := n2_; clear n0_ n1_ n2_))) | ((with_reducible refine gate_callee (f := 57) rfl ?_); refine goesL_ (some 12) rfl rfl Try.func57 (by kernel_rfl) rfl #[.int .i64 a1, .int .i64 50, .int .i64 200] rfl (by (try simp only [List.map_toArray, List.map_cons, List.map_nil]); first | done | rfl | (simp only [List.length_drop, List.length_take]; rfl)) ?_; (with_reducible refine (spec_l00In.calls a1 50 200 true _ A5.out).mono ?_); rintro e w' ⟨rfl, ⟨nd, rfl⟩⟩; refine ⟨_, rfl, ?_⟩; (try (rw [drewN_self w9]; generalize hq_ : World.drewN w9 _ = w9; have n0_ : Aside0 (w9.heap[gb150]? = some (.cells #[.string a0_0, .slice A0_1 l0_1.length c0_1] 29 (0, 0))) := ⟨by rw [← hq_]; exact (bl_ BK150.out)⟩; have n1_ : Aside0 (w9.heap[gb151]? = some (.cells #[.string (⟨#[]⟩ : ByteArray), .slice none 0 0] 29 (0, 0))) := ⟨by rw [← hq_]; exact (bl_ BK151.out)⟩; have n2_ : Aside0 (Below w.heap.size w w9) := ⟨by rw [← hq_]; exact (bs2_ HB.out GE150.out GE151.out)⟩; clear BK150 BK151 HB hq_; have BK150 := n0_; have BK151 := n1_; have HB := n2_; clear n0_ n1_ n2_))))
 have n0_ := mkA (blk_drew BK150.out)
 have n1_ := mkA (blk_drew BK151.out)
 have n2_ := mkA (below_drew1 HB.out)
 clear BK150
 clear BK151
 clear HB
 have BK150 := n0_
 have BK151 := n1_
 have HB := n2_
 clear n0_ n1_ n2_
 refine start_ (n := 9) (S := fun w' => w'.cell? ⟨gb150, 0, none⟩ = some (.string a0_0) ∧ w'.cell? ⟨gb150, 1, none⟩ = some (.slice A0_1 l0_1.length c0_1)) (ds := []) spec_ScaleRecipe.d0 (by kernel_rfl) rfl rfl ⟨(blk_cell BK150.out 0).trans rfl, (blk_cell BK150.out 1).trans rfl⟩ (fun hHeld => ?_); refine with_tabW spec_ScaleRecipe.tab5 spec_ScaleRecipe.bits5 (fun HT_ HW_ => ?_)
 generalize w9.drew = w10 at BK150 BK151 HB hHeld ⊢
 refine p1_ HT_.out 0 15 spec_ScaleRecipe.d1 ?_
 refine p1_ HT_.out 3 18 spec_ScaleRecipe.d2 ?_
 refine take_ (i := 1) (N := some 16) (v := ?_) (a' := ?_) spec_ScaleRecipe.d3 rfl rfl (take_ofW HT_.out HW_.out (by kernel_rfl)) (fun _ _ _ h => h) (Or.inl ⟨by rfl, ?_⟩) hHeld ?_ ?_
 rotate_left
 · rintro w' ⟨s0, s1⟩
   go_simp
   with_reducible rfl
 rotate_left
 · simp only [Act.put, sA, sB, sC, i64_w, i32_w]
   rfl
 refine take_ (i := 4) (N := some 19) (v := ?_) (a' := ?_) spec_ScaleRecipe.d4 rfl rfl (take_ofW HT_.out HW_.out (by kernel_rfl)) (fun _ _ _ h => h) (Or.inl ⟨by rfl, ?_⟩) hHeld ?_ ?_
 rotate_left
 · rintro w' ⟨s0, s1⟩
   go_simp
   with_reducible rfl
 rotate_left
 · simp only [Act.put, sA, sB, sC, i64_w, i32_w]
   rfl
 refine join_ (σ := Value × Value × Nat) 1 spec_ScaleRecipe.d5 (fun s_ => [(17, s_.1), (20, s_.2.1), (6, .pointer (some ⟨s_.2.2, 0, none⟩)), (21, .agg #[.string a0_0, s_.2.1])]) (fun s_ w' => (w'.cell? ⟨gb150, 0, none⟩ = some (.string a0_0) ∧ w'.cell? ⟨gb150, 1, none⟩ = some (.slice A0_1 l0_1.length c0_1)) ∧ (Kd.R k38 38 w' w.heap.size (fun _ => True) s_.2.1 y157) ∧ (w'.heap[gb150]? = some (.cells #[.string a0_0, .slice A0_1 l0_1.length c0_1] 29 (0, 0))) ∧ (w'.heap[gb151]? = some (.cells #[.string (⟨#[]⟩ : ByteArray), .slice none 0 0] 29 (0, 0))) ∧ (w'.heap[s_.2.2]? = some (.cells #[.string (⟨#[]⟩ : ByteArray), .slice none 0 0] 29 (0, 0))) ∧ (w.heap.size ≤ s_.2.2) ∧ (w.heap.size ≤ s_.2.2) ∧ (gb150 ≠ s_.2.2) ∧ (s_.2.2 ≠ gb150) ∧ (gb151 ≠ s_.2.2) ∧ (s_.2.2 ≠ gb151) ∧ (Below w.heap.size w w')) ?_ ?_
 rotate_left
 · intro hCont
   refine two_ (i := 2) (j := 7) (Ni := some 17) (Nj := some 6) spec_ScaleRecipe.d6 spec_ScaleRecipe.d7 rfl rfl rfl rfl (two_of HT_.out (by kernel_rfl)) (by decide) (by decide) (fun K hK => ?_) (fun K hK => ?_)
   · skip
     refine Kd.R_lit_step k38 _ 38 ?hg (N := 17) ?hd (xs := ([] : List (S38))) (inner := []) (ok := fun _ => True) (okp := fun _ => True) ?hr ?hp (fun _ hk => hk) trivial (Below.refl _ _) (Nat.le_refl _) (by simp) ?_; (case hd => rfl); (case hg => rfl); (case hr => first | (go_simp; done) | (go_simp; rfl)); (case hp => exact (Reps.none _ _))
     intro v155 w11 ho12 hb hg_ hnew_
     clear hg_ hnew_
     (first | rw [← Ny154.out] at ho12 | (simp only [Int.reduceToNat] at ho12; rw [← Ny154.out] at ho12))
     have n0_ := mkA (Kd.R_lower ho12 (below_size (bs2_ HB.out GE150.out GE151.out)))
     have n1_ := mkA (blk_below (g := gb150) (o := .cells #[.string a0_0, .slice A0_1 l0_1.length c0_1] 29 (0, 0)) (bl_ BK150.out) hb)
     have n2_ := mkA (blk_below (g := gb151) (o := .cells #[.string (⟨#[]⟩ : ByteArray), .slice none 0 0] 29 (0, 0)) (bl_ BK151.out) hb)
     have n3_ := mkA (below_step (bs2_ HB.out GE150.out GE151.out) hb)
     clear BK150
     clear BK151
     clear HB
     have HO156 := n0_
     have BK150 := n1_
     have BK151 := n2_
     have HB := n3_
     clear n0_ n1_ n2_ n3_
     clear hb ho12
     refine hK.out _ _ ⟨(blk_cell BK150.out 0).trans rfl, (blk_cell BK150.out 1).trans rfl⟩ (fun hHeld => ?_)
     clear hK K
     refine norm_ (a' := ?_) ?_ ?_
     rotate_left
     · show Act.put _ (some 17) _ = _
       simp only [Act.put, sA, sB, sC, i64_w, i32_w]
       rfl
     refine two_ (i := 5) (j := 7) (Ni := some 20) (Nj := some 6) spec_ScaleRecipe.d8 spec_ScaleRecipe.d9 rfl rfl rfl rfl (two_of HT_.out (by kernel_rfl)) (by decide) (by decide) (fun K hK => ?_) (fun K hK => ?_)
     · skip
       refine Kd.R_append_rows_step k38 (w0 := w) w.heap.size (by rfl) (.tmp 17) (.tmp 19) 27 38 (.agg #[(.int .i64 0), (.int .i64 0), (.int .i64 0)]) 24 rfl Try.underlying27 info38 rfl (by decide) (by omega) v155 y154 l0_1 _ _ _ (fun _ => True) (fun _ => False) rfl rfl ?aO ?aR (fun _ _ h => h) (fun _ h => h.elim) ?aF ?aB ?aS ?aL ?_
       (case aR => repeat (first | exact (Kd.C_below HR0_1.out HB.out) | (with_reducible refine Kd.C_alloc ?_ _) | (with_reducible refine Kd.C_drewN ?_ _) | (with_reducible refine Kd.C_drew ?_)))
       (case aB => exact (bs2_ HB.out GE150.out GE151.out))
       (case aF => exact (fun _ _ => trivial))
       (case aO => exact (by (with_reducible repeat (first | apply Kd.R_alloc | apply Kd.R_drewN | apply Kd.R_drew)); exact HO156.out))
       (case aS => exact (below_size (bs2_ HB.out GE150.out GE151.out)))
       (case aL => have := LMc7.out; omega)
       intro v158 w13 ho hb hg hat
       rw [← Ny157.out] at ho
       have n0_ := mkA (blk_grown (g := gb150) (o := .cells #[.string a0_0, .slice A0_1 l0_1.length c0_1] 29 (0, 0)) (bl_ BK150.out) hg (Kd.R_ne HO156.out BK150.out (by decide)))
       have n1_ := mkA (blk_grown (g := gb151) (o := .cells #[.string (⟨#[]⟩ : ByteArray), .slice none 0 0] 29 (0, 0)) (bl_ BK151.out) hg (Kd.R_ne HO156.out BK151.out (by decide)))
       have n2_ := mkA (hb)
       have n3_ := mkA (ho)
       clear BK150
       clear BK151
       clear HB
       clear HO156
       have BK150 := n0_
       have BK151 := n1_
       have HB := n2_
       have HO159 := n3_
       clear n0_ n1_ n2_ n3_
       clear ho hb hg hat
       obtain ⟨Ao14, co14, eo14⟩ := Kd.R_slice HO159.out
       (first | subst eo14 | (injection eo14 with f1_ f2_ f3_; have f4_ := f1_.symm; have f5_ := f3_.symm; clear f1_ f2_ f3_; subst f4_; subst f5_))
       refine hK.out _ _ ⟨(blk_cell BK150.out 0).trans rfl, (blk_cell BK150.out 1).trans rfl⟩ (fun hHeld => ?_)
       clear hK K
       refine norm_ (a' := ?_) ?_ ?_
       rotate_left
       · show Act.put _ (some 20) _ = _
         simp only [Act.put, sA, sB, sC, i64_w, i32_w]
         rfl
       refine p1_ HT_.out 6 21 spec_ScaleRecipe.d10 ?_
       refine one_ (i := 7) (N := some 6) spec_ScaleRecipe.d5 rfl rfl (one_of HT_.out (by kernel_rfl)) (by decide) (fun K hK => ?_)
       refine box_step ?hg (N := 6) ?hd (cs := #[.string (⟨#[]⟩ : ByteArray), .slice none 0 0]) (t := 29) ?hr ?_; (case hd => rfl); (case hg => rfl); (case hr => first | (go_simp; done) | (go_simp; rfl))
       intro gb160 hg w15 hbox hb
       have n0_ := mkA (Kd.R_below (by (with_reducible repeat (first | apply Kd.R_alloc | apply Kd.R_drewN | apply Kd.R_drew)); exact HO159.out) hb)
       have n1_ := mkA (blk_below (g := gb150) (o := .cells #[.string a0_0, .slice A0_1 l0_1.length c0_1] 29 (0, 0)) (bl_ BK150.out) hb)
       have n2_ := mkA (blk_below (g := gb151) (o := .cells #[.string (⟨#[]⟩ : ByteArray), .slice none 0 0] 29 (0, 0)) (bl_ BK151.out) hb)
       have n3_ := mkA (below_step (bs2_ HB.out GE150.out GE151.out) hb)
       have n4_ := mkA (hbox)
       have n5_ := mkA ((by rw [hg]; exact (below_size (bs2_ HB.out GE150.out GE151.out)) : w.heap.size ≤ gb160))
       have n6_ := mkA ((by rw [hg]; exact (below_size (bs2_ HB.out GE150.out GE151.out)) : w.heap.size ≤ gb160))
       have n7_ := mkA ((by rw [hg]; exact Nat.ne_of_lt (blk_lt (g := gb150) (o := .cells #[.string a0_0, .slice A0_1 l0_1.length c0_1] 29 (0, 0)) (bl_ BK150.out)) : gb150 ≠ gb160))
       have n8_ := mkA ((by rw [hg]; exact Nat.ne_of_gt (blk_lt (g := gb150) (o := .cells #[.string a0_0, .slice A0_1 l0_1.length c0_1] 29 (0, 0)) (bl_ BK150.out)) : gb160 ≠ gb150))
       have n9_ := mkA ((by rw [hg]; exact Nat.ne_of_lt (blk_lt (g := gb151) (o := .cells #[.string (⟨#[]⟩ : ByteArray), .slice none 0 0] 29 (0, 0)) (bl_ BK151.out)) : gb151 ≠ gb160))
       have n10_ := mkA ((by rw [hg]; exact Nat.ne_of_gt (blk_lt (g := gb151) (o := .cells #[.string (⟨#[]⟩ : ByteArray), .slice none 0 0] 29 (0, 0)) (bl_ BK151.out)) : gb160 ≠ gb151))
       clear HO159
       clear BK150
       clear BK151
       clear HB
       have HO159 := n0_
       have BK150 := n1_
       have BK151 := n2_
       have HB := n3_
       have BK160 := n4_
       have GW160 := n5_
       have GE160 := n6_
       have NB150_160 := n7_
       have NB160_150 := n8_
       have NB151_160 := n9_
       have NB160_151 := n10_
       clear n0_ n1_ n2_ n3_ n4_ n5_ n6_ n7_ n8_ n9_ n10_
       clear hb hbox hg
       refine hK.out _ _ ⟨(blk_cell BK150.out 0).trans rfl, (blk_cell BK150.out 1).trans rfl⟩ (fun hHeld => ?_)
       clear hK K
       refine norm_ (a' := ?_) ?_ ?_
       rotate_left
       · show Act.put _ (some 6) _ = _
         simp only [Act.put, sA, sB, sC, i64_w, i32_w]
         rfl
       exact norm_ (by simp only [putAll, Act.put, sA, sB, sC]) (hCont (v155, .slice Ao14 y157.length co14, gb160) _ ⟨hHeld, (by (with_reducible repeat (first | apply Kd.R_alloc | apply Kd.R_drewN | apply Kd.R_drew)); exact HO159.out), (bl_ BK150.out), (bl_ BK151.out), (bl_ BK160.out), GW160.out, GE160.out, NB150_160.out, NB160_150.out, NB151_160.out, NB160_151.out, (bs3_ HB.out GE150.out GE151.out GE160.out)⟩)
     · skip
       refine box_step ?hg (N := 6) ?hd (cs := #[.string (⟨#[]⟩ : ByteArray), .slice none 0 0]) (t := 29) ?hr ?_; (case hd => rfl); (case hg => rfl); (case hr => first | (go_simp; done) | (go_simp; rfl))
       intro gb160 hg w13 hbox hb
       have n0_ := mkA (Kd.R_below (by (with_reducible repeat (first | apply Kd.R_alloc | apply Kd.R_drewN | apply Kd.R_drew)); exact HO156.out) hb)
       have n1_ := mkA (blk_below (g := gb150) (o := .cells #[.string a0_0, .slice A0_1 l0_1.length c0_1] 29 (0, 0)) (bl_ BK150.out) hb)
       have n2_ := mkA (blk_below (g := gb151) (o := .cells #[.string (⟨#[]⟩ : ByteArray), .slice none 0 0] 29 (0, 0)) (bl_ BK151.out) hb)
       have n3_ := mkA (below_step (bs2_ HB.out GE150.out GE151.out) hb)
       have n4_ := mkA (hbox)
       have n5_ := mkA ((by rw [hg]; exact (below_size (bs2_ HB.out GE150.out GE151.out)) : w.heap.size ≤ gb160))
       have n6_ := mkA ((by rw [hg]; exact (below_size (bs2_ HB.out GE150.out GE151.out)) : w.heap.size ≤ gb160))
       have n7_ := mkA ((by rw [hg]; exact Nat.ne_of_lt (blk_lt (g := gb150) (o := .cells #[.string a0_0, .slice A0_1 l0_1.length c0_1] 29 (0, 0)) (bl_ BK150.out)) : gb150 ≠ gb160))
       have n8_ := mkA ((by rw [hg]; exact Nat.ne_of_gt (blk_lt (g := gb150) (o := .cells #[.string a0_0, .slice A0_1 l0_1.length c0_1] 29 (0, 0)) (bl_ BK150.out)) : gb160 ≠ gb150))
       have n9_ := mkA ((by rw [hg]; exact Nat.ne_of_lt (blk_lt (g := gb151) (o := .cells #[.string (⟨#[]⟩ : ByteArray), .slice none 0 0] 29 (0, 0)) (bl_ BK151.out)) : gb151 ≠ gb160))
       have n10_ := mkA ((by rw [hg]; exact Nat.ne_of_gt (blk_lt (g := gb151) (o := .cells #[.string (⟨#[]⟩ : ByteArray), .slice none 0 0] 29 (0, 0)) (bl_ BK151.out)) : gb160 ≠ gb151))
       clear HO156
       clear BK150
       clear BK151
       clear HB
       have HO156 := n0_
       have BK150 := n1_
       have BK151 := n2_
       have HB := n3_
       have BK160 := n4_
       have GW160 := n5_
       have GE160 := n6_
       have NB150_160 := n7_
       have NB160_150 := n8_
       have NB151_160 := n9_
       have NB160_151 := n10_
       clear n0_ n1_ n2_ n3_ n4_ n5_ n6_ n7_ n8_ n9_ n10_
       clear hb hbox hg
       refine hK.out _ _ ⟨(blk_cell BK150.out 0).trans rfl, (blk_cell BK150.out 1).trans rfl⟩ (fun hHeld => ?_)
       clear hK K
       refine norm_ (a' := ?_) ?_ ?_
       rotate_left
       · show Act.put _ (some 6) _ = _
         simp only [Act.put, sA, sB, sC, i64_w, i32_w]
         rfl
       refine one_ (i := 5) (N := some 20) spec_ScaleRecipe.d11 rfl rfl (one_of HT_.out (by kernel_rfl)) (by decide) (fun K hK => ?_)
       refine Kd.R_append_rows_step k38 (w0 := w) w.heap.size (by rfl) (.tmp 17) (.tmp 19) 27 38 (.agg #[(.int .i64 0), (.int .i64 0), (.int .i64 0)]) 24 rfl Try.underlying27 info38 rfl (by decide) (by omega) v155 y154 l0_1 _ _ _ (fun _ => True) (fun _ => False) rfl rfl ?aO ?aR (fun _ _ h => h) (fun _ h => h.elim) ?aF ?aB ?aS ?aL ?_
       (case aR => repeat (first | exact (Kd.C_below HR0_1.out HB.out) | (with_reducible refine Kd.C_alloc ?_ _) | (with_reducible refine Kd.C_drewN ?_ _) | (with_reducible refine Kd.C_drew ?_)))
       (case aB => exact (bs3_ HB.out GE150.out GE151.out GE160.out))
       (case aF => exact (fun _ _ => trivial))
       (case aO => exact (by (with_reducible repeat (first | apply Kd.R_alloc | apply Kd.R_drewN | apply Kd.R_drew)); exact HO156.out))
       (case aS => exact (below_size (bs3_ HB.out GE150.out GE151.out GE160.out)))
       (case aL => have := LMc7.out; omega)
       intro v158 w14 ho hb hg hat
       rw [← Ny157.out] at ho
       have n0_ := mkA (blk_grown (g := gb150) (o := .cells #[.string a0_0, .slice A0_1 l0_1.length c0_1] 29 (0, 0)) (bl_ BK150.out) hg (Kd.R_ne HO156.out BK150.out (by decide)))
       have n1_ := mkA (blk_grown (g := gb151) (o := .cells #[.string (⟨#[]⟩ : ByteArray), .slice none 0 0] 29 (0, 0)) (bl_ BK151.out) hg (Kd.R_ne HO156.out BK151.out (by decide)))
       have n2_ := mkA (blk_grown (g := gb160) (o := .cells #[.string (⟨#[]⟩ : ByteArray), .slice none 0 0] 29 (0, 0)) (bl_ BK160.out) hg (Kd.R_ne HO156.out BK160.out (by decide)))
       have n3_ := mkA (hb)
       have n4_ := mkA (ho)
       clear BK150
       clear BK151
       clear BK160
       clear HB
       clear HO156
       have BK150 := n0_
       have BK151 := n1_
       have BK160 := n2_
       have HB := n3_
       have HO159 := n4_
       clear n0_ n1_ n2_ n3_ n4_
       clear ho hb hg hat
       obtain ⟨Ao15, co15, eo15⟩ := Kd.R_slice HO159.out
       (first | subst eo15 | (injection eo15 with f1_ f2_ f3_; have f4_ := f1_.symm; have f5_ := f3_.symm; clear f1_ f2_ f3_; subst f4_; subst f5_))
       refine hK.out _ _ ⟨(blk_cell BK150.out 0).trans rfl, (blk_cell BK150.out 1).trans rfl⟩ (fun hHeld => ?_)
       clear hK K
       refine norm_ (a' := ?_) ?_ ?_
       rotate_left
       · show Act.put _ (some 20) _ = _
         simp only [Act.put, sA, sB, sC, i64_w, i32_w]
         rfl
       refine p1_ HT_.out 6 21 spec_ScaleRecipe.d5 ?_
       exact norm_ (by simp only [putAll, Act.put, sA, sB, sC]) (hCont (v155, .slice Ao15 y157.length co15, gb160) _ ⟨hHeld, (by (with_reducible repeat (first | apply Kd.R_alloc | apply Kd.R_drewN | apply Kd.R_drew)); exact HO159.out), (bl_ BK150.out), (bl_ BK151.out), (bl_ BK160.out), GW160.out, GE160.out, NB150_160.out, NB160_150.out, NB151_160.out, NB160_151.out, (bs3_ HB.out GE150.out GE151.out GE160.out)⟩)
   · skip
     refine box_step ?hg (N := 6) ?hd (cs := #[.string (⟨#[]⟩ : ByteArray), .slice none 0 0]) (t := 29) ?hr ?_; (case hd => rfl); (case hg => rfl); (case hr => first | (go_simp; done) | (go_simp; rfl))
     intro gb160 hg w11 hbox hb
     have n0_ := mkA (blk_below (g := gb150) (o := .cells #[.string a0_0, .slice A0_1 l0_1.length c0_1] 29 (0, 0)) (bl_ BK150.out) hb)
     have n1_ := mkA (blk_below (g := gb151) (o := .cells #[.string (⟨#[]⟩ : ByteArray), .slice none 0 0] 29 (0, 0)) (bl_ BK151.out) hb)
     have n2_ := mkA (below_step (bs2_ HB.out GE150.out GE151.out) hb)
     have n3_ := mkA (hbox)
     have n4_ := mkA ((by rw [hg]; exact (below_size (bs2_ HB.out GE150.out GE151.out)) : w.heap.size ≤ gb160))
     have n5_ := mkA ((by rw [hg]; exact (below_size (bs2_ HB.out GE150.out GE151.out)) : w.heap.size ≤ gb160))
     have n6_ := mkA ((by rw [hg]; exact Nat.ne_of_lt (blk_lt (g := gb150) (o := .cells #[.string a0_0, .slice A0_1 l0_1.length c0_1] 29 (0, 0)) (bl_ BK150.out)) : gb150 ≠ gb160))
     have n7_ := mkA ((by rw [hg]; exact Nat.ne_of_gt (blk_lt (g := gb150) (o := .cells #[.string a0_0, .slice A0_1 l0_1.length c0_1] 29 (0, 0)) (bl_ BK150.out)) : gb160 ≠ gb150))
     have n8_ := mkA ((by rw [hg]; exact Nat.ne_of_lt (blk_lt (g := gb151) (o := .cells #[.string (⟨#[]⟩ : ByteArray), .slice none 0 0] 29 (0, 0)) (bl_ BK151.out)) : gb151 ≠ gb160))
     have n9_ := mkA ((by rw [hg]; exact Nat.ne_of_gt (blk_lt (g := gb151) (o := .cells #[.string (⟨#[]⟩ : ByteArray), .slice none 0 0] 29 (0, 0)) (bl_ BK151.out)) : gb160 ≠ gb151))
     clear BK150
     clear BK151
     clear HB
     have BK150 := n0_
     have BK151 := n1_
     have HB := n2_
     have BK160 := n3_
     have GW160 := n4_
     have GE160 := n5_
     have NB150_160 := n6_
     have NB160_150 := n7_
     have NB151_160 := n8_
     have NB160_151 := n9_
     clear n0_ n1_ n2_ n3_ n4_ n5_ n6_ n7_ n8_ n9_
     clear hb hbox hg
     refine hK.out _ _ ⟨(blk_cell BK150.out 0).trans rfl, (blk_cell BK150.out 1).trans rfl⟩ (fun hHeld => ?_)
     clear hK K
     refine norm_ (a' := ?_) ?_ ?_
     rotate_left
     · show Act.put _ (some 6) _ = _
       simp only [Act.put, sA, sB, sC, i64_w, i32_w]
       rfl
     refine one_ (i := 2) (N := some 17) spec_ScaleRecipe.d9 rfl rfl (one_of HT_.out (by kernel_rfl)) (by decide) (fun K hK => ?_)
     refine Kd.R_lit_step k38 _ 38 ?hg (N := 17) ?hd (xs := ([] : List (S38))) (inner := []) (ok := fun _ => True) (okp := fun _ => True) ?hr ?hp (fun _ hk => hk) trivial (Below.refl _ _) (Nat.le_refl _) (by simp) ?_; (case hd => rfl); (case hg => rfl); (case hr => first | (go_simp; done) | (go_simp; rfl)); (case hp => exact (Reps.none _ _))
     intro v155 w12 ho13 hb hg_ hnew_
     clear hg_ hnew_
     (first | rw [← Ny154.out] at ho13 | (simp only [Int.reduceToNat] at ho13; rw [← Ny154.out] at ho13))
     have n0_ := mkA (Kd.R_lower ho13 (below_size (bs3_ HB.out GE150.out GE151.out GE160.out)))
     have n1_ := mkA (blk_below (g := gb150) (o := .cells #[.string a0_0, .slice A0_1 l0_1.length c0_1] 29 (0, 0)) (bl_ BK150.out) hb)
     have n2_ := mkA (blk_below (g := gb151) (o := .cells #[.string (⟨#[]⟩ : ByteArray), .slice none 0 0] 29 (0, 0)) (bl_ BK151.out) hb)
     have n3_ := mkA (blk_below (g := gb160) (o := .cells #[.string (⟨#[]⟩ : ByteArray), .slice none 0 0] 29 (0, 0)) (bl_ BK160.out) hb)
     have n4_ := mkA (below_step (bs3_ HB.out GE150.out GE151.out GE160.out) hb)
     clear BK150
     clear BK151
     clear BK160
     clear HB
     have HO156 := n0_
     have BK150 := n1_
     have BK151 := n2_
     have BK160 := n3_
     have HB := n4_
     clear n0_ n1_ n2_ n3_ n4_
     clear hb ho13
     refine hK.out _ _ ⟨(blk_cell BK150.out 0).trans rfl, (blk_cell BK150.out 1).trans rfl⟩ (fun hHeld => ?_)
     clear hK K
     refine norm_ (a' := ?_) ?_ ?_
     rotate_left
     · show Act.put _ (some 17) _ = _
       simp only [Act.put, sA, sB, sC, i64_w, i32_w]
       rfl
     refine one_ (i := 5) (N := some 20) spec_ScaleRecipe.d11 rfl rfl (one_of HT_.out (by kernel_rfl)) (by decide) (fun K hK => ?_)
     refine Kd.R_append_rows_step k38 (w0 := w) w.heap.size (by rfl) (.tmp 17) (.tmp 19) 27 38 (.agg #[(.int .i64 0), (.int .i64 0), (.int .i64 0)]) 24 rfl Try.underlying27 info38 rfl (by decide) (by omega) v155 y154 l0_1 _ _ _ (fun _ => True) (fun _ => False) rfl rfl ?aO ?aR (fun _ _ h => h) (fun _ h => h.elim) ?aF ?aB ?aS ?aL ?_
     (case aR => repeat (first | exact (Kd.C_below HR0_1.out HB.out) | (with_reducible refine Kd.C_alloc ?_ _) | (with_reducible refine Kd.C_drewN ?_ _) | (with_reducible refine Kd.C_drew ?_)))
     (case aB => exact (bs3_ HB.out GE150.out GE151.out GE160.out))
     (case aF => exact (fun _ _ => trivial))
     (case aO => exact (by (with_reducible repeat (first | apply Kd.R_alloc | apply Kd.R_drewN | apply Kd.R_drew)); exact HO156.out))
     (case aS => exact (below_size (bs3_ HB.out GE150.out GE151.out GE160.out)))
     (case aL => have := LMc7.out; omega)
     intro v158 w14 ho hb hg hat
     rw [← Ny157.out] at ho
     have n0_ := mkA (blk_grown (g := gb150) (o := .cells #[.string a0_0, .slice A0_1 l0_1.length c0_1] 29 (0, 0)) (bl_ BK150.out) hg (Kd.R_ne HO156.out BK150.out (by decide)))
     have n1_ := mkA (blk_grown (g := gb151) (o := .cells #[.string (⟨#[]⟩ : ByteArray), .slice none 0 0] 29 (0, 0)) (bl_ BK151.out) hg (Kd.R_ne HO156.out BK151.out (by decide)))
     have n2_ := mkA (blk_grown (g := gb160) (o := .cells #[.string (⟨#[]⟩ : ByteArray), .slice none 0 0] 29 (0, 0)) (bl_ BK160.out) hg (Kd.R_ne HO156.out BK160.out (by decide)))
     have n3_ := mkA (hb)
     have n4_ := mkA (ho)
     clear BK150
     clear BK151
     clear BK160
     clear HB
     clear HO156
     have BK150 := n0_
     have BK151 := n1_
     have BK160 := n2_
     have HB := n3_
     have HO159 := n4_
     clear n0_ n1_ n2_ n3_ n4_
     clear ho hb hg hat
     obtain ⟨Ao15, co15, eo15⟩ := Kd.R_slice HO159.out
     (first | subst eo15 | (injection eo15 with f1_ f2_ f3_; have f4_ := f1_.symm; have f5_ := f3_.symm; clear f1_ f2_ f3_; subst f4_; subst f5_))
     refine hK.out _ _ ⟨(blk_cell BK150.out 0).trans rfl, (blk_cell BK150.out 1).trans rfl⟩ (fun hHeld => ?_)
     clear hK K
     refine norm_ (a' := ?_) ?_ ?_
     rotate_left
     · show Act.put _ (some 20) _ = _
       simp only [Act.put, sA, sB, sC, i64_w, i32_w]
       rfl
     refine p1_ HT_.out 6 21 spec_ScaleRecipe.d5 ?_
     exact norm_ (by simp only [putAll, Act.put, sA, sB, sC]) (hCont (v155, .slice Ao15 y157.length co15, gb160) _ ⟨hHeld, (by (with_reducible repeat (first | apply Kd.R_alloc | apply Kd.R_drewN | apply Kd.R_drew)); exact HO159.out), (bl_ BK150.out), (bl_ BK151.out), (bl_ BK160.out), GW160.out, GE160.out, NB150_160.out, NB160_150.out, NB151_160.out, NB160_151.out, (bs3_ HB.out GE150.out GE151.out GE160.out)⟩)
 rintro ⟨v155, v158, gb160⟩ w16 ⟨hS_, h0_, h1_, h2_, h3_, h4_, h5_, h6_, h7_, h8_, h9_, h10_⟩
 have n0_ : Aside0 (Kd.R k38 38 w16 w.heap.size (fun _ => True) v158 y157) := ⟨h0_⟩
 have n1_ : Aside0 (w16.heap[gb150]? = some (.cells #[.string a0_0, .slice A0_1 l0_1.length c0_1] 29 (0, 0))) := ⟨h1_⟩
 have n2_ : Aside0 (w16.heap[gb151]? = some (.cells #[.string (⟨#[]⟩ : ByteArray), .slice none 0 0] 29 (0, 0))) := ⟨h2_⟩
 have n3_ : Aside0 (w16.heap[gb160]? = some (.cells #[.string (⟨#[]⟩ : ByteArray), .slice none 0 0] 29 (0, 0))) := ⟨h3_⟩
 have n4_ : Aside0 (w.heap.size ≤ gb160) := ⟨h4_⟩
 have n5_ : Aside0 (w.heap.size ≤ gb160) := ⟨h5_⟩
 have n6_ : Aside0 (gb150 ≠ gb160) := ⟨h6_⟩
 have n7_ : Aside0 (gb160 ≠ gb150) := ⟨h7_⟩
 have n8_ : Aside0 (gb151 ≠ gb160) := ⟨h8_⟩
 have n9_ : Aside0 (gb160 ≠ gb151) := ⟨h9_⟩
 have n10_ : Aside0 (Below w.heap.size w w16) := ⟨h10_⟩
 clear BK150
 clear BK151
 clear HB
 clear h0_ h1_ h2_ h3_ h4_ h5_ h6_ h7_ h8_ h9_ h10_
 have HO159 := n0_
 have BK150 := n1_
 have BK151 := n2_
 have BK160 := n3_
 have GW160 := n4_
 have GE160 := n5_
 have NB150_160 := n6_
 have NB160_150 := n7_
 have NB151_160 := n8_
 have NB160_151 := n9_
 have HB := n10_
 clear n0_ n1_ n2_ n3_ n4_ n5_ n6_ n7_ n8_ n9_ n10_
 have hHeld : w16.cell? ⟨gb150, 0, none⟩ = some (.string a0_0) ∧ w16.cell? ⟨gb150, 1, none⟩ = some (.slice A0_1 l0_1.length c0_1) := hS_
 obtain ⟨Ao17, co17, eo17⟩ := Kd.R_slice HO159.out
 (first | subst eo17 | (injection eo17 with f1_ f2_ f3_; have f4_ := f1_.symm; have f5_ := f3_.symm; clear f1_ f2_ f3_; subst f4_; subst f5_))
 refine norm_ (a' := ?_) ?_ ?_
 rotate_left
 · simp only [putAll, Act.put, sA, sB, sC]
   rfl
 refine one_ (i := 8) (N := none) spec_ScaleRecipe.d12 rfl rfl (one_of HT_.out (by kernel_rfl)) (by decide) (fun K hK => ?_)
 have hs18 : w16.cell? ⟨gb160, 0, none⟩ = some (.string (⟨#[]⟩ : ByteArray)) := (blk_cell BK160.out 0).trans rfl
 have hfs18 := blk_frozen BK160.out 0
 have hns18_0 := NB150_160.out
 have hns18_1 := NB151_160.out
 have hms18_0 := NB160_150.out
 have hms18_1 := NB160_151.out
 have hs19 : w16.cell? ⟨gb160, 1, none⟩ = some (.slice none 0 0) := (blk_cell BK160.out 1).trans rfl
 have hfs19 := blk_frozen BK160.out 1
 have hns19_0 := NB150_160.out
 have hns19_1 := NB151_160.out
 have hms19_0 := NB160_150.out
 have hms19_1 := NB160_151.out
 refine skip_ (w1 := ?_) (by rfl) rfl ?_ ?_
 rotate_left
 · go_simp
   rfl
 refine hK.out _ _ ⟨((cell_far (p := ⟨gb160, _, none⟩) NB150_160.out _).trans (((cell_far (p := ⟨gb160, _, none⟩) NB150_160.out _).trans (hHeld.1)))), ((cell_far (p := ⟨gb160, _, none⟩) NB150_160.out _).trans (((cell_far (p := ⟨gb160, _, none⟩) NB150_160.out _).trans (hHeld.2))))⟩ (fun hHeld => ?_)
 clear hK K
 refine done_ (done_of HT_.out (by kernel_rfl)) ?_
 try go_wp2
 go_loopg [7] k (fun kq v7 w' => ∃ (x7_1 : Int) (x161001_1 : List (S38)) (u161001 : Value), v7 = .int .i64 x7_1 ∧ Aside0 (spec_ScaleRecipe.l0 kq a1 x7_1 a0_0 x161001_1 = some (r1, r2, r3)) ∧ Aside0 (kq ≤ k) ∧ Aside0 (Kd.R k38 38 w' w.heap.size (fun _ => True) u161001 x161001_1) ∧ Aside0 (w'.heap[gb150]? = some (.cells #[.string a0_0, (.slice A0_1 l0_1.length c0_1)] 29 (0, 0))) ∧ Aside0 (w'.heap[gb151]? = some (.cells #[.string (⟨#[]⟩ : ByteArray), (.slice none 0 0)] 29 (0, 0))) ∧ Aside0 (w'.heap[gb160]? = some (.cells #[.string a0_0, u161001] 29 (0, 0))) ∧ Aside0 (Below w.heap.size w w'))
 case atStart => exact ⟨(0), (y157), (.slice Ao17 y157.length co17), (by first | rfl | (simp; done) | (simp [*]; done) | (simp [i64_w, i32_w]; done)), H', ⟨Nat.le_refl _⟩, ⟨by (with_reducible repeat (first | apply Kd.R_alloc | apply Kd.R_drewN | apply Kd.R_drew)); exact Kd.R_mono (Kd.R_far (p := ⟨gb160, 1, none⟩) (Kd.R_far (p := ⟨gb160, 0, none⟩) (Kd.R_types HO159.out BK160.out (by decide)) (fun _ hk => hk.2) (.string a0_0)) (fun _ hk => hk.2) (.slice Ao17 y157.length co17)) (fun _ hk => trivial)⟩, ⟨by (with_reducible repeat (first | refine blk_drewN ?_ _ | refine blk_drew ?_ | refine blk_alloc ?_ _)); refine blk_far ?_ NB150_160.out _; (with_reducible repeat (first | refine blk_drewN ?_ _ | refine blk_drew ?_ | refine blk_alloc ?_ _)); refine blk_far ?_ NB150_160.out _; (with_reducible repeat (first | refine blk_drewN ?_ _ | refine blk_drew ?_ | refine blk_alloc ?_ _)); exact BK150.out⟩, ⟨by (with_reducible repeat (first | refine blk_drewN ?_ _ | refine blk_drew ?_ | refine blk_alloc ?_ _)); refine blk_far ?_ NB151_160.out _; (with_reducible repeat (first | refine blk_drewN ?_ _ | refine blk_drew ?_ | refine blk_alloc ?_ _)); refine blk_far ?_ NB151_160.out _; (with_reducible repeat (first | refine blk_drewN ?_ _ | refine blk_drew ?_ | refine blk_alloc ?_ _)); exact BK151.out⟩, ⟨by (with_reducible repeat (first | refine blk_drewN ?_ _ | refine blk_drew ?_ | refine blk_alloc ?_ _)); refine blk_put (cs := #[.string a0_0, .slice none 0 0]) ?_ 1 _ rfl; (with_reducible repeat (first | refine blk_drewN ?_ _ | refine blk_drew ?_ | refine blk_alloc ?_ _)); refine blk_put (cs := #[.string (⟨#[]⟩ : ByteArray), .slice none 0 0]) ?_ 0 _ rfl; (with_reducible repeat (first | refine blk_drewN ?_ _ | refine blk_drew ?_ | refine blk_alloc ?_ _)); exact BK160.out⟩, ⟨by repeat (first | (with_reducible first | exact HB.out | apply below_alloc | apply pw_below_drewN | apply below_drew1 | refine below_set ?_ GE150.out | refine below_set ?_ GE151.out | refine below_set ?_ GE160.out) | exact HB.out)⟩⟩
 case round =>
  clear H'
  try clear c2
  try clear p2
  try clear c3
  try clear c4
  try clear c5
  try clear c6
  try clear c7
  obtain ⟨x7_1, x161001_1, u161001, rfl, HA, HK1, HO_161001, BK150, BK151, BK160, HB⟩ := hrel
  cases gk with
  | zero => exact absurd HA.out (by simp [spec_ScaleRecipe.l0])
  | succ k1 =>
   have H := HA.out
   clear HA
   simp only [spec_ScaleRecipe.l0] at H
   by_cases c20 : x7_1 < (x161001_1.length : Int)
   rotate_left
   · rw [if_neg c20] at H
     have c20b0 : decide (x7_1 < (x161001_1.length : Int)) = false := decide_eq_false c20
     clear c20
     replace H := Option.bind_eq_some_iff.mp H
     obtain ⟨t165, A350, H⟩ := H
     replace H : (if t165 = true then (some (a0_0, x161001_1, 0)) else (some ((⟨#[]⟩ : ByteArray), ([] : List (S38)), 6))) = some (r1, r2, r3) := H
     have A35 := mkA A350
     clear A350
     by_cases c36 : t165 = true
     · subst c36
       have H1 : (some (a0_0, x161001_1, 0)) = some (r1, r2, r3) := by rw [if_pos rfl] at H; exact H
       clear H
       have H := H1
       clear H1
       simp only [Option.some.injEq, Prod.mk.injEq] at H
       obtain ⟨rfl, rfl, rfl⟩ := H
       have hnb37 := NB160_150.out
       have hnc37 := NB150_160.out
       have hnb38 := NB160_151.out
       have hnc38 := NB151_160.out
       have hcz39_0 : wr.cell? ⟨gb160, 0, none⟩ = some (.string a0_0) := (blk_cell BK160.out 0).trans rfl
       have hcz39_1 : wr.cell? ⟨gb160, 1, none⟩ = some (u161001) := (blk_cell BK160.out 1).trans rfl
       have hfz39_0 := blk_frozen BK160.out 0
       have hfz39_1 := blk_frozen BK160.out 1
       obtain ⟨Ao40, co40, eo40⟩ := Kd.R_slice HO_161001.out
       subst eo40
       go_wp2_with (first | ((with_reducible refine gate_callee (f := 34) rfl ?_); refine goesL_ (some 50) rfl rfl Try.func34 (by kernel_rfl) rfl #[.pointer (some ⟨gb160, 0, none⟩)] rfl (by (try simp only [List.map_toArray, List.map_cons, List.map_nil]); first | done | rfl | (simp only [List.length_drop, List.length_take]; rfl)) ?_; (with_reducible refine (spec_l21Ok.calls k1 _ [(⟨a0_0, x161001_1⟩ : S29)] true _ ?side1 A35.out).mono ?_); (case side1 => exact Go.Proofs.YteijbdngbmciaaaX.rp_box (t := 29) (fr := (0, 0)) (bl_ BK160.out) (k29_mk _ (⟨a0_0, x161001_1⟩ : S29) (by exact (Kd.R_reads' HO_161001.out).2.1) (by repeat (first | exact (Kd.R_reads' HO_161001.out).2.2 | (with_reducible refine Kd.C_alloc ?_ _) | (with_reducible refine Kd.C_drewN ?_ _) | (with_reducible refine Kd.C_drew ?_))))); rintro e w' ⟨rfl, ⟨nd, rfl⟩⟩; refine ⟨_, rfl, ?_⟩; (try (rw [drewN_self wr]; generalize hq_ : World.drewN wr _ = wr; have n0_ : Aside0 (Kd.R k38 38 wr w.heap.size (fun _ => True) (.slice Ao40 x161001_1.length co40) x161001_1) := ⟨by rw [← hq_]; exact (by (with_reducible repeat (first | apply Kd.R_alloc | apply Kd.R_drewN | apply Kd.R_drew)); exact HO_161001.out)⟩; have n1_ : Aside0 (wr.heap[gb150]? = some (.cells #[.string a0_0, .slice A0_1 l0_1.length c0_1] 29 (0, 0))) := ⟨by rw [← hq_]; exact (bl_ BK150.out)⟩; have n2_ : Aside0 (wr.heap[gb151]? = some (.cells #[.string (⟨#[]⟩ : ByteArray), .slice none 0 0] 29 (0, 0))) := ⟨by rw [← hq_]; exact (bl_ BK151.out)⟩; have n3_ : Aside0 (wr.heap[gb160]? = some (.cells #[.string a0_0, .slice Ao40 x161001_1.length co40] 29 (0, 0))) := ⟨by rw [← hq_]; exact (bl_ BK160.out)⟩; have n4_ : Aside0 (Below w.heap.size w wr) := ⟨by rw [← hq_]; exact (bs3_ HB.out GE150.out GE151.out GE160.out)⟩; clear HO_161001 BK150 BK151 BK160 HB hq_; have HO_161001 := n0_; have BK150 := n1_; have BK151 := n2_; have BK160 := n3_; have HB := n4_; clear n0_ n1_ n2_ n3_ n4_)); have hcz41_0 : wr.cell? ⟨gb160, 0, none⟩ = some (.string a0_0) := (blk_cell BK160.out 0).trans rfl; have hcz41_1 : wr.cell? ⟨gb160, 1, none⟩ = some (.slice Ao40 x161001_1.length co40) := (blk_cell BK160.out 1).trans rfl; have hfz41_0 := blk_frozen BK160.out 0; have hfz41_1 := blk_frozen BK160.out 1; have hnb42 := NB151_150.out; have hnc42 := NB150_151.out; have hcz43_0 : wr.cell? ⟨gb151, 0, none⟩ = some (.string (⟨#[]⟩ : ByteArray)) := (blk_cell BK151.out 0).trans rfl; have hcz43_1 : wr.cell? ⟨gb151, 1, none⟩ = some (.slice none 0 0) := (blk_cell BK151.out 1).trans rfl; have hfz43_0 := blk_frozen BK151.out 0; have hfz43_1 := blk_frozen BK151.out 1))
       refine bodyPost_ret (results_ct rfl _ _ gb151 29 #[.string a0_0, .slice Ao40 x161001_1.length co40] (0, 0) _ rfl (by (with_reducible repeat (first | refine blk_drewN ?_ _ | refine blk_drew ?_ | refine blk_alloc ?_ _)); refine blk_put (cs := #[.string a0_0, .slice none 0 0]) ?_ 1 _ rfl; (with_reducible repeat (first | refine blk_drewN ?_ _ | refine blk_drew ?_ | refine blk_alloc ?_ _)); refine blk_put (cs := #[.string (⟨#[]⟩ : ByteArray), .slice none 0 0]) ?_ 0 _ rfl; (with_reducible repeat (first | refine blk_drewN ?_ _ | refine blk_drew ?_ | refine blk_alloc ?_ _)); exact BK151.out) Try.underlying29 rfl (by kernel_rfl)) rfl ?_
       exact ⟨_, by first | rfl | (simp [errW_none, errW_some] <;> rfl) | (simp [*, errW_none, errW_some] <;> rfl), by (with_reducible repeat (first | apply Kd.R_alloc | apply Kd.R_drewN | apply Kd.R_drew)); exact Kd.R_mono (Kd.R_far (p := ⟨gb151, 1, none⟩) (Kd.R_far (p := ⟨gb151, 0, none⟩) (Kd.R_types HO_161001.out BK151.out (by decide)) (fun _ hk => hk.2) (.string a0_0)) (fun _ hk => hk.2) (.slice Ao40 x161001_1.length co40)) (fun _ hk => trivial), by repeat (first | (with_reducible first | exact HB.out | apply below_alloc | apply pw_below_drewN | apply below_drew1 | refine below_set ?_ GE150.out | refine below_set ?_ GE151.out | refine below_set ?_ GE160.out) | exact HB.out)⟩
     · replace c36 := Bool.eq_false_iff.mpr c36
       subst c36
       have H1 : (some ((⟨#[]⟩ : ByteArray), ([] : List (S38)), 6)) = some (r1, r2, r3) := by rw [if_neg (show ¬ (false = true) by decide)] at H; exact H
       clear H
       have H := H1
       clear H1
       simp only [Option.some.injEq, Prod.mk.injEq] at H
       obtain ⟨rfl, rfl, rfl⟩ := H
       have hnb44 := NB160_150.out
       have hnc44 := NB150_160.out
       have hnb45 := NB160_151.out
       have hnc45 := NB151_160.out
       have hcz46_0 : wr.cell? ⟨gb160, 0, none⟩ = some (.string a0_0) := (blk_cell BK160.out 0).trans rfl
       have hcz46_1 : wr.cell? ⟨gb160, 1, none⟩ = some (u161001) := (blk_cell BK160.out 1).trans rfl
       have hfz46_0 := blk_frozen BK160.out 0
       have hfz46_1 := blk_frozen BK160.out 1
       obtain ⟨Ao47, co47, eo47⟩ := Kd.R_slice HO_161001.out
       subst eo47
       go_wp2_with (first | ((with_reducible refine gate_callee (f := 34) rfl ?_); refine goesL_ (some 50) rfl rfl Try.func34 (by kernel_rfl) rfl #[.pointer (some ⟨gb160, 0, none⟩)] rfl (by (try simp only [List.map_toArray, List.map_cons, List.map_nil]); first | done | rfl | (simp only [List.length_drop, List.length_take]; rfl)) ?_; (with_reducible refine (spec_l21Ok.calls k1 _ [(⟨a0_0, x161001_1⟩ : S29)] false _ ?side1 A35.out).mono ?_); (case side1 => exact Go.Proofs.YteijbdngbmciaaaX.rp_box (t := 29) (fr := (0, 0)) (bl_ BK160.out) (k29_mk _ (⟨a0_0, x161001_1⟩ : S29) (by exact (Kd.R_reads' HO_161001.out).2.1) (by repeat (first | exact (Kd.R_reads' HO_161001.out).2.2 | (with_reducible refine Kd.C_alloc ?_ _) | (with_reducible refine Kd.C_drewN ?_ _) | (with_reducible refine Kd.C_drew ?_))))); rintro e w' ⟨rfl, ⟨nd, rfl⟩⟩; refine ⟨_, rfl, ?_⟩; (try (rw [drewN_self wr]; generalize hq_ : World.drewN wr _ = wr; have n0_ : Aside0 (Kd.R k38 38 wr w.heap.size (fun _ => True) (.slice Ao47 x161001_1.length co47) x161001_1) := ⟨by rw [← hq_]; exact (by (with_reducible repeat (first | apply Kd.R_alloc | apply Kd.R_drewN | apply Kd.R_drew)); exact HO_161001.out)⟩; have n1_ : Aside0 (wr.heap[gb150]? = some (.cells #[.string a0_0, .slice A0_1 l0_1.length c0_1] 29 (0, 0))) := ⟨by rw [← hq_]; exact (bl_ BK150.out)⟩; have n2_ : Aside0 (wr.heap[gb151]? = some (.cells #[.string (⟨#[]⟩ : ByteArray), .slice none 0 0] 29 (0, 0))) := ⟨by rw [← hq_]; exact (bl_ BK151.out)⟩; have n3_ : Aside0 (wr.heap[gb160]? = some (.cells #[.string a0_0, .slice Ao47 x161001_1.length co47] 29 (0, 0))) := ⟨by rw [← hq_]; exact (bl_ BK160.out)⟩; have n4_ : Aside0 (Below w.heap.size w wr) := ⟨by rw [← hq_]; exact (bs3_ HB.out GE150.out GE151.out GE160.out)⟩; clear HO_161001 BK150 BK151 BK160 HB hq_; have HO_161001 := n0_; have BK150 := n1_; have BK151 := n2_; have BK160 := n3_; have HB := n4_; clear n0_ n1_ n2_ n3_ n4_)); have hnb48 := NB151_150.out; have hnc48 := NB150_151.out; have hcz49_0 : wr.cell? ⟨gb151, 0, none⟩ = some (.string (⟨#[]⟩ : ByteArray)) := (blk_cell BK151.out 0).trans rfl; have hcz49_1 : wr.cell? ⟨gb151, 1, none⟩ = some (.slice none 0 0) := (blk_cell BK151.out 1).trans rfl; have hfz49_0 := blk_frozen BK151.out 0; have hfz49_1 := blk_frozen BK151.out 1))
       refine bodyPost_ret (results_ct rfl _ _ gb151 29 #[.string (⟨#[]⟩ : ByteArray), .slice none 0 0] (0, 0) _ rfl (by (with_reducible repeat (first | refine blk_drewN ?_ _ | refine blk_drew ?_ | refine blk_alloc ?_ _)); refine blk_put (cs := #[.string (⟨#[]⟩ : ByteArray), .slice none 0 0]) ?_ 1 _ rfl; (with_reducible repeat (first | refine blk_drewN ?_ _ | refine blk_drew ?_ | refine blk_alloc ?_ _)); refine blk_put (cs := #[.string (⟨#[]⟩ : ByteArray), .slice none 0 0]) ?_ 0 _ rfl; (with_reducible repeat (first | refine blk_drewN ?_ _ | refine blk_drew ?_ | refine blk_alloc ?_ _)); exact BK151.out) Try.underlying29 rfl (by kernel_rfl)) rfl ?_
       exact ⟨_, by first | rfl | (simp [errW_none, errW_some] <;> rfl) | (simp [*, errW_none, errW_some] <;> rfl), by first | exact Kd.R_nil _ _ _ _ _ | exact Kd.N_nil _ _ _ _ _ | exact Kd.V_nil _ _ _ _ _ | exact Kd.Q_nil _ _ _ _ _ | exact Kd.S_nil _ _ _ _ _, by repeat (first | (with_reducible first | exact HB.out | apply below_alloc | apply pw_below_drewN | apply below_drew1 | refine below_set ?_ GE150.out | refine below_set ?_ GE151.out | refine below_set ?_ GE160.out) | exact HB.out)⟩
   rw [if_pos c20] at H
   have c20b0 : decide (x7_1 < (x161001_1.length : Int)) = true := decide_eq_true c20
   clear c20
   by_cases c21 : 0 ≤ x7_1
   rotate_left
   · rw [if_neg c21] at H
     exact absurd H (by simp)
   rw [if_pos c21] at H
   have c21b0 : decide (0 ≤ x7_1) = true := decide_eq_true c21
   clear c21
   by_cases c22 : ((rd_T38 x161001_1 x7_1).f0) = 1
   rotate_left
   · rw [if_neg c22] at H
     have c22b0 : (((rd_T38 x161001_1 x7_1).f0) == 1) = false := beq_eq_false_iff_ne.mpr c22
     have c22b1 : (((rd_T38 x161001_1 x7_1).f0) != 1) = true := bne_iff_ne.mpr c22
     have H' := mkA H
     clear H
     have hnb31 := NB160_150.out
     have hnc31 := NB150_160.out
     have hnb32 := NB160_151.out
     have hnc32 := NB151_160.out
     have hcz33_0 : wr.cell? ⟨gb160, 0, none⟩ = some (.string a0_0) := (blk_cell BK160.out 0).trans rfl
     have hcz33_1 : wr.cell? ⟨gb160, 1, none⟩ = some (u161001) := (blk_cell BK160.out 1).trans rfl
     have hfz33_0 := blk_frozen BK160.out 0
     have hfz33_1 := blk_frozen BK160.out 1
     obtain ⟨Ao34, co34, eo34⟩ := Kd.R_slice HO_161001.out
     subst eo34
     have p161 : 0 ≤ (x7_1 : Int) := dt_
     have q161 : x7_1 < (x161001_1.length : Int) := dt_
     obtain ⟨ad161, e161, hx161_0, hx161_1, hx161_2⟩ := at_T38 (Kd.R_reads' HO_161001.out).2.2 x7_1 p161 q161
     cases e161
     replace p161 := eq_true p161
     replace q161 := eq_true q161
     go_wp2
     go_roundg k1
     case measure => have := HK1.out; omega
     case rel => exact ⟨(wrap64 (x7_1 + 1)), (x161001_1), (.slice (some ad161) x161001_1.length co34), (by first | rfl | (simp; done) | (simp [*]; done) | (simp [i64_w, i32_w]; done)), H', ⟨by have := HK1.out; omega⟩, ⟨by (with_reducible repeat (first | apply Kd.R_alloc | apply Kd.R_drewN | apply Kd.R_drew)); exact HO_161001.out⟩, ⟨by (with_reducible repeat (first | refine blk_drewN ?_ _ | refine blk_drew ?_ | refine blk_alloc ?_ _)); exact BK150.out⟩, ⟨by (with_reducible repeat (first | refine blk_drewN ?_ _ | refine blk_drew ?_ | refine blk_alloc ?_ _)); exact BK151.out⟩, ⟨by (with_reducible repeat (first | refine blk_drewN ?_ _ | refine blk_drew ?_ | refine blk_alloc ?_ _)); exact BK160.out⟩, ⟨by repeat (first | (with_reducible first | exact HB.out | apply below_alloc | apply pw_below_drewN | apply below_drew1 | refine below_set ?_ GE150.out | refine below_set ?_ GE151.out | refine below_set ?_ GE160.out) | exact HB.out)⟩⟩
   rw [if_pos c22] at H
   have c22b0 : (((rd_T38 x161001_1 x7_1).f0) == 1) = true := beq_iff_eq.mpr c22
   have c22b1 : (((rd_T38 x161001_1 x7_1).f0) != 1) = false := bne_eq_false_iff_eq.mpr c22
   clear c22
   replace H := Option.bind_eq_some_iff.mp H
   obtain ⟨t163, A230, H⟩ := H
   replace H : (spec_ScaleRecipe.l0 k1 a1 (wrap64 (x7_1 + 1)) a0_0 (x161001_1.set (x7_1 : Int).toNat (⟨(rd_T38 x161001_1 x7_1).f0, (rd_T38 x161001_1 x7_1).f1, t163⟩ : S38))) = some (r1, r2, r3) := H
   have A23 := mkA A230
   clear A230
   obtain ⟨y164, hy164⟩ : ∃ y_ : List (S38), y_ = (x161001_1.set (x7_1 : Int).toNat (⟨(rd_T38 x161001_1 x7_1).f0, (rd_T38 x161001_1 x7_1).f1, t163⟩ : S38)) := ⟨_, rfl⟩
   replace H : (spec_ScaleRecipe.l0 k1 a1 (wrap64 (x7_1 + 1)) a0_0 y164) = some (r1, r2, r3) := by first | (rw [hy164]; with_reducible exact H) | (have H2_ := (Option.bind_some _ _).symm.trans H; rw [hy164]; with_reducible exact H2_) | (have H2_ := (Option.bind_some _ _).symm.trans H; with_reducible exact H2_) | with_reducible exact H | (rw [hy164]; exact H) | exact H
   have Ny164 := mkA hy164
   clear hy164
   have H' := mkA H
   clear H
   have hnb25 := NB160_150.out
   have hnc25 := NB150_160.out
   have hnb26 := NB160_151.out
   have hnc26 := NB151_160.out
   have hcz27_0 : wr.cell? ⟨gb160, 0, none⟩ = some (.string a0_0) := (blk_cell BK160.out 0).trans rfl
   have hcz27_1 : wr.cell? ⟨gb160, 1, none⟩ = some (u161001) := (blk_cell BK160.out 1).trans rfl
   have hfz27_0 := blk_frozen BK160.out 0
   have hfz27_1 := blk_frozen BK160.out 1
   obtain ⟨Ao28, co28, eo28⟩ := Kd.R_slice HO_161001.out
   subst eo28
   have p161 : 0 ≤ (x7_1 : Int) := dt_
   have q161 : x7_1 < (x161001_1.length : Int) := dt_
   obtain ⟨ad161, e161, hx161_0, hx161_1, hx161_2⟩ := at_T38 (Kd.R_reads' HO_161001.out).2.2 x7_1 p161 q161
   cases e161
   replace p161 := eq_true p161
   replace q161 := eq_true q161
   try go_wp2
   have n0_ := mkA (Kd.R_drew HO_161001.out)
   have n1_ := mkA (blk_drew BK150.out)
   have n2_ := mkA (blk_drew BK151.out)
   have n3_ := mkA (blk_drew BK160.out)
   have n4_ := mkA (below_drew1 HB.out)
   clear HO_161001
   clear BK150
   clear BK151
   clear BK160
   clear HB
   have HO_161001 := n0_
   have BK150 := n1_
   have BK151 := n2_
   have BK160 := n3_
   have HB := n4_
   clear n0_ n1_ n2_ n3_ n4_
   have p162 : 0 ≤ (x7_1 : Int) := dt_
   have q162 : x7_1 < (x161001_1.length : Int) := dt_
   obtain ⟨ad162, e162, hx162_0, hx162_1, hx162_2⟩ := at_T38 (Kd.R_reads' HO_161001.out).2.2 x7_1 p162 q162
   obtain rfl : ad161 = ad162 := (by injection e162)
   replace p162 := eq_true p162
   replace q162 := eq_true q162
   refine start_ (n := 15) (S := fun w' => w'.cell? ⟨gb160, 0, none⟩ = some (.string a0_0) ∧ w'.cell? ⟨gb160, 1, none⟩ = some (.slice (some ad161) x161001_1.length co28) ∧ w'.cell? (ad161.add ((x7_1).toNat * 3)) = some (.int .i64 ((rd_T38 x161001_1 x7_1).f0)) ∧ w'.cell? ⟨(ad161.add ((x7_1).toNat * 3)).block, (ad161.add ((x7_1).toNat * 3)).off + 1, none⟩ = some (.int .i64 ((rd_T38 x161001_1 x7_1).f1)) ∧ w'.cell? ⟨(ad161.add ((x7_1).toNat * 3)).block, (ad161.add ((x7_1).toNat * 3)).off + 2, none⟩ = some (.int .i64 ((rd_T38 x161001_1 x7_1).f2))) (ds := [14]) spec_ScaleRecipe.d13 (by kernel_rfl) rfl rfl ⟨(blk_cell BK160.out 0).trans rfl, (blk_cell BK160.out 1).trans rfl, hx162_0, hx162_1, hx162_2⟩ (fun hHeld => ?_); refine with_tabW spec_ScaleRecipe.tab10 spec_ScaleRecipe.bits10 (fun HT_ HW_ => ?_)
   generalize wr.drew = w29 at HO_161001 BK150 BK151 BK160 HB hx162_0 hx162_1 hx162_2 hHeld ⊢
   refine p1_ HT_.out 0 36 spec_ScaleRecipe.d14 ?_
   refine p1_ HT_.out 2 38 spec_ScaleRecipe.d15 ?_
   refine p1_ HT_.out 3 39 spec_ScaleRecipe.d16 ?_
   refine p1_ HT_.out 5 41 spec_ScaleRecipe.d17 ?_
   refine p1_ HT_.out 10 46 spec_ScaleRecipe.d18 ?_
   refine take_ (i := 1) (N := some 37) (v := ?_) (a' := ?_) spec_ScaleRecipe.d19 rfl rfl (take_ofW HT_.out HW_.out (by kernel_rfl)) (fun _ _ _ h => h) (Or.inl ⟨by rfl, ?_⟩) hHeld ?_ ?_
   rotate_left
   · rintro w' ⟨s0, s1, s2, s3, s4⟩
     go_simp
     with_reducible rfl
   rotate_left
   · simp only [Act.put, sA, sB, sC, i64_w, i32_w]
     rfl
   refine take_ (i := 4) (N := some 40) (v := ?_) (a' := ?_) spec_ScaleRecipe.d20 rfl rfl (take_ofW HT_.out HW_.out (by kernel_rfl)) (fun _ _ _ h => h) (Or.inl ⟨by rfl, ?_⟩) hHeld ?_ ?_
   rotate_left
   · rintro w' ⟨s0, s1, s2, s3, s4⟩
     go_simp
     with_reducible rfl
   rotate_left
   · simp only [Act.put, sA, sB, sC, i64_w, i32_w]
     rfl
   refine p1_ HT_.out 6 42 spec_ScaleRecipe.d21 ?_
   refine p1_ HT_.out 7 43 spec_ScaleRecipe.d22 ?_
   refine take_ (i := 8) (N := some 44) (v := ?_) (a' := ?_) spec_ScaleRecipe.d23 rfl rfl (take_ofW HT_.out HW_.out (by kernel_rfl)) (fun _ _ _ h => h) (Or.inl ⟨by rfl, ?_⟩) hHeld ?_ ?_
   rotate_left
   · rintro w' ⟨s0, s1, s2, s3, s4⟩
     go_simp
     with_reducible rfl
   rotate_left
   · simp only [Act.put, sA, sB, sC, i64_w, i32_w]
     rfl
   refine p1_ HT_.out 9 45 spec_ScaleRecipe.d24 ?_
   refine one_ (i := 11) (N := some 47) spec_ScaleRecipe.d25 rfl rfl (one_of HT_.out (by kernel_rfl)) (by decide) (fun K hK => ?_)
   refine goes_ Try.func58 (by kernel_rfl) rfl #[.int .i64 (wrap64 (((rd_T38 x161001_1 x7_1).f2) * 100)), .int .i64 a1] (by rfl) rfl rfl (by (try simp only [List.map_toArray, List.map_cons, List.map_nil]); first | done | rfl | (simp only [List.length_drop, List.length_take]; rfl)) ?_
   with_reducible refine (spec_l01Div.calls (wrap64 (((rd_T38 x161001_1 x7_1).f2) * 100)) a1 t163 _ A23.out).mono ?_
   rintro e w' ⟨rfl, ⟨nd, rfl⟩⟩
   refine ⟨_, rfl, ?_⟩
   have p24 : 0 ≤ (x7_1 : Int) := dt_
   have q24 : (x7_1 : Int) < ((x161001_1.length : Int) : Int) := dt_
   obtain ⟨go24, co24, eo24, gb24, gl24, cl24, HG24⟩ := Kd.R_form HO_161001.out (by omega)
   (first | cases eo24 | (injection eo24 with ea_ en_ ec_; (first | subst ea_ | (injection ea_ with ea_; subst ea_)); subst ec_; clear en_))
   have GB24 := mkA gb24
   have GG24 := mkA HG24
   clear gb24 gl24 HG24
   (first | simp only [add_plain] at hx161_0 | skip)
   (first | simp only [add_plain] at hx161_1 | skip)
   (first | simp only [add_plain] at hx161_2 | skip)
   (first | simp only [add_plain] at hx162_0 | skip)
   (first | simp only [add_plain] at hx162_1 | skip)
   (first | simp only [add_plain] at hx162_2 | skip)
   obtain ⟨ce24, hcl24, hM24, hcc24, hfr24⟩ := Kd.R_elem HO_161001.out z38 (x7_1 : Int) p24 q24
   obtain rfl := k38_openM hM24
   have hx24_0 : World.cell? _ ⟨go24, (x7_1 : Int).toNat * 3, none⟩ = some (.int .i64 ((rd_T38 x161001_1 x7_1).f0)) := hcc24 0 _ rfl
   have hx24_1 : World.cell? _ ⟨go24, (x7_1 : Int).toNat * 3 + 1, none⟩ = some (.int .i64 ((rd_T38 x161001_1 x7_1).f1)) := hcc24 1 _ rfl
   have hx24_2 : World.cell? _ ⟨go24, (x7_1 : Int).toNat * 3 + 2, none⟩ = some (.int .i64 ((rd_T38 x161001_1 x7_1).f2)) := hcc24 2 _ rfl
   have hf24_0 : World.frozen? _ ⟨go24, (x7_1 : Int).toNat * 3, none⟩ = false := hfr24 0
   have hf24_1 : World.frozen? _ ⟨go24, (x7_1 : Int).toNat * 3 + 1, none⟩ = false := hfr24 1
   have hf24_2 : World.frozen? _ ⟨go24, (x7_1 : Int).toNat * 3 + 2, none⟩ = false := hfr24 2
   clear hcl24 hcc24 hfr24 hM24
   replace p24 := eq_true p24
   replace q24 := eq_true q24
   obtain ⟨ce30, hcl30, hM30, hcc30, hfr30⟩ := Kd.R_elem HO_161001.out z38 (x7_1 : Int) (dt_) (by have h_ : (x7_1 : Int) < ((x161001_1.length : Int) : Int) := dt_; first | exact h_ | (have e_ := (Kd.R_reads' HO_161001.out).1; omega) | simpa using h_)
   obtain rfl := k38_openM hM30
   have HP30 := (Kd.R_seg HO_161001.out (x7_1 : Int) (dt_) (by have h_ : (x7_1 : Int) < ((x161001_1.length : Int) : Int) := dt_; first | exact h_ | (have e_ := (Kd.R_reads' HO_161001.out).1; omega) | simpa using h_) (seg := [.int .i64 t163]) (j := 2) hcl30 hcc30 (show 3 ≤ 3 from by decide) (x' := (⟨(rd_T38 x161001_1 x7_1).f0, (rd_T38 x161001_1 x7_1).f1, t163⟩ : S38)) (k38_mkM _ _ _ (⟨(rd_T38 x161001_1 x7_1).f0, (rd_T38 x161001_1 x7_1).f1, t163⟩ : S38) ) (fun _ hk => hk)).1
   rw [← Ny164.out] at HP30
   have HQ30 := mkA HP30
   clear hcl30 hcc30 hfr30 hM30 HP30
   refine hK.out _ _ ⟨(blk_cell BK160.out 0).trans rfl, (blk_cell BK160.out 1).trans rfl, hHeld.2.2.1, hHeld.2.2.2.1, hHeld.2.2.2.2⟩ (fun hHeld => ?_)
   clear hK K
   refine norm_ (a' := ?_) ?_ ?_
   rotate_left
   · show Act.put _ (some 47) _ = _
     simp only [Act.put, sA, sB, sC, i64_w, i32_w]
     rfl
   refine p1_ HT_.out 12 48 spec_ScaleRecipe.d26 ?_
   refine p1_ HT_.out 13 49 spec_ScaleRecipe.d27 ?_
   refine last_ (i := 14) (N := none) spec_ScaleRecipe.d28 rfl rfl (one_of HT_.out (by kernel_rfl)) (by decide) (fun K hK => ?_)
   refine skip_ (w1 := ?_) (by rfl) rfl ?_ ?_
   rotate_left
   · go_simp
     rfl
   refine hK.out _ _ ?_
   clear hK K
   refine done_ (done_of HT_.out (by kernel_rfl)) ?_
   try go_wp2
   go_roundg k1
   case measure => have := HK1.out; omega
   case rel => exact ⟨(wrap64 (x7_1 + 1)), (y164), (.slice (some ⟨go24, 0, none⟩) x161001_1.length co28), (by first | rfl | (simp; done) | (simp [*]; done) | (simp [i64_w, i32_w]; done)), H', ⟨by have := HK1.out; omega⟩, ⟨by (with_reducible repeat (first | apply Kd.R_alloc | apply Kd.R_drewN | apply Kd.R_drew)); exact HQ30.out⟩, ⟨by (with_reducible repeat (first | refine blk_drewN ?_ _ | refine blk_drew ?_ | refine blk_alloc ?_ _)); refine blk_far ?_ (by have h_ := Kd.R_ne HO_161001.out BK150.out (by decide); intro e_; exact h_ (by rw [e_]; rfl)) _; (with_reducible repeat (first | refine blk_drewN ?_ _ | refine blk_drew ?_ | refine blk_alloc ?_ _)); exact BK150.out⟩, ⟨by (with_reducible repeat (first | refine blk_drewN ?_ _ | refine blk_drew ?_ | refine blk_alloc ?_ _)); refine blk_far ?_ (by have h_ := Kd.R_ne HO_161001.out BK151.out (by decide); intro e_; exact h_ (by rw [e_]; rfl)) _; (with_reducible repeat (first | refine blk_drewN ?_ _ | refine blk_drew ?_ | refine blk_alloc ?_ _)); exact BK151.out⟩, ⟨by (with_reducible repeat (first | refine blk_drewN ?_ _ | refine blk_drew ?_ | refine blk_alloc ?_ _)); refine blk_far ?_ (by have h_ := Kd.R_ne HO_161001.out BK160.out (by decide); intro e_; exact h_ (by rw [e_]; rfl)) _; (with_reducible repeat (first | refine blk_drewN ?_ _ | refine blk_drew ?_ | refine blk_alloc ?_ _)); exact BK160.out⟩, ⟨by repeat (first | (with_reducible first | exact HB.out | apply below_alloc | apply pw_below_drewN | apply below_drew1 | refine below_set ?_ GB24.out | refine below_set ?_ GE150.out | refine below_set ?_ GE151.out | refine below_set ?_ GE160.out) | exact HB.out)⟩⟩
end Go.Proofs.Yteijbdngbmciaaa.GFnExactScaleRecipe

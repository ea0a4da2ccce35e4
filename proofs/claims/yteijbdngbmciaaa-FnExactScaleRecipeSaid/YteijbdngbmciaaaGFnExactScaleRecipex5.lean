-- Written by the session's own program (gen.py) out of the translation's print. Lean checks it.
import Derived.Test.YteijbdngbmciaaaGFnExactScaleRecipex0
import Derived.Test.YteijbdngbmciaaaGFnExactScaleRecipex4
namespace Go.Proofs.Yteijbdngbmciaaa.GFnExactScaleRecipe
open Go.RowKit Go.Proofs.YteijbdngbmciaaaW.PrintWords Go.Proofs.YteijbdngbmciaaaW.PrintLast Go.Proofs.YteijbdngbmciaaaW.PrintMore
attribute [local go_sem] max2_int min2_int max_two min_two max_three min_three max_four min_four   -- for this text's walks alone
set_option linter.unusedVariables false
set_option linter.unusedSimpArgs false

/-! ### impl_ValidRecipe: function 12 -/
def impl_ValidRecipe.f (k : Nat) (a0_0 : ByteArray) (l0_1 : List (S38)) : Option (Bool) := (impl_IsName.f k a0_0).bind fun t179 => (if t179 = true then ((impl_validSteps.f k l0_1).bind fun t180 => (some t180)) else (some false))
theorem impl_ValidRecipe.mono : ∀ a0 a1 k, LeO (impl_ValidRecipe.f k a0 a1) (impl_ValidRecipe.f (k + 1) a0 a1) := by
  intro a0 a1 k
  unfold impl_ValidRecipe.f
  repeat' first
      | (with_reducible exact impl_IsName.mono _ _)
      | (with_reducible exact impl_validSteps.mono _ _)
      | (with_reducible exact LeO.refl _)
      | (with_reducible exact LeO.none _)
      | (with_reducible refine LeO.ite ?_ ?_)
      | (with_reducible refine LeO.bind ?_ (fun _ => ?_))
      | exact impl_IsName.mono _ _
      | exact impl_validSteps.mono _ _
      | exact LeO.none _
      | refine LeO.ite ?_ ?_
      | refine LeO.bind ?_ (fun _ => ?_)
open List renaming setIfInBounds_toArray → sA, set_cons_zero → sB, set_cons_succ → sC
open Go.Proofs.YteijbdngbmciaaaW.PrintWords.Aside0 renaming mk → mkA
open Go.Proofs.YteijbdngbmciaaaX (dt_ bc_ p0_ p1_ bl_ cb_ bs0_ bs1_ bs2_ bs3_ bs4_ bs5_ bs6_ bs7_ bs8_ bs9_ bs10_ bs11_ bs12_)
set_option maxHeartbeats 8000000 in
set_option maxRecDepth 100000 in
theorem impl_ValidRecipe.calls (k : Nat) (a0_0 : ByteArray) (A0_1 : Option Addr) (c0_1 : Nat) (l0_1 : List (S38)) (r : Bool) (w : World) (hr0_1 : Kd.C k38 w A0_1 l0_1.length l0_1) (hc0_1 : l0_1.length ≤ c0_1) (h : impl_ValidRecipe.f k a0_0 l0_1 = some r) :
 Calls Try.prog 12 #[.agg #[.string a0_0, .slice A0_1 l0_1.length c0_1]] w fun e w' => e = .returned (.bool r) ∧ Below w.heap.size w w' := by
 have hu29 := Try.underlying29
 have HR0_1 := mkA hr0_1
 have HC0_1 := mkA hc0_1
 clear hr0_1 hc0_1
 have HB := mkA (Below.refl w.heap.size w)
 have H : ((impl_IsName.f k a0_0).bind fun t179 => (if t179 = true then ((impl_validSteps.f k l0_1).bind fun t180 => (some t180)) else (some false))) = some r := h
 clear h
 replace H := Option.bind_eq_some_iff.mp H
 obtain ⟨t179, A20, H⟩ := H
 replace H : (if t179 = true then ((impl_validSteps.f k l0_1).bind fun t180 => (some t180)) else (some false)) = some r := H
 have A2 := mkA A20
 clear A20
 by_cases c3 : t179 = true
 rotate_left
 · replace c3 := Bool.eq_false_iff.mpr c3
   subst c3
   have H1 : (some false) = some r := by rw [if_neg (show ¬ (false = true) by decide)] at H; exact H
   clear H
   have H := H1
   clear H1
   obtain rfl := Option.some.inj H
   go_enter Try.func12, Try.ntmps12
   go_wp2_with (first | ((with_reducible refine gate_dst (N := 1) rfl ?_); refine box_event ?hg (N := 1) ?hd (cs := #[.string a0_0, .slice A0_1 l0_1.length c0_1]) (t := 29) ?hr ?_; (case hd => rfl); (case hg => rfl); (case hr => first | (go_simp; done) | (go_simp; rfl)); intro gb178 hg w8 hbox hb; have n0_ := mkA (below_step (bs0_ HB.out) hb); have n1_ := mkA (hbox); have n2_ := mkA ((by rw [hg]; exact (below_size (bs0_ HB.out)) : w.heap.size ≤ gb178)); have n3_ := mkA ((by rw [hg]; exact (below_size (bs0_ HB.out)) : w.heap.size ≤ gb178)); clear HB; have HB := n0_; have BK178 := n1_; have GW178 := n2_; have GE178 := n3_; clear n0_ n1_ n2_ n3_; clear hb hbox hg; have hcz9_0 : w8.cell? ⟨gb178, 0, none⟩ = some (.string a0_0) := (blk_cell BK178.out 0).trans rfl; have hcz9_1 : w8.cell? ⟨gb178, 1, none⟩ = some (.slice A0_1 l0_1.length c0_1) := (blk_cell BK178.out 1).trans rfl; have hfz9_0 := blk_frozen BK178.out 0; have hfz9_1 := blk_frozen BK178.out 1) | ((with_reducible refine gate_callee (f := 36) rfl ?_); refine goesL_ (some 5) rfl rfl Try.func36 (by kernel_rfl) rfl #[.string a0_0] rfl (by (try simp only [List.map_toArray, List.map_cons, List.map_nil]); first | done | rfl | (simp only [List.length_drop, List.length_take]; rfl)) ?_; (with_reducible refine (impl_IsName.calls k a0_0 false _ A2.out).mono ?_); rintro e w' ⟨rfl, ⟨nd, rfl⟩⟩; refine ⟨_, rfl, ?_⟩))
   go_ret
   exact ⟨by first | rfl | (simp [errW_none, errW_some] <;> rfl) | (simp [*, errW_none, errW_some] <;> rfl), by repeat (first | (with_reducible first | exact HB.out | apply below_alloc | apply pw_below_drewN | apply below_drew1 | refine below_set ?_ GE178.out) | exact HB.out)⟩

 subst c3
 have H1 : ((impl_validSteps.f k l0_1).bind fun t180 => (some t180)) = some r := by rw [if_pos rfl] at H; exact H
 clear H
 have H := H1
 clear H1
 replace H := Option.bind_eq_some_iff.mp H
 obtain ⟨t180, A40, H⟩ := H
 replace H : (some t180) = some r := H
 have A4 := mkA A40
 clear A40
 obtain rfl := Option.some.inj H
 go_enter Try.func12, Try.ntmps12
 go_wp2_with (first | ((with_reducible refine gate_dst (N := 1) rfl ?_); refine box_event ?hg (N := 1) ?hd (cs := #[.string a0_0, .slice A0_1 l0_1.length c0_1]) (t := 29) ?hr ?_; (case hd => rfl); (case hg => rfl); (case hr => first | (go_simp; done) | (go_simp; rfl)); intro gb178 hg w5 hbox hb; have n0_ := mkA (below_step (bs0_ HB.out) hb); have n1_ := mkA (hbox); have n2_ := mkA ((by rw [hg]; exact (below_size (bs0_ HB.out)) : w.heap.size ≤ gb178)); have n3_ := mkA ((by rw [hg]; exact (below_size (bs0_ HB.out)) : w.heap.size ≤ gb178)); clear HB; have HB := n0_; have BK178 := n1_; have GW178 := n2_; have GE178 := n3_; clear n0_ n1_ n2_ n3_; clear hb hbox hg; have hcz6_0 : w5.cell? ⟨gb178, 0, none⟩ = some (.string a0_0) := (blk_cell BK178.out 0).trans rfl; have hcz6_1 : w5.cell? ⟨gb178, 1, none⟩ = some (.slice A0_1 l0_1.length c0_1) := (blk_cell BK178.out 1).trans rfl; have hfz6_0 := blk_frozen BK178.out 0; have hfz6_1 := blk_frozen BK178.out 1) | ((with_reducible refine gate_callee (f := 36) rfl ?_); refine goesL_ (some 5) rfl rfl Try.func36 (by kernel_rfl) rfl #[.string a0_0] rfl (by (try simp only [List.map_toArray, List.map_cons, List.map_nil]); first | done | rfl | (simp only [List.length_drop, List.length_take]; rfl)) ?_; (with_reducible refine (impl_IsName.calls k a0_0 true _ A2.out).mono ?_); rintro e w' ⟨rfl, ⟨nd, rfl⟩⟩; refine ⟨_, rfl, ?_⟩) | (go_at_call 37; (with_reducible refine (impl_validSteps.calls k _ _ l0_1 t180 _ ?side1 ?side2 A4.out).mono ?_); (case side1 => repeat (first | exact (Kd.C_below HR0_1.out (bs1_ HB.out GE178.out)) | (with_reducible refine Kd.C_alloc ?_ _) | (with_reducible refine Kd.C_drewN ?_ _) | (with_reducible refine Kd.C_drew ?_))); (case side2 => exact HC0_1.out); rintro e w7 ⟨rfl, hb⟩; have n0_ := mkA (blk_below (g := gb178) (o := .cells #[.string a0_0, .slice A0_1 l0_1.length c0_1] 29 (0, 0)) (bl_ BK178.out) hb); have n1_ := mkA (below_step (bs1_ HB.out GE178.out) hb); clear BK178; clear HB; have BK178 := n0_; have HB := n1_; clear n0_ n1_; (try clear hb); (try clear hb2); (try clear hk); (try clear hi)))
 go_ret
 exact ⟨by first | rfl | (simp [errW_none, errW_some] <;> rfl) | (simp [*, errW_none, errW_some] <;> rfl), by repeat (first | (with_reducible first | exact HB.out | apply below_alloc | apply pw_below_drewN | apply below_drew1 | refine below_set ?_ GE178.out) | exact HB.out)⟩
/-! ### impl_Step_60: function 60 -/
def impl_Step_60.f (l0 : List (S38)) : Option ((List (S38))) := (some (([] : List (S38)) : List (S38))).bind fun y181 => (if y181.length + l0.length < 5864062014805 then (some (y181 ++ l0)) else (none))
set_option maxHeartbeats 8000000 in
set_option maxRecDepth 100000 in
theorem impl_Step_60.calls (A0 : Option Addr) (c0 : Nat) (l0 : List (S38)) (r : List (S38)) (w : World) (hr0 : Kd.C k38 w A0 l0.length l0) (hc0 : l0.length ≤ c0) (h : impl_Step_60.f l0 = some r) :
    Calls Try.prog 60 #[.slice A0 l0.length c0] w fun e w' => ∃ v0_ : Value, e = .returned (v0_) ∧ Kd.R k38 38 w' w.heap.size (fun _ => True) v0_ r ∧ Below w.heap.size w w' := by
  have HR0 := Aside0.mk hr0
  have HC0 := Aside0.mk hc0
  clear hr0 hc0
  have HB := Aside0.mk (Below.refl w.heap.size w)
  have H : ((some (([] : List (S38)) : List (S38))).bind fun y181 => (if y181.length + l0.length < 5864062014805 then (some (y181 ++ l0)) else (none))) = some r := h
  clear h
  obtain ⟨y181, hy181⟩ : ∃ y_ : List (S38), y_ = (([] : List (S38))) := ⟨_, rfl⟩
  replace H : (if y181.length + l0.length < 5864062014805 then (some (y181 ++ l0)) else (none)) = some r := by first | (rw [hy181]; with_reducible exact H) | (have H2_ := (Option.bind_some _ _).symm.trans H; rw [hy181]; with_reducible exact H2_) | (have H2_ := (Option.bind_some _ _).symm.trans H; with_reducible exact H2_) | with_reducible exact H | (rw [hy181]; exact H) | exact H
  have Ny181 := Aside0.mk hy181
  clear hy181
  by_cases c2 : y181.length + l0.length < 5864062014805
  · rw [if_pos c2] at H
    have LMc2 := Aside0.mk c2
    clear c2
    obtain ⟨y184, hy184⟩ : ∃ y_ : List (S38), y_ = (y181 ++ l0) := ⟨_, rfl⟩
    replace H : (some y184) = some r := by first | (rw [hy184]; with_reducible exact H) | (have H2_ := (Option.bind_some _ _).symm.trans H; rw [hy184]; with_reducible exact H2_) | (have H2_ := (Option.bind_some _ _).symm.trans H; with_reducible exact H2_) | with_reducible exact H | (rw [hy184]; exact H) | exact H
    have Ny184 := Aside0.mk hy184
    clear hy184
    obtain rfl := Option.some.inj H
    cases A0 with
    | none =>
     have hl0 : l0 = [] := by
      obtain ⟨_, _, h3⟩ := HR0.out
      rcases Nat.eq_zero_or_pos l0.length with h | h
      · exact List.eq_nil_of_length_eq_zero h
      · obtain ⟨ad, e, _⟩ := h3 h; cases e
     subst hl0
     have hy0 := Ny184.out
     rw [Ny181.out, List.append_nil] at hy0
     subst hy0
     clear Ny181 Ny184
     simp only [List.length_nil]
     have hq_ : ∀ w : World, (binOp .eql 27 (.slice none 0 c0) (.slice none 0 0)).run Try.prog w = .ok (.bool true) w := fun w => by kernel_rfl
     go_enter Try.func60, Try.ntmps60
     go_wp2
     go_ret
     exact ⟨_, rfl, Kd.R_nil _ _ _ _ _, by repeat (first | (with_reducible first | exact HB.out | apply below_alloc | apply pw_below_drewN | apply below_drew1) | exact HB.out)⟩
    | some ad0 =>
     have hq_ : ∀ w : World, (binOp .eql 27 (.slice (some ad0) l0.length c0) (.slice none 0 0)).run Try.prog w = .ok (.bool false) w := fun w => by kernel_rfl
     go_enter Try.func60, Try.ntmps60
     go_wp2_with (first | ((with_reducible refine gate_dst (N := 5) rfl ?_); refine Kd.R_lit k38 _ 38 ?hg (N := 5) ?hd (xs := ([] : List (S38))) (inner := []) (ok := fun _ => True) (okp := fun _ => True) ?hr ?hp (fun _ hk => hk) trivial (Below.refl _ _) (Nat.le_refl _) (by simp) ?_; (case hd => rfl); (case hg => rfl); (case hr => first | (go_simp; done) | (go_simp; rfl)); (case hp => exact (Reps.none _ _)); intro v182 w3 ho4 hb hg_ hnew_; clear hg_ hnew_; (first | rw [← Ny181.out] at ho4 | (simp only [Int.reduceToNat] at ho4; rw [← Ny181.out] at ho4)); have n0_ := Aside0.mk (Kd.R_lower ho4 (below_size (by repeat (first | (with_reducible first | exact HB.out | apply below_alloc | apply pw_below_drewN | apply below_drew1) | exact HB.out)))); have n1_ := Aside0.mk (below_step (by repeat (first | (with_reducible first | exact HB.out | apply below_alloc | apply pw_below_drewN | apply below_drew1) | exact HB.out)) hb); clear HB; have HO183 := n0_; have HB := n1_; clear n0_ n1_; clear hb ho4) | ((with_reducible refine gate_builtin (b := .append) (xs := #[.tmp 5, .tmp 6]) rfl ?_); at_builtin; refine Kd.R_append_rows k38 (w0 := w) w.heap.size rfl (.tmp 5) (.tmp 6) 27 38 (.agg #[(.int .i64 0), (.int .i64 0), (.int .i64 0)]) 24 rfl Try.underlying27 info38 rfl (by decide) (by omega) v182 y181 l0 _ _ _ (fun _ => True) (fun _ => False) rfl rfl ?aO ?aR (fun _ _ h => h) (fun _ h => h.elim) ?aF ?aB ?aS ?aL ?_; (case aR => repeat (first | exact (Kd.C_below HR0.out HB.out) | (with_reducible refine Kd.C_alloc ?_ _) | (with_reducible refine Kd.C_drewN ?_ _) | (with_reducible refine Kd.C_drew ?_))); (case aB => exact (by repeat (first | (with_reducible first | exact HB.out | apply below_alloc | apply pw_below_drewN | apply below_drew1) | exact HB.out))); (case aF => exact (fun _ _ => trivial)); (case aO => exact (by (with_reducible repeat (first | apply Kd.R_alloc | apply Kd.R_drewN | apply Kd.R_drew)); exact HO183.out)); (case aS => exact (below_size (by repeat (first | (with_reducible first | exact HB.out | apply below_alloc | apply pw_below_drewN | apply below_drew1) | exact HB.out)))); (case aL => have := LMc2.out; omega); intro v185 w5 ho hb hg hat; rw [← Ny184.out] at ho; have n0_ := Aside0.mk (hb); have n1_ := Aside0.mk (ho); clear HB; clear HO183; have HB := n0_; have HO186 := n1_; clear n0_ n1_; clear ho hb hg hat))
     go_ret
     exact ⟨_, by first | rfl | (simp [errW_none, errW_some] <;> rfl) | (simp [*, errW_none, errW_some] <;> rfl), by (with_reducible repeat (first | apply Kd.R_alloc | apply Kd.R_drewN | apply Kd.R_drew)); exact HO186.out, by repeat (first | (with_reducible first | exact HB.out | apply below_alloc | apply pw_below_drewN | apply below_drew1) | exact HB.out)⟩
  · rw [if_neg c2] at H
    exact absurd H (by simp)

/-! ### impl_nearest: function 61 -/
def impl_nearest.f (a0 : Int) (a1 : Int) : Option (Int) := if a1 = 0 then (some 0) else (if (mx a1 (wrap64 (-a1))) = 0 then (none) else (if (Int.tmod (mx a0 (wrap64 (-a0))) (mx a1 (wrap64 (-a1)))) ≥ (wrap64 ((mx a1 (wrap64 (-a1))) - (Int.tmod (mx a0 (wrap64 (-a0))) (mx a1 (wrap64 (-a1)))))) then (if ((decide (a0 < 0)) != (decide (a1 < 0))) = true then (some (wrap64 (-(wrap64 ((wrap64 (Int.tdiv (mx a0 (wrap64 (-a0))) (mx a1 (wrap64 (-a1))))) + 1))))) else (some (wrap64 ((wrap64 (Int.tdiv (mx a0 (wrap64 (-a0))) (mx a1 (wrap64 (-a1))))) + 1)))) else (if ((decide (a0 < 0)) != (decide (a1 < 0))) = true then (some (wrap64 (-(wrap64 (Int.tdiv (mx a0 (wrap64 (-a0))) (mx a1 (wrap64 (-a1)))))))) else (some (wrap64 (Int.tdiv (mx a0 (wrap64 (-a0))) (mx a1 (wrap64 (-a1)))))))))
open List renaming setIfInBounds_toArray → sA, set_cons_zero → sB, set_cons_succ → sC
open Go.Proofs.YteijbdngbmciaaaW.PrintWords.Aside0 renaming mk → mkA
open Go.Proofs.YteijbdngbmciaaaX (dt_ bc_ p0_ p1_ bl_ cb_ bs0_ bs1_ bs2_ bs3_ bs4_ bs5_ bs6_ bs7_ bs8_ bs9_ bs10_ bs11_ bs12_)
set_option maxHeartbeats 8000000 in
set_option maxRecDepth 100000 in
theorem impl_nearest.calls (a0 : Int) (a1 : Int) (r : Int) (w : World) (h : impl_nearest.f a0 a1 = some r) :
 Calls Try.prog 61 #[.int .i64 a0, .int .i64 a1] w fun e w' => e = .returned (.int .i64 r) ∧ Below w.heap.size w w' := by
 have HB := mkA (Below.refl w.heap.size w)
 have H : (if a1 = 0 then (some 0) else (if (mx a1 (wrap64 (-a1))) = 0 then (none) else (if (Int.tmod (mx a0 (wrap64 (-a0))) (mx a1 (wrap64 (-a1)))) ≥ (wrap64 ((mx a1 (wrap64 (-a1))) - (Int.tmod (mx a0 (wrap64 (-a0))) (mx a1 (wrap64 (-a1)))))) then (if ((decide (a0 < 0)) != (decide (a1 < 0))) = true then (some (wrap64 (-(wrap64 ((wrap64 (Int.tdiv (mx a0 (wrap64 (-a0))) (mx a1 (wrap64 (-a1))))) + 1))))) else (some (wrap64 ((wrap64 (Int.tdiv (mx a0 (wrap64 (-a0))) (mx a1 (wrap64 (-a1))))) + 1)))) else (if ((decide (a0 < 0)) != (decide (a1 < 0))) = true then (some (wrap64 (-(wrap64 (Int.tdiv (mx a0 (wrap64 (-a0))) (mx a1 (wrap64 (-a1)))))))) else (some (wrap64 (Int.tdiv (mx a0 (wrap64 (-a0))) (mx a1 (wrap64 (-a1)))))))))) = some r := h
 clear h
 by_cases c3 : a1 = 0
 · rw [if_pos c3] at H
   have c3b0 : (a1 == 0) = true := beq_iff_eq.mpr c3
   have c3b1 : (a1 != 0) = false := bne_eq_false_iff_eq.mpr c3
   clear c3
   obtain rfl := Option.some.inj H
   go_enter Try.func61, Try.ntmps61
   go_wp2
   go_ret
   exact ⟨by first | rfl | (simp [errW_none, errW_some] <;> rfl) | (simp [*, errW_none, errW_some] <;> rfl), by repeat (first | (with_reducible first | exact HB.out | apply below_alloc | apply pw_below_drewN | apply below_drew1) | exact HB.out)⟩
 · rw [if_neg c3] at H
   have c3b0 : (a1 == 0) = false := beq_eq_false_iff_ne.mpr c3
   have c3b1 : (a1 != 0) = true := bne_iff_ne.mpr c3
   obtain ⟨ji4, hji4⟩ : ∃ j_ : Int, (mx a0 (wrap64 (-a0))) = j_ := ⟨_, rfl⟩
   replace H : (if (mx a1 (wrap64 (-a1))) = 0 then (none) else (if (Int.tmod (ji4) (mx a1 (wrap64 (-a1)))) ≥ (wrap64 ((mx a1 (wrap64 (-a1))) - (Int.tmod (ji4) (mx a1 (wrap64 (-a1)))))) then (if ((decide (a0 < 0)) != (decide (a1 < 0))) = true then (some (wrap64 (-(wrap64 ((wrap64 (Int.tdiv (ji4) (mx a1 (wrap64 (-a1))))) + 1))))) else (some (wrap64 ((wrap64 (Int.tdiv (ji4) (mx a1 (wrap64 (-a1))))) + 1)))) else (if ((decide (a0 < 0)) != (decide (a1 < 0))) = true then (some (wrap64 (-(wrap64 (Int.tdiv (ji4) (mx a1 (wrap64 (-a1)))))))) else (some (wrap64 (Int.tdiv (ji4) (mx a1 (wrap64 (-a1))))))))) = some r := by first | (rw [hji4] at H; exact H) | (simp only [hji4] at H ⊢; exact H)
   have hji4_ : (if a0 < (wrap64 (-a0)) then (wrap64 (-a0)) else a0) = ji4 := hji4
   obtain ⟨ji5, hji5⟩ : ∃ j_ : Int, (mx a1 (wrap64 (-a1))) = j_ := ⟨_, rfl⟩
   replace H : (if (ji5) = 0 then (none) else (if (Int.tmod (ji4) (ji5)) ≥ (wrap64 ((ji5) - (Int.tmod (ji4) (ji5)))) then (if ((decide (a0 < 0)) != (decide (a1 < 0))) = true then (some (wrap64 (-(wrap64 ((wrap64 (Int.tdiv (ji4) (ji5))) + 1))))) else (some (wrap64 ((wrap64 (Int.tdiv (ji4) (ji5))) + 1)))) else (if ((decide (a0 < 0)) != (decide (a1 < 0))) = true then (some (wrap64 (-(wrap64 (Int.tdiv (ji4) (ji5)))))) else (some (wrap64 (Int.tdiv (ji4) (ji5))))))) = some r := by first | (rw [hji5] at H; exact H) | (simp only [hji5] at H ⊢; exact H)
   have hji5_ : (if a1 < (wrap64 (-a1)) then (wrap64 (-a1)) else a1) = ji5 := hji5
   by_cases c6 : (ji5) = 0
   · rw [if_pos c6] at H
     exact absurd H (by simp)
   · rw [if_neg c6] at H
     have c6b0 : ((ji5) == 0) = false := beq_eq_false_iff_ne.mpr c6
     have c6b1 : ((ji5) != 0) = true := bne_iff_ne.mpr c6
     by_cases c7 : (Int.tmod (ji4) (ji5)) ≥ (wrap64 ((ji5) - (Int.tmod (ji4) (ji5))))
     · rw [if_pos c7] at H
       have c7b0 : decide ((wrap64 ((ji5) - (Int.tmod (ji4) (ji5)))) ≤ (Int.tmod (ji4) (ji5))) = true := decide_eq_true c7
       clear c7
       by_cases c8 : ((decide (a0 < 0)) != (decide (a1 < 0))) = true
       rotate_left
       · rw [if_neg c8] at H
         have c8b0 : ((decide (a0 < 0)) != (decide (a1 < 0))) = false := by simpa using c8
         (try (have c8b1 : decide ((decide (a0 < 0)) = (decide (a1 < 0))) = true := by simpa using c8))
         (try (have c8b2 : ((decide (a0 < 0)) == (decide (a1 < 0))) = true := by simpa using c8))
         clear c8
         obtain rfl := Option.some.inj H
         go_enter Try.func61, Try.ntmps61
         go_wp2
         go_ret
         exact ⟨by first | rfl | (simp [errW_none, errW_some] <;> rfl) | (simp only [← hji4, ← hji5]; first | rfl | (simp [errW_none, errW_some] <;> rfl)) | (simp [*, errW_none, errW_some] <;> rfl), by repeat (first | (with_reducible first | exact HB.out | apply below_alloc | apply pw_below_drewN | apply below_drew1) | exact HB.out)⟩
       rw [if_pos c8] at H
       have c8b0 : ((decide (a0 < 0)) != (decide (a1 < 0))) = true := c8
       (try (have c8b1 : decide ((decide (a0 < 0)) = (decide (a1 < 0))) = false := by simpa using c8))
       (try (have c8b2 : ((decide (a0 < 0)) == (decide (a1 < 0))) = false := by simpa using c8))
       (try (have c8b3 : ¬ ((decide (a0 < 0)) = (decide (a1 < 0))) := by simpa using c8))
       clear c8
       obtain rfl := Option.some.inj H
       go_enter Try.func61, Try.ntmps61
       go_wp2
       go_ret
       exact ⟨by first | rfl | (simp [errW_none, errW_some] <;> rfl) | (simp only [← hji4, ← hji5]; first | rfl | (simp [errW_none, errW_some] <;> rfl)) | (simp [*, errW_none, errW_some] <;> rfl), by repeat (first | (with_reducible first | exact HB.out | apply below_alloc | apply pw_below_drewN | apply below_drew1) | exact HB.out)⟩
     · rw [if_neg c7] at H
       have c7b0 : decide ((wrap64 ((ji5) - (Int.tmod (ji4) (ji5)))) ≤ (Int.tmod (ji4) (ji5))) = false := decide_eq_false c7
       clear c7
       by_cases c9 : ((decide (a0 < 0)) != (decide (a1 < 0))) = true
       · rw [if_pos c9] at H
         have c9b0 : ((decide (a0 < 0)) != (decide (a1 < 0))) = true := c9
         (try (have c9b1 : decide ((decide (a0 < 0)) = (decide (a1 < 0))) = false := by simpa using c9))
         (try (have c9b2 : ((decide (a0 < 0)) == (decide (a1 < 0))) = false := by simpa using c9))
         (try (have c9b3 : ¬ ((decide (a0 < 0)) = (decide (a1 < 0))) := by simpa using c9))
         clear c9
         obtain rfl := Option.some.inj H
         go_enter Try.func61, Try.ntmps61
         go_wp2
         go_ret
         exact ⟨by first | rfl | (simp [errW_none, errW_some] <;> rfl) | (simp only [← hji4, ← hji5]; first | rfl | (simp [errW_none, errW_some] <;> rfl)) | (simp [*, errW_none, errW_some] <;> rfl), by repeat (first | (with_reducible first | exact HB.out | apply below_alloc | apply pw_below_drewN | apply below_drew1) | exact HB.out)⟩
       · rw [if_neg c9] at H
         have c9b0 : ((decide (a0 < 0)) != (decide (a1 < 0))) = false := by simpa using c9
         (try (have c9b1 : decide ((decide (a0 < 0)) = (decide (a1 < 0))) = true := by simpa using c9))
         (try (have c9b2 : ((decide (a0 < 0)) == (decide (a1 < 0))) = true := by simpa using c9))
         clear c9
         obtain rfl := Option.some.inj H
         go_enter Try.func61, Try.ntmps61
         go_wp2
         go_ret
         exact ⟨by first | rfl | (simp [errW_none, errW_some] <;> rfl) | (simp only [← hji4, ← hji5]; first | rfl | (simp [errW_none, errW_some] <;> rfl)) | (simp [*, errW_none, errW_some] <;> rfl), by repeat (first | (with_reducible first | exact HB.out | apply below_alloc | apply pw_below_drewN | apply below_drew1) | exact HB.out)⟩

/-! ### impl_ScaleRecipe: function 25 -/
def impl_ScaleRecipe.l0 : Nat → Int → Int → Int → ByteArray → List (S38) → Option (ByteArray × (List (S38)) × Int)
  | 0, _, _, _, _, _ => none
  | k + 1, x1, x27, x28, x195000, x195001 => if x28 < x27 then (if 0 ≤ x28 then (if x28 < (x195001.length : Int) then (if ((rd_T38 x195001 x28).f0) = 1 then ((impl_nearest.f (wrap64 (((rd_T38 x195001 x28).f2) * 100)) x1).bind fun t197 => (impl_ScaleRecipe.l0 k x1 x27 (wrap64 (x28 + 1)) x195000 (x195001.set (x28 : Int).toNat (⟨(rd_T38 x195001 x28).f0, (rd_T38 x195001 x28).f1, t197⟩ : S38)))) else (impl_ScaleRecipe.l0 k x1 x27 (wrap64 (x28 + 1)) x195000 x195001)) else (none)) else (none)) else ((impl_ValidRecipe.f k x195000 x195001).bind fun t199 => (if t199 = true then (some (x195000, x195001, 0)) else (some ((⟨#[]⟩ : ByteArray), ([] : List (S38)), 6))))
def impl_ScaleRecipe.f (k : Nat) (a0_0 : ByteArray) (l0_1 : List (S38)) (a1 : Int) : Option (ByteArray × (List (S38)) × Int) := (impl_ValidRecipe.f k a0_0 l0_1).bind fun t189 => (if t189 = true then ((impl_within.f a1 50 200).bind fun t190 => (if t190 = true then ((impl_Step_60.f l0_1).bind fun t191 => (impl_ScaleRecipe.l0 k a1 (t191.length : Int) 0 a0_0 t191)) else (some ((⟨#[]⟩ : ByteArray), ([] : List (S38)), 2)))) else (some ((⟨#[]⟩ : ByteArray), ([] : List (S38)), 1)))
theorem impl_ScaleRecipe.mono_l : ∀ k, (∀ y0 y1 y2 y3 y4, LeO (impl_ScaleRecipe.l0 k y0 y1 y2 y3 y4) (impl_ScaleRecipe.l0 (k + 1) y0 y1 y2 y3 y4))
  | 0 => fun _ _ _ _ _ r h => by simp [impl_ScaleRecipe.l0] at h
  | k + 1 => by
    have ih0 := impl_ScaleRecipe.mono_l k
    · intro y0 y1 y2 y3 y4
      unfold impl_ScaleRecipe.l0
      repeat' first
      | (with_reducible exact ih0 _ _ _ _ _)
      | (with_reducible exact impl_ValidRecipe.mono _ _ _)
      | (with_reducible exact LeO.refl _)
      | (with_reducible exact LeO.none _)
      | (with_reducible refine LeO.ite ?_ ?_)
      | (with_reducible refine LeO.bind ?_ (fun _ => ?_))
      | exact ih0 _ _ _ _ _
      | exact impl_ValidRecipe.mono _ _ _
      | exact LeO.none _
      | refine LeO.ite ?_ ?_
      | refine LeO.bind ?_ (fun _ => ?_)
theorem impl_ScaleRecipe.mono : ∀ a0 a1 a2 k, LeO (impl_ScaleRecipe.f k a0 a1 a2) (impl_ScaleRecipe.f (k + 1) a0 a1 a2) := by
  intro a0 a1 a2 k
  have ih0 := impl_ScaleRecipe.mono_l k
  unfold impl_ScaleRecipe.f
  repeat' first
      | (with_reducible exact ih0 _ _ _ _ _)
      | (with_reducible exact impl_ValidRecipe.mono _ _ _)
      | (with_reducible exact LeO.refl _)
      | (with_reducible exact LeO.none _)
      | (with_reducible refine LeO.ite ?_ ?_)
      | (with_reducible refine LeO.bind ?_ (fun _ => ?_))
      | exact ih0 _ _ _ _ _
      | exact impl_ValidRecipe.mono _ _ _
      | exact LeO.none _
      | refine LeO.ite ?_ ?_
      | refine LeO.bind ?_ (fun _ => ?_)
def impl_ScaleRecipe.T5 : Bool × List (List Nat × List Nat) := (true, [([], []), ([0], [0]), ([], []), ([2], [2]), ([3], [3]), ([1, 4], [1, 4]), ([], []), ([6, 5, 4, 0, 1, 2, 3, 4, 5, 6], [5, 6])])
def impl_ScaleRecipe.B5 : List Nat := [0, 1, 0, 4, 12, 31, 0, 127]
theorem impl_ScaleRecipe.tab5 : rtab .any (opsOf Try.f25 5) = impl_ScaleRecipe.T5 := by kernel_rfl
theorem impl_ScaleRecipe.bits5 : waitsOk impl_ScaleRecipe.T5.2 impl_ScaleRecipe.B5 = true := by kernel_rfl
def impl_ScaleRecipe.T10 : Bool × List (List Nat × List Nat) := (true, [([], []), ([0], [0]), ([], []), ([], []), ([3], [3]), ([4], [4]), ([], []), ([5, 6], [5, 6]), ([1, 2, 0, 1, 2, 3, 4, 5, 6, 7], [1, 2]), ([8, 0, 1, 2, 3, 4, 5, 6, 7], [8]), ([9, 7, 7, 0, 1, 2, 3, 4, 5, 6, 7], [7, 9])])
def impl_ScaleRecipe.B10 : List Nat := [0, 1, 0, 0, 8, 24, 0, 120, 255, 511, 1023]
theorem impl_ScaleRecipe.tab10 : rtab .any (opsOf Try.f25 10) = impl_ScaleRecipe.T10 := by kernel_rfl
theorem impl_ScaleRecipe.bits10 : waitsOk impl_ScaleRecipe.T10.2 impl_ScaleRecipe.B10 = true := by kernel_rfl
open List renaming setIfInBounds_toArray → sA, set_cons_zero → sB, set_cons_succ → sC
open Go.Proofs.YteijbdngbmciaaaW.PrintWords.Aside0 renaming mk → mkA
open Go.Proofs.YteijbdngbmciaaaX (dt_ bc_ p0_ p1_ bl_ cb_ bs0_ bs1_ bs2_ bs3_ bs4_ bs5_ bs6_ bs7_ bs8_ bs9_ bs10_ bs11_ bs12_)
abbrev impl_ScaleRecipe.d0 : Array Bool := #[false, false, false, false, false, false, false, false, false, false, false]
abbrev impl_ScaleRecipe.d1 : Array Bool := #[true, false, false, false, false, false, false, false, false, false, false]
abbrev impl_ScaleRecipe.d2 : Array Bool := #[true, false, true, false, false, false, false, false, false, false, false]
abbrev impl_ScaleRecipe.d3 : Array Bool := #[true, false, true, true, false, false, false, false, false, false, false]
abbrev impl_ScaleRecipe.d4 : Array Bool := #[true, false, true, true, false, false, true, false, false, false, false]
abbrev impl_ScaleRecipe.d5 : Array Bool := #[true, true, true, true, false, false, true, false, false, false, false]
abbrev impl_ScaleRecipe.d6 : Array Bool := #[true, true, true, true, true, false, true, false, false, false, false]
abbrev impl_ScaleRecipe.d7 : Array Bool := #[true, true, true, true, true, true, true, false, false, false, false]
abbrev impl_ScaleRecipe.d8 : Array Bool := #[true, true, true, true, true, true, true, true, false, false, false]
abbrev impl_ScaleRecipe.d9 : Array Bool := #[true, true, true, true, true, true, true, true, true, false, false]
abbrev impl_ScaleRecipe.d10 : Array Bool := #[true, true, true, true, true, true, true, true, true, true, false]
abbrev impl_ScaleRecipe.d11 : Array Bool := #[true, true, true, true, true, true, true, true, true, true, true]
set_option maxHeartbeats 8000000 in
set_option maxRecDepth 100000 in
theorem impl_ScaleRecipe.calls (k : Nat) (a0_0 : ByteArray) (A0_1 : Option Addr) (c0_1 : Nat) (l0_1 : List (S38)) (a1 : Int) (r1 : ByteArray) (r2 : List (S38)) (r3 : Int) (w : World) (hr0_1 : Kd.C k38 w A0_1 l0_1.length l0_1) (hc0_1 : l0_1.length ≤ c0_1) (h : impl_ScaleRecipe.f k a0_0 l0_1 a1 = some (r1, r2, r3)) :
 Calls Try.prog 25 #[.agg #[.string a0_0, .slice A0_1 l0_1.length c0_1], .int .i64 a1] w fun e w' => ∃ v1_ : Value, e = .returned (.tuple #[.agg #[.string r1, v1_], .int .i64 r3]) ∧ Kd.R k38 38 w' w.heap.size (fun _ => True) v1_ r2 ∧ Below w.heap.size w w' := by
 have hu29 := Try.underlying29
 have hu38 := Try.underlying38
 have HR0_1 := mkA hr0_1
 have HC0_1 := mkA hc0_1
 clear hr0_1 hc0_1
 have HB := mkA (Below.refl w.heap.size w)
 have H : ((impl_ValidRecipe.f k a0_0 l0_1).bind fun t189 => (if t189 = true then ((impl_within.f a1 50 200).bind fun t190 => (if t190 = true then ((impl_Step_60.f l0_1).bind fun t191 => (impl_ScaleRecipe.l0 k a1 (t191.length : Int) 0 a0_0 t191)) else (some ((⟨#[]⟩ : ByteArray), ([] : List (S38)), 2)))) else (some ((⟨#[]⟩ : ByteArray), ([] : List (S38)), 1)))) = some (r1, r2, r3) := h
 clear h
 replace H := Option.bind_eq_some_iff.mp H
 obtain ⟨t189, A30, H⟩ := H
 replace H : (if t189 = true then ((impl_within.f a1 50 200).bind fun t190 => (if t190 = true then ((impl_Step_60.f l0_1).bind fun t191 => (impl_ScaleRecipe.l0 k a1 (t191.length : Int) 0 a0_0 t191)) else (some ((⟨#[]⟩ : ByteArray), ([] : List (S38)), 2)))) else (some ((⟨#[]⟩ : ByteArray), ([] : List (S38)), 1))) = some (r1, r2, r3) := H
 have A3 := mkA A30
 clear A30
 by_cases c4 : t189 = true
 rotate_left
 · replace c4 := Bool.eq_false_iff.mpr c4
   subst c4
   have H1 : (some ((⟨#[]⟩ : ByteArray), ([] : List (S38)), 1)) = some (r1, r2, r3) := by rw [if_neg (show ¬ (false = true) by decide)] at H; exact H
   clear H
   have H := H1
   clear H1
   simp only [Option.some.injEq, Prod.mk.injEq] at H
   obtain ⟨rfl, rfl, rfl⟩ := H
   go_enter Try.func25, Try.ntmps25
   go_wp2_with (first | ((with_reducible refine gate_dst (N := 2) rfl ?_); refine box_event ?hg (N := 2) ?hd (cs := #[.string a0_0, .slice A0_1 l0_1.length c0_1]) (t := 29) ?hr ?_; (case hd => rfl); (case hg => rfl); (case hr => first | (go_simp; done) | (go_simp; rfl)); intro gb187 hg w69 hbox hb; have n0_ := mkA (below_step (bs0_ HB.out) hb); have n1_ := mkA (hbox); have n2_ := mkA ((by rw [hg]; exact (below_size (bs0_ HB.out)) : w.heap.size ≤ gb187)); have n3_ := mkA ((by rw [hg]; exact (below_size (bs0_ HB.out)) : w.heap.size ≤ gb187)); clear HB; have HB := n0_; have BK187 := n1_; have GW187 := n2_; have GE187 := n3_; clear n0_ n1_ n2_ n3_; clear hb hbox hg) | ((with_reducible refine gate_dst (N := 4) rfl ?_); refine box_event ?hg (N := 4) ?hd (cs := #[.string (⟨#[]⟩ : ByteArray), .slice none 0 0]) (t := 29) ?hr ?_; (case hd => rfl); (case hg => rfl); (case hr => first | (go_simp; done) | (go_simp; rfl)); intro gb188 hg w70 hbox hb; have n0_ := mkA (blk_below (g := gb187) (o := .cells #[.string a0_0, .slice A0_1 l0_1.length c0_1] 29 (0, 0)) (bl_ BK187.out) hb); have n1_ := mkA (below_step (bs1_ HB.out GE187.out) hb); have n2_ := mkA (hbox); have n3_ := mkA ((by rw [hg]; exact (below_size (bs1_ HB.out GE187.out)) : w.heap.size ≤ gb188)); have n4_ := mkA ((by rw [hg]; exact (below_size (bs1_ HB.out GE187.out)) : w.heap.size ≤ gb188)); have n5_ := mkA ((by rw [hg]; exact Nat.ne_of_lt (blk_lt (g := gb187) (o := .cells #[.string a0_0, .slice A0_1 l0_1.length c0_1] 29 (0, 0)) (bl_ BK187.out)) : gb187 ≠ gb188)); have n6_ := mkA ((by rw [hg]; exact Nat.ne_of_gt (blk_lt (g := gb187) (o := .cells #[.string a0_0, .slice A0_1 l0_1.length c0_1] 29 (0, 0)) (bl_ BK187.out)) : gb188 ≠ gb187)); clear BK187; clear HB; have BK187 := n0_; have HB := n1_; have BK188 := n2_; have GW188 := n3_; have GE188 := n4_; have NB187_188 := n5_; have NB188_187 := n6_; clear n0_ n1_ n2_ n3_ n4_ n5_ n6_; clear hb hbox hg; have hnb71 := NB187_188.out; have hnc71 := NB188_187.out; have hcz72_0 : w70.cell? ⟨gb187, 0, none⟩ = some (.string a0_0) := (blk_cell BK187.out 0).trans rfl; have hcz72_1 : w70.cell? ⟨gb187, 1, none⟩ = some (.slice A0_1 l0_1.length c0_1) := (blk_cell BK187.out 1).trans rfl; have hfz72_0 := blk_frozen BK187.out 0; have hfz72_1 := blk_frozen BK187.out 1) | ((with_reducible refine gate_callee (f := 12) rfl ?_); refine goesL_ (some 11) rfl rfl Try.func12 (by kernel_rfl) rfl #[.agg #[.string a0_0, .slice A0_1 l0_1.length c0_1]] rfl (by (try simp only [List.map_toArray, List.map_cons, List.map_nil]); first | done | rfl | (simp only [List.length_drop, List.length_take]; rfl)) ?_; (with_reducible refine (impl_ValidRecipe.calls k a0_0 _ _ l0_1 false _ ?side1 ?side2 A3.out).mono ?_); (case side1 => exact cb_ HR0_1.out HB.out); (case side2 => exact HC0_1.out); rintro e w73 ⟨rfl, hb⟩; refine ⟨_, rfl, ?_⟩; have n0_ := mkA (blk_below (g := gb187) (o := .cells #[.string a0_0, .slice A0_1 l0_1.length c0_1] 29 (0, 0)) (bl_ BK187.out) hb); have n1_ := mkA (blk_below (g := gb188) (o := .cells #[.string (⟨#[]⟩ : ByteArray), .slice none 0 0] 29 (0, 0)) (bl_ BK188.out) hb); have n2_ := mkA (below_step (bs2_ HB.out GE187.out GE188.out) hb); clear BK187; clear BK188; clear HB; have BK187 := n0_; have BK188 := n1_; have HB := n2_; clear n0_ n1_ n2_; (try clear hb); (try clear hb2); (try clear hk); (try clear hi); have hcz74_0 : w73.cell? ⟨gb188, 0, none⟩ = some (.string (⟨#[]⟩ : ByteArray)) := (blk_cell BK188.out 0).trans rfl; have hcz74_1 : w73.cell? ⟨gb188, 1, none⟩ = some (.slice none 0 0) := (blk_cell BK188.out 1).trans rfl; have hfz74_0 := blk_frozen BK188.out 0; have hfz74_1 := blk_frozen BK188.out 1))
   refine bodyPost_ret (results_ct rfl _ _ gb188 29 #[.string (⟨#[]⟩ : ByteArray), .slice none 0 0] (0, 0) _ rfl (by (with_reducible repeat (first | refine blk_drewN ?_ _ | refine blk_drew ?_ | refine blk_alloc ?_ _)); refine blk_put (cs := #[.string (⟨#[]⟩ : ByteArray), .slice none 0 0]) ?_ 1 _ rfl; (with_reducible repeat (first | refine blk_drewN ?_ _ | refine blk_drew ?_ | refine blk_alloc ?_ _)); refine blk_put (cs := #[.string (⟨#[]⟩ : ByteArray), .slice none 0 0]) ?_ 0 _ rfl; (with_reducible repeat (first | refine blk_drewN ?_ _ | refine blk_drew ?_ | refine blk_alloc ?_ _)); exact BK188.out) Try.underlying29 rfl (by kernel_rfl)) rfl ?_
   exact ⟨_, by first | rfl | (simp [errW_none, errW_some] <;> rfl) | (simp [*, errW_none, errW_some] <;> rfl), by first | exact Kd.R_nil _ _ _ _ _ | exact Kd.N_nil _ _ _ _ _ | exact Kd.V_nil _ _ _ _ _ | exact Kd.Q_nil _ _ _ _ _ | exact Kd.S_nil _ _ _ _ _, by repeat (first | (with_reducible first | exact HB.out | apply below_alloc | apply pw_below_drewN | apply below_drew1 | refine below_set ?_ GE187.out | refine below_set ?_ GE188.out) | exact HB.out)⟩

 subst c4
 have H1 : ((impl_within.f a1 50 200).bind fun t190 => (if t190 = true then ((impl_Step_60.f l0_1).bind fun t191 => (impl_ScaleRecipe.l0 k a1 (t191.length : Int) 0 a0_0 t191)) else (some ((⟨#[]⟩ : ByteArray), ([] : List (S38)), 2)))) = some (r1, r2, r3) := by rw [if_pos rfl] at H; exact H
 clear H
 have H := H1
 clear H1
 replace H := Option.bind_eq_some_iff.mp H
 obtain ⟨t190, A50, H⟩ := H
 replace H : (if t190 = true then ((impl_Step_60.f l0_1).bind fun t191 => (impl_ScaleRecipe.l0 k a1 (t191.length : Int) 0 a0_0 t191)) else (some ((⟨#[]⟩ : ByteArray), ([] : List (S38)), 2))) = some (r1, r2, r3) := H
 have A5 := mkA A50
 clear A50
 by_cases c6 : t190 = true
 rotate_left
 · replace c6 := Bool.eq_false_iff.mpr c6
   subst c6
   have H1 : (some ((⟨#[]⟩ : ByteArray), ([] : List (S38)), 2)) = some (r1, r2, r3) := by rw [if_neg (show ¬ (false = true) by decide)] at H; exact H
   clear H
   have H := H1
   clear H1
   simp only [Option.some.injEq, Prod.mk.injEq] at H
   obtain ⟨rfl, rfl, rfl⟩ := H
   go_enter Try.func25, Try.ntmps25
   go_wp2_with (first | ((with_reducible refine gate_dst (N := 2) rfl ?_); refine box_event ?hg (N := 2) ?hd (cs := #[.string a0_0, .slice A0_1 l0_1.length c0_1]) (t := 29) ?hr ?_; (case hd => rfl); (case hg => rfl); (case hr => first | (go_simp; done) | (go_simp; rfl)); intro gb187 hg w63 hbox hb; have n0_ := mkA (below_step (bs0_ HB.out) hb); have n1_ := mkA (hbox); have n2_ := mkA ((by rw [hg]; exact (below_size (bs0_ HB.out)) : w.heap.size ≤ gb187)); have n3_ := mkA ((by rw [hg]; exact (below_size (bs0_ HB.out)) : w.heap.size ≤ gb187)); clear HB; have HB := n0_; have BK187 := n1_; have GW187 := n2_; have GE187 := n3_; clear n0_ n1_ n2_ n3_; clear hb hbox hg) | ((with_reducible refine gate_dst (N := 4) rfl ?_); refine box_event ?hg (N := 4) ?hd (cs := #[.string (⟨#[]⟩ : ByteArray), .slice none 0 0]) (t := 29) ?hr ?_; (case hd => rfl); (case hg => rfl); (case hr => first | (go_simp; done) | (go_simp; rfl)); intro gb188 hg w64 hbox hb; have n0_ := mkA (blk_below (g := gb187) (o := .cells #[.string a0_0, .slice A0_1 l0_1.length c0_1] 29 (0, 0)) (bl_ BK187.out) hb); have n1_ := mkA (below_step (bs1_ HB.out GE187.out) hb); have n2_ := mkA (hbox); have n3_ := mkA ((by rw [hg]; exact (below_size (bs1_ HB.out GE187.out)) : w.heap.size ≤ gb188)); have n4_ := mkA ((by rw [hg]; exact (below_size (bs1_ HB.out GE187.out)) : w.heap.size ≤ gb188)); have n5_ := mkA ((by rw [hg]; exact Nat.ne_of_lt (blk_lt (g := gb187) (o := .cells #[.string a0_0, .slice A0_1 l0_1.length c0_1] 29 (0, 0)) (bl_ BK187.out)) : gb187 ≠ gb188)); have n6_ := mkA ((by rw [hg]; exact Nat.ne_of_gt (blk_lt (g := gb187) (o := .cells #[.string a0_0, .slice A0_1 l0_1.length c0_1] 29 (0, 0)) (bl_ BK187.out)) : gb188 ≠ gb187)); clear BK187; clear HB; have BK187 := n0_; have HB := n1_; have BK188 := n2_; have GW188 := n3_; have GE188 := n4_; have NB187_188 := n5_; have NB188_187 := n6_; clear n0_ n1_ n2_ n3_ n4_ n5_ n6_; clear hb hbox hg; have hnb65 := NB187_188.out; have hnc65 := NB188_187.out; have hcz66_0 : w64.cell? ⟨gb187, 0, none⟩ = some (.string a0_0) := (blk_cell BK187.out 0).trans rfl; have hcz66_1 : w64.cell? ⟨gb187, 1, none⟩ = some (.slice A0_1 l0_1.length c0_1) := (blk_cell BK187.out 1).trans rfl; have hfz66_0 := blk_frozen BK187.out 0; have hfz66_1 := blk_frozen BK187.out 1) | ((with_reducible refine gate_callee (f := 12) rfl ?_); refine goesL_ (some 11) rfl rfl Try.func12 (by kernel_rfl) rfl #[.agg #[.string a0_0, .slice A0_1 l0_1.length c0_1]] rfl (by (try simp only [List.map_toArray, List.map_cons, List.map_nil]); first | done | rfl | (simp only [List.length_drop, List.length_take]; rfl)) ?_; (with_reducible refine (impl_ValidRecipe.calls k a0_0 _ _ l0_1 true _ ?side1 ?side2 A3.out).mono ?_); (case side1 => exact cb_ HR0_1.out HB.out); (case side2 => exact HC0_1.out); rintro e w67 ⟨rfl, hb⟩; refine ⟨_, rfl, ?_⟩; have n0_ := mkA (blk_below (g := gb187) (o := .cells #[.string a0_0, .slice A0_1 l0_1.length c0_1] 29 (0, 0)) (bl_ BK187.out) hb); have n1_ := mkA (blk_below (g := gb188) (o := .cells #[.string (⟨#[]⟩ : ByteArray), .slice none 0 0] 29 (0, 0)) (bl_ BK188.out) hb); have n2_ := mkA (below_step (bs2_ HB.out GE187.out GE188.out) hb); clear BK187; clear BK188; clear HB; have BK187 := n0_; have BK188 := n1_; have HB := n2_; clear n0_ n1_ n2_; (try clear hb); (try clear hb2); (try clear hk); (try clear hi)) | ((with_reducible refine gate_callee (f := 59) rfl ?_); refine goesL_ (some 16) rfl rfl Try.func59 (by kernel_rfl) rfl #[.int .i64 a1, .int .i64 50, .int .i64 200] rfl (by (try simp only [List.map_toArray, List.map_cons, List.map_nil]); first | done | rfl | (simp only [List.length_drop, List.length_take]; rfl)) ?_; (with_reducible refine (impl_within.calls a1 50 200 false _ A5.out).mono ?_); rintro e w' ⟨rfl, ⟨nd, rfl⟩⟩; refine ⟨_, rfl, ?_⟩; (try (rw [drewN_self w67]; generalize hq_ : World.drewN w67 _ = w67; have n0_ : Aside0 (w67.heap[gb187]? = some (.cells #[.string a0_0, .slice A0_1 l0_1.length c0_1] 29 (0, 0))) := ⟨by rw [← hq_]; exact (bl_ BK187.out)⟩; have n1_ : Aside0 (w67.heap[gb188]? = some (.cells #[.string (⟨#[]⟩ : ByteArray), .slice none 0 0] 29 (0, 0))) := ⟨by rw [← hq_]; exact (bl_ BK188.out)⟩; have n2_ : Aside0 (Below w.heap.size w w67) := ⟨by rw [← hq_]; exact (bs2_ HB.out GE187.out GE188.out)⟩; clear BK187 BK188 HB hq_; have BK187 := n0_; have BK188 := n1_; have HB := n2_; clear n0_ n1_ n2_)); have hcz68_0 : w67.cell? ⟨gb188, 0, none⟩ = some (.string (⟨#[]⟩ : ByteArray)) := (blk_cell BK188.out 0).trans rfl; have hcz68_1 : w67.cell? ⟨gb188, 1, none⟩ = some (.slice none 0 0) := (blk_cell BK188.out 1).trans rfl; have hfz68_0 := blk_frozen BK188.out 0; have hfz68_1 := blk_frozen BK188.out 1))
   refine bodyPost_ret (results_ct rfl _ _ gb188 29 #[.string (⟨#[]⟩ : ByteArray), .slice none 0 0] (0, 0) _ rfl (by (with_reducible repeat (first | refine blk_drewN ?_ _ | refine blk_drew ?_ | refine blk_alloc ?_ _)); refine blk_put (cs := #[.string (⟨#[]⟩ : ByteArray), .slice none 0 0]) ?_ 1 _ rfl; (with_reducible repeat (first | refine blk_drewN ?_ _ | refine blk_drew ?_ | refine blk_alloc ?_ _)); refine blk_put (cs := #[.string (⟨#[]⟩ : ByteArray), .slice none 0 0]) ?_ 0 _ rfl; (with_reducible repeat (first | refine blk_drewN ?_ _ | refine blk_drew ?_ | refine blk_alloc ?_ _)); exact BK188.out) Try.underlying29 rfl (by kernel_rfl)) rfl ?_
   exact ⟨_, by first | rfl | (simp [errW_none, errW_some] <;> rfl) | (simp [*, errW_none, errW_some] <;> rfl), by first | exact Kd.R_nil _ _ _ _ _ | exact Kd.N_nil _ _ _ _ _ | exact Kd.V_nil _ _ _ _ _ | exact Kd.Q_nil _ _ _ _ _ | exact Kd.S_nil _ _ _ _ _, by repeat (first | (with_reducible first | exact HB.out | apply below_alloc | apply pw_below_drewN | apply below_drew1 | refine below_set ?_ GE187.out | refine below_set ?_ GE188.out) | exact HB.out)⟩
 subst c6
 have H1 : ((impl_Step_60.f l0_1).bind fun t191 => (impl_ScaleRecipe.l0 k a1 (t191.length : Int) 0 a0_0 t191)) = some (r1, r2, r3) := by rw [if_pos rfl] at H; exact H
 clear H
 have H := H1
 clear H1
 replace H := Option.bind_eq_some_iff.mp H
 obtain ⟨t191, A70, H⟩ := H
 replace H : (impl_ScaleRecipe.l0 k a1 (t191.length : Int) 0 a0_0 t191) = some (r1, r2, r3) := H
 have A7 := mkA A70
 clear A70
 have H' := mkA H
 clear H
 go_enter Try.func25, Try.ntmps25
 try go_wp2_with (first | ((with_reducible refine gate_dst (N := 2) rfl ?_); refine box_event ?hg (N := 2) ?hd (cs := #[.string a0_0, .slice A0_1 l0_1.length c0_1]) (t := 29) ?hr ?_; (case hd => rfl); (case hg => rfl); (case hr => first | (go_simp; done) | (go_simp; rfl)); intro gb187 hg w8 hbox hb; have n0_ := mkA (below_step (bs0_ HB.out) hb); have n1_ := mkA (hbox); have n2_ := mkA ((by rw [hg]; exact (below_size (bs0_ HB.out)) : w.heap.size ≤ gb187)); have n3_ := mkA ((by rw [hg]; exact (below_size (bs0_ HB.out)) : w.heap.size ≤ gb187)); clear HB; have HB := n0_; have BK187 := n1_; have GW187 := n2_; have GE187 := n3_; clear n0_ n1_ n2_ n3_; clear hb hbox hg) | ((with_reducible refine gate_dst (N := 4) rfl ?_); refine box_event ?hg (N := 4) ?hd (cs := #[.string (⟨#[]⟩ : ByteArray), .slice none 0 0]) (t := 29) ?hr ?_; (case hd => rfl); (case hg => rfl); (case hr => first | (go_simp; done) | (go_simp; rfl)); intro gb188 hg w9 hbox hb; have n0_ := mkA (blk_below (g := gb187) (o := .cells #[.string a0_0, .slice A0_1 l0_1.length c0_1] 29 (0, 0)) (bl_ BK187.out) hb); have n1_ := mkA (below_step (bs1_ HB.out GE187.out) hb); have n2_ := mkA (hbox); have n3_ := mkA ((by rw [hg]; exact (below_size (bs1_ HB.out GE187.out)) : w.heap.size ≤ gb188)); have n4_ := mkA ((by rw [hg]; exact (below_size (bs1_ HB.out GE187.out)) : w.heap.size ≤ gb188)); have n5_ := mkA ((by rw [hg]; exact Nat.ne_of_lt (blk_lt (g := gb187) (o := .cells #[.string a0_0, .slice A0_1 l0_1.length c0_1] 29 (0, 0)) (bl_ BK187.out)) : gb187 ≠ gb188)); have n6_ := mkA ((by rw [hg]; exact Nat.ne_of_gt (blk_lt (g := gb187) (o := .cells #[.string a0_0, .slice A0_1 l0_1.length c0_1] 29 (0, 0)) (bl_ BK187.out)) : gb188 ≠ gb187)); clear BK187; clear HB; have BK187 := n0_; have HB := n1_; have BK188 := n2_; have GW188 := n3_; have GE188 := n4_; have NB187_188 := n5_; have NB188_187 := n6_; clear n0_ n1_ n2_ n3_ n4_ n5_ n6_; clear hb hbox hg; have hnb10 := NB187_188.out; have hnc10 := NB188_187.out; have hcz11_0 : w9.cell? ⟨gb187, 0, none⟩ = some (.string a0_0) := (blk_cell BK187.out 0).trans rfl; have hcz11_1 : w9.cell? ⟨gb187, 1, none⟩ = some (.slice A0_1 l0_1.length c0_1) := (blk_cell BK187.out 1).trans rfl; have hfz11_0 := blk_frozen BK187.out 0; have hfz11_1 := blk_frozen BK187.out 1) | ((with_reducible refine gate_callee (f := 12) rfl ?_); refine goesL_ (some 11) rfl rfl Try.func12 (by kernel_rfl) rfl #[.agg #[.string a0_0, .slice A0_1 l0_1.length c0_1]] rfl (by (try simp only [List.map_toArray, List.map_cons, List.map_nil]); first | done | rfl | (simp only [List.length_drop, List.length_take]; rfl)) ?_; (with_reducible refine (impl_ValidRecipe.calls k a0_0 _ _ l0_1 true _ ?side1 ?side2 A3.out).mono ?_); (case side1 => exact cb_ HR0_1.out HB.out); (case side2 => exact HC0_1.out); rintro e w12 ⟨rfl, hb⟩; refine ⟨_, rfl, ?_⟩; have n0_ := mkA (blk_below (g := gb187) (o := .cells #[.string a0_0, .slice A0_1 l0_1.length c0_1] 29 (0, 0)) (bl_ BK187.out) hb); have n1_ := mkA (blk_below (g := gb188) (o := .cells #[.string (⟨#[]⟩ : ByteArray), .slice none 0 0] 29 (0, 0)) (bl_ BK188.out) hb); have n2_ := mkA (below_step (bs2_ HB.out GE187.out GE188.out) hb); clear BK187; clear BK188; clear HB; have BK187 := n0_; have BK188 := n1_; have HB := n2_; clear n0_ n1_ n2_; (try clear hb); (try clear hb2); (try clear hk); (try clear hi)) | ((with_reducible refine gate_callee (f := 59) rfl ?_); refine goesL_ (some 16) rfl rfl Try.func59 (by kernel_rfl) rfl #[.int .i64 a1, .int .i64 50, .int .i64 200] rfl (by (try simp only [List.map_toArray, List.map_cons, List.map_nil]); first | done | rfl | (simp only [List.length_drop, List.length_take]; rfl)) ?_; (with_reducible refine (impl_within.calls a1 50 200 true _ A5.out).mono ?_); rintro e w' ⟨rfl, ⟨nd, rfl⟩⟩; refine ⟨_, rfl, ?_⟩; (try (rw [drewN_self w12]; generalize hq_ : World.drewN w12 _ = w12; have n0_ : Aside0 (w12.heap[gb187]? = some (.cells #[.string a0_0, .slice A0_1 l0_1.length c0_1] 29 (0, 0))) := ⟨by rw [← hq_]; exact (bl_ BK187.out)⟩; have n1_ : Aside0 (w12.heap[gb188]? = some (.cells #[.string (⟨#[]⟩ : ByteArray), .slice none 0 0] 29 (0, 0))) := ⟨by rw [← hq_]; exact (bl_ BK188.out)⟩; have n2_ : Aside0 (Below w.heap.size w w12) := ⟨by rw [← hq_]; exact (bs2_ HB.out GE187.out GE188.out)⟩; clear BK187 BK188 HB hq_; have BK187 := n0_; have BK188 := n1_; have HB := n2_; clear n0_ n1_ n2_))))
 have n0_ := mkA (blk_drew BK187.out)
 have n1_ := mkA (blk_drew BK188.out)
 have n2_ := mkA (below_drew1 HB.out)
 clear BK187
 clear BK188
 clear HB
 have BK187 := n0_
 have BK188 := n1_
 have HB := n2_
 clear n0_ n1_ n2_
 refine start_ (n := 8) (S := fun w' => w'.cell? ⟨gb187, 0, none⟩ = some (.string a0_0) ∧ w'.cell? ⟨gb187, 1, none⟩ = some (.slice A0_1 l0_1.length c0_1)) (ds := []) #[false, false, false, false, false, false, false, false] (by kernel_rfl) rfl rfl ⟨(blk_cell BK187.out 0).trans rfl, (blk_cell BK187.out 1).trans rfl⟩ (fun hHeld => ?_); refine with_tabW impl_ScaleRecipe.tab5 impl_ScaleRecipe.bits5 (fun HT_ HW_ => ?_)
 generalize w12.drew = w13 at BK187 BK188 HB hHeld ⊢
 refine pure_ (i := 0) (N := some 19) (v := ?_) (a' := ?_) #[true, false, false, false, false, false, false, false] rfl rfl (any_of HT_.out (by kernel_rfl)) (fun _ _ _ h => h) (Or.inl ⟨by rfl, ?_⟩) ?_ ?_
 rotate_left
 · intro w'
   go_simp
   with_reducible rfl
 rotate_left
 · simp only [Act.put, sA, sB, sC, i64_w, i32_w]
   rfl
 refine pure_ (i := 2) (N := some 21) (v := ?_) (a' := ?_) #[true, false, true, false, false, false, false, false] rfl rfl (any_of HT_.out (by kernel_rfl)) (fun _ _ _ h => h) (Or.inl ⟨by rfl, ?_⟩) ?_ ?_
 rotate_left
 · intro w'
   go_simp
   with_reducible rfl
 rotate_left
 · simp only [Act.put, sA, sB, sC, i64_w, i32_w]
   rfl
 refine take_ (i := 1) (N := some 20) (v := ?_) (a' := ?_) #[true, true, true, false, false, false, false, false] rfl rfl (take_ofW HT_.out HW_.out (by kernel_rfl)) (fun _ _ _ h => h) (Or.inl ⟨by rfl, ?_⟩) hHeld ?_ ?_
 rotate_left
 · rintro w' ⟨s0, s1⟩
   go_simp
   with_reducible rfl
 rotate_left
 · simp only [Act.put, sA, sB, sC, i64_w, i32_w]
   rfl
 refine take_ (i := 3) (N := some 22) (v := ?_) (a' := ?_) #[true, true, true, true, false, false, false, false] rfl rfl (take_ofW HT_.out HW_.out (by kernel_rfl)) (fun _ _ _ h => h) (Or.inl ⟨by rfl, ?_⟩) hHeld ?_ ?_
 rotate_left
 · rintro w' ⟨s0, s1⟩
   go_simp
   with_reducible rfl
 rotate_left
 · simp only [Act.put, sA, sB, sC, i64_w, i32_w]
   rfl
 refine join_ (σ := Value × Nat) 1 #[true, true, true, true, true, true, true, false] (fun s_ => [(23, s_.1), (6, .pointer (some ⟨s_.2, 0, none⟩)), (24, .agg #[.string a0_0, s_.1])]) (fun s_ w' => (w'.cell? ⟨gb187, 0, none⟩ = some (.string a0_0) ∧ w'.cell? ⟨gb187, 1, none⟩ = some (.slice A0_1 l0_1.length c0_1)) ∧ (Kd.R k38 38 w' w.heap.size (fun _ => True) s_.1 t191) ∧ (w'.heap[gb187]? = some (.cells #[.string a0_0, .slice A0_1 l0_1.length c0_1] 29 (0, 0))) ∧ (w'.heap[gb188]? = some (.cells #[.string (⟨#[]⟩ : ByteArray), .slice none 0 0] 29 (0, 0))) ∧ (w'.heap[s_.2]? = some (.cells #[.string (⟨#[]⟩ : ByteArray), .slice none 0 0] 29 (0, 0))) ∧ (w.heap.size ≤ s_.2) ∧ (w.heap.size ≤ s_.2) ∧ (gb187 ≠ s_.2) ∧ (s_.2 ≠ gb187) ∧ (gb188 ≠ s_.2) ∧ (s_.2 ≠ gb188) ∧ (Below w.heap.size w w')) ?_ ?_
 rotate_left
 · intro hCont
   refine two_ (i := 4) (j := 6) (Ni := some 23) (Nj := some 6) #[true, true, true, true, true, false, false, false] #[true, true, true, true, false, false, true, false] rfl rfl rfl rfl (two_of HT_.out (by kernel_rfl)) (by decide) (by decide) (fun K hK => ?_) (fun K hK => ?_)
   · skip
     refine goes_ Try.func60 (by kernel_rfl) rfl #[.slice A0_1 l0_1.length c0_1] (by rfl) rfl rfl (by (try simp only [List.map_toArray, List.map_cons, List.map_nil]); first | done | rfl | (simp only [List.length_drop, List.length_take]; rfl)) ?_
     with_reducible refine (impl_Step_60.calls _ _ l0_1 t191 _ ?side1 ?side2 A7.out).mono ?_
     (case side1 => exact cb_ HR0_1.out HB.out)
     (case side2 => exact HC0_1.out)
     rintro e w14 ⟨v192, rfl, ho0, hb⟩
     refine ⟨_, rfl, ?_⟩
     have n0_ := mkA (Kd.R_lower ho0 (below_size (bs2_ HB.out GE187.out GE188.out)))
     have n1_ := mkA (blk_below (g := gb187) (o := .cells #[.string a0_0, .slice A0_1 l0_1.length c0_1] 29 (0, 0)) (bl_ BK187.out) hb)
     have n2_ := mkA (blk_below (g := gb188) (o := .cells #[.string (⟨#[]⟩ : ByteArray), .slice none 0 0] 29 (0, 0)) (bl_ BK188.out) hb)
     have n3_ := mkA (below_step (bs2_ HB.out GE187.out GE188.out) hb)
     clear BK187
     clear BK188
     clear HB
     have HO193 := n0_
     have BK187 := n1_
     have BK188 := n2_
     have HB := n3_
     clear n0_ n1_ n2_ n3_
     (try clear hb)
     (try clear hb2)
     (try clear hk)
     (try clear hi)
     (try clear ho0)
     obtain ⟨Ao15, co15, eo15⟩ := Kd.R_slice HO193.out
     (first | subst eo15 | (injection eo15 with f1_ f2_ f3_; have f4_ := f1_.symm; have f5_ := f3_.symm; clear f1_ f2_ f3_; subst f4_; subst f5_))
     refine hK.out _ _ ⟨(blk_cell BK187.out 0).trans rfl, (blk_cell BK187.out 1).trans rfl⟩ (fun hHeld => ?_)
     clear hK K
     refine norm_ (a' := ?_) ?_ ?_
     rotate_left
     · show Act.put _ (some 23) _ = _
       simp only [Act.put, sA, sB, sC, i64_w, i32_w]
       rfl
     refine pure_ (i := 5) (N := some 24) (v := ?_) (a' := ?_) #[true, true, true, true, true, true, false, false] rfl rfl (any_of HT_.out (by kernel_rfl)) (fun _ _ _ h => h) (Or.inl ⟨by rfl, ?_⟩) ?_ ?_
     rotate_left
     · intro w'
       go_simp
       with_reducible rfl
     rotate_left
     · simp only [Act.put, sA, sB, sC, i64_w, i32_w]
       rfl
     refine one_ (i := 6) (N := some 6) #[true, true, true, true, true, true, true, false] rfl rfl (one_of HT_.out (by kernel_rfl)) (by decide) (fun K hK => ?_)
     refine box_step ?hg (N := 6) ?hd (cs := #[.string (⟨#[]⟩ : ByteArray), .slice none 0 0]) (t := 29) ?hr ?_; (case hd => rfl); (case hg => rfl); (case hr => first | (go_simp; done) | (go_simp; rfl))
     intro gb194 hg w16 hbox hb
     have n0_ := mkA (Kd.R_below (by (with_reducible repeat (first | apply Kd.R_alloc | apply Kd.R_drewN | apply Kd.R_drew)); exact HO193.out) hb)
     have n1_ := mkA (blk_below (g := gb187) (o := .cells #[.string a0_0, .slice A0_1 l0_1.length c0_1] 29 (0, 0)) (bl_ BK187.out) hb)
     have n2_ := mkA (blk_below (g := gb188) (o := .cells #[.string (⟨#[]⟩ : ByteArray), .slice none 0 0] 29 (0, 0)) (bl_ BK188.out) hb)
     have n3_ := mkA (below_step (bs2_ HB.out GE187.out GE188.out) hb)
     have n4_ := mkA (hbox)
     have n5_ := mkA ((by rw [hg]; exact (below_size (bs2_ HB.out GE187.out GE188.out)) : w.heap.size ≤ gb194))
     have n6_ := mkA ((by rw [hg]; exact (below_size (bs2_ HB.out GE187.out GE188.out)) : w.heap.size ≤ gb194))
     have n7_ := mkA ((by rw [hg]; exact Nat.ne_of_lt (blk_lt (g := gb187) (o := .cells #[.string a0_0, .slice A0_1 l0_1.length c0_1] 29 (0, 0)) (bl_ BK187.out)) : gb187 ≠ gb194))
     have n8_ := mkA ((by rw [hg]; exact Nat.ne_of_gt (blk_lt (g := gb187) (o := .cells #[.string a0_0, .slice A0_1 l0_1.length c0_1] 29 (0, 0)) (bl_ BK187.out)) : gb194 ≠ gb187))
     have n9_ := mkA ((by rw [hg]; exact Nat.ne_of_lt (blk_lt (g := gb188) (o := .cells #[.string (⟨#[]⟩ : ByteArray), .slice none 0 0] 29 (0, 0)) (bl_ BK188.out)) : gb188 ≠ gb194))
     have n10_ := mkA ((by rw [hg]; exact Nat.ne_of_gt (blk_lt (g := gb188) (o := .cells #[.string (⟨#[]⟩ : ByteArray), .slice none 0 0] 29 (0, 0)) (bl_ BK188.out)) : gb194 ≠ gb188))
     clear HO193
     clear BK187
     clear BK188
     clear HB
     have HO193 := n0_
     have BK187 := n1_
     have BK188 := n2_
     have HB := n3_
     have BK194 := n4_
     have GW194 := n5_
     have GE194 := n6_
     have NB187_194 := n7_
     have NB194_187 := n8_
     have NB188_194 := n9_
     have NB194_188 := n10_
     clear n0_ n1_ n2_ n3_ n4_ n5_ n6_ n7_ n8_ n9_ n10_
     clear hb hbox hg
     refine hK.out _ _ ⟨(blk_cell BK187.out 0).trans rfl, (blk_cell BK187.out 1).trans rfl⟩ (fun hHeld => ?_)
     clear hK K
     refine norm_ (a' := ?_) ?_ ?_
     rotate_left
     · show Act.put _ (some 6) _ = _
       simp only [Act.put, sA, sB, sC, i64_w, i32_w]
       rfl
     exact norm_ (by simp only [putAll, Act.put, sA, sB, sC]) (hCont (.slice Ao15 t191.length co15, gb194) _ ⟨hHeld, (by (with_reducible repeat (first | apply Kd.R_alloc | apply Kd.R_drewN | apply Kd.R_drew)); exact HO193.out), (bl_ BK187.out), (bl_ BK188.out), (bl_ BK194.out), GW194.out, GE194.out, NB187_194.out, NB194_187.out, NB188_194.out, NB194_188.out, (bs3_ HB.out GE187.out GE188.out GE194.out)⟩)
   · skip
     refine box_step ?hg (N := 6) ?hd (cs := #[.string (⟨#[]⟩ : ByteArray), .slice none 0 0]) (t := 29) ?hr ?_; (case hd => rfl); (case hg => rfl); (case hr => first | (go_simp; done) | (go_simp; rfl))
     intro gb194 hg w14 hbox hb
     have n0_ := mkA (blk_below (g := gb187) (o := .cells #[.string a0_0, .slice A0_1 l0_1.length c0_1] 29 (0, 0)) (bl_ BK187.out) hb)
     have n1_ := mkA (blk_below (g := gb188) (o := .cells #[.string (⟨#[]⟩ : ByteArray), .slice none 0 0] 29 (0, 0)) (bl_ BK188.out) hb)
     have n2_ := mkA (below_step (bs2_ HB.out GE187.out GE188.out) hb)
     have n3_ := mkA (hbox)
     have n4_ := mkA ((by rw [hg]; exact (below_size (bs2_ HB.out GE187.out GE188.out)) : w.heap.size ≤ gb194))
     have n5_ := mkA ((by rw [hg]; exact (below_size (bs2_ HB.out GE187.out GE188.out)) : w.heap.size ≤ gb194))
     have n6_ := mkA ((by rw [hg]; exact Nat.ne_of_lt (blk_lt (g := gb187) (o := .cells #[.string a0_0, .slice A0_1 l0_1.length c0_1] 29 (0, 0)) (bl_ BK187.out)) : gb187 ≠ gb194))
     have n7_ := mkA ((by rw [hg]; exact Nat.ne_of_gt (blk_lt (g := gb187) (o := .cells #[.string a0_0, .slice A0_1 l0_1.length c0_1] 29 (0, 0)) (bl_ BK187.out)) : gb194 ≠ gb187))
     have n8_ := mkA ((by rw [hg]; exact Nat.ne_of_lt (blk_lt (g := gb188) (o := .cells #[.string (⟨#[]⟩ : ByteArray), .slice none 0 0] 29 (0, 0)) (bl_ BK188.out)) : gb188 ≠ gb194))
     have n9_ := mkA ((by rw [hg]; exact Nat.ne_of_gt (blk_lt (g := gb188) (o := .cells #[.string (⟨#[]⟩ : ByteArray), .slice none 0 0] 29 (0, 0)) (bl_ BK188.out)) : gb194 ≠ gb188))
     clear BK187
     clear BK188
     clear HB
     have BK187 := n0_
     have BK188 := n1_
     have HB := n2_
     have BK194 := n3_
     have GW194 := n4_
     have GE194 := n5_
     have NB187_194 := n6_
     have NB194_187 := n7_
     have NB188_194 := n8_
     have NB194_188 := n9_
     clear n0_ n1_ n2_ n3_ n4_ n5_ n6_ n7_ n8_ n9_
     clear hb hbox hg
     refine hK.out _ _ ⟨(blk_cell BK187.out 0).trans rfl, (blk_cell BK187.out 1).trans rfl⟩ (fun hHeld => ?_)
     clear hK K
     refine norm_ (a' := ?_) ?_ ?_
     rotate_left
     · show Act.put _ (some 6) _ = _
       simp only [Act.put, sA, sB, sC, i64_w, i32_w]
       rfl
     refine one_ (i := 4) (N := some 23) #[true, true, true, true, true, false, true, false] rfl rfl (one_of HT_.out (by kernel_rfl)) (by decide) (fun K hK => ?_)
     refine goes_ Try.func60 (by kernel_rfl) rfl #[.slice A0_1 l0_1.length c0_1] (by rfl) rfl rfl (by (try simp only [List.map_toArray, List.map_cons, List.map_nil]); first | done | rfl | (simp only [List.length_drop, List.length_take]; rfl)) ?_
     with_reducible refine (impl_Step_60.calls _ _ l0_1 t191 _ ?side1 ?side2 A7.out).mono ?_
     (case side1 => exact cb_ HR0_1.out HB.out)
     (case side2 => exact HC0_1.out)
     rintro e w15 ⟨v192, rfl, ho0, hb⟩
     refine ⟨_, rfl, ?_⟩
     have n0_ := mkA (Kd.R_lower ho0 (below_size (bs3_ HB.out GE187.out GE188.out GE194.out)))
     have n1_ := mkA (blk_below (g := gb187) (o := .cells #[.string a0_0, .slice A0_1 l0_1.length c0_1] 29 (0, 0)) (bl_ BK187.out) hb)
     have n2_ := mkA (blk_below (g := gb188) (o := .cells #[.string (⟨#[]⟩ : ByteArray), .slice none 0 0] 29 (0, 0)) (bl_ BK188.out) hb)
     have n3_ := mkA (blk_below (g := gb194) (o := .cells #[.string (⟨#[]⟩ : ByteArray), .slice none 0 0] 29 (0, 0)) (bl_ BK194.out) hb)
     have n4_ := mkA (below_step (bs3_ HB.out GE187.out GE188.out GE194.out) hb)
     clear BK187
     clear BK188
     clear BK194
     clear HB
     have HO193 := n0_
     have BK187 := n1_
     have BK188 := n2_
     have BK194 := n3_
     have HB := n4_
     clear n0_ n1_ n2_ n3_ n4_
     (try clear hb)
     (try clear hb2)
     (try clear hk)
     (try clear hi)
     (try clear ho0)
     obtain ⟨Ao16, co16, eo16⟩ := Kd.R_slice HO193.out
     (first | subst eo16 | (injection eo16 with f1_ f2_ f3_; have f4_ := f1_.symm; have f5_ := f3_.symm; clear f1_ f2_ f3_; subst f4_; subst f5_))
     refine hK.out _ _ ⟨(blk_cell BK187.out 0).trans rfl, (blk_cell BK187.out 1).trans rfl⟩ (fun hHeld => ?_)
     clear hK K
     refine norm_ (a' := ?_) ?_ ?_
     rotate_left
     · show Act.put _ (some 23) _ = _
       simp only [Act.put, sA, sB, sC, i64_w, i32_w]
       rfl
     refine pure_ (i := 5) (N := some 24) (v := ?_) (a' := ?_) #[true, true, true, true, true, true, true, false] rfl rfl (any_of HT_.out (by kernel_rfl)) (fun _ _ _ h => h) (Or.inl ⟨by rfl, ?_⟩) ?_ ?_
     rotate_left
     · intro w'
       go_simp
       with_reducible rfl
     rotate_left
     · simp only [Act.put, sA, sB, sC, i64_w, i32_w]
       rfl
     exact norm_ (by simp only [putAll, Act.put, sA, sB, sC]) (hCont (.slice Ao16 t191.length co16, gb194) _ ⟨hHeld, (by (with_reducible repeat (first | apply Kd.R_alloc | apply Kd.R_drewN | apply Kd.R_drew)); exact HO193.out), (bl_ BK187.out), (bl_ BK188.out), (bl_ BK194.out), GW194.out, GE194.out, NB187_194.out, NB194_187.out, NB188_194.out, NB194_188.out, (bs3_ HB.out GE187.out GE188.out GE194.out)⟩)
 rintro ⟨v192, gb194⟩ w17 ⟨hS_, h0_, h1_, h2_, h3_, h4_, h5_, h6_, h7_, h8_, h9_, h10_⟩
 have n0_ : Aside0 (Kd.R k38 38 w17 w.heap.size (fun _ => True) v192 t191) := ⟨h0_⟩
 have n1_ : Aside0 (w17.heap[gb187]? = some (.cells #[.string a0_0, .slice A0_1 l0_1.length c0_1] 29 (0, 0))) := ⟨h1_⟩
 have n2_ : Aside0 (w17.heap[gb188]? = some (.cells #[.string (⟨#[]⟩ : ByteArray), .slice none 0 0] 29 (0, 0))) := ⟨h2_⟩
 have n3_ : Aside0 (w17.heap[gb194]? = some (.cells #[.string (⟨#[]⟩ : ByteArray), .slice none 0 0] 29 (0, 0))) := ⟨h3_⟩
 have n4_ : Aside0 (w.heap.size ≤ gb194) := ⟨h4_⟩
 have n5_ : Aside0 (w.heap.size ≤ gb194) := ⟨h5_⟩
 have n6_ : Aside0 (gb187 ≠ gb194) := ⟨h6_⟩
 have n7_ : Aside0 (gb194 ≠ gb187) := ⟨h7_⟩
 have n8_ : Aside0 (gb188 ≠ gb194) := ⟨h8_⟩
 have n9_ : Aside0 (gb194 ≠ gb188) := ⟨h9_⟩
 have n10_ : Aside0 (Below w.heap.size w w17) := ⟨h10_⟩
 clear BK187
 clear BK188
 clear HB
 clear h0_ h1_ h2_ h3_ h4_ h5_ h6_ h7_ h8_ h9_ h10_
 have HO193 := n0_
 have BK187 := n1_
 have BK188 := n2_
 have BK194 := n3_
 have GW194 := n4_
 have GE194 := n5_
 have NB187_194 := n6_
 have NB194_187 := n7_
 have NB188_194 := n8_
 have NB194_188 := n9_
 have HB := n10_
 clear n0_ n1_ n2_ n3_ n4_ n5_ n6_ n7_ n8_ n9_ n10_
 have hHeld : w17.cell? ⟨gb187, 0, none⟩ = some (.string a0_0) ∧ w17.cell? ⟨gb187, 1, none⟩ = some (.slice A0_1 l0_1.length c0_1) := hS_
 obtain ⟨Ao18, co18, eo18⟩ := Kd.R_slice HO193.out
 (first | subst eo18 | (injection eo18 with f1_ f2_ f3_; have f4_ := f1_.symm; have f5_ := f3_.symm; clear f1_ f2_ f3_; subst f4_; subst f5_))
 refine norm_ (a' := ?_) ?_ ?_
 rotate_left
 · simp only [putAll, Act.put, sA, sB, sC]
   rfl
 refine one_ (i := 7) (N := none) #[true, true, true, true, true, true, true, true] rfl rfl (one_of HT_.out (by kernel_rfl)) (by decide) (fun K hK => ?_)
 have hs19 : w17.cell? ⟨gb194, 0, none⟩ = some (.string (⟨#[]⟩ : ByteArray)) := (blk_cell BK194.out 0).trans rfl
 have hfs19 := blk_frozen BK194.out 0
 have hns19_0 := NB187_194.out
 have hns19_1 := NB188_194.out
 have hms19_0 := NB194_187.out
 have hms19_1 := NB194_188.out
 have hs20 : w17.cell? ⟨gb194, 1, none⟩ = some (.slice none 0 0) := (blk_cell BK194.out 1).trans rfl
 have hfs20 := blk_frozen BK194.out 1
 have hns20_0 := NB187_194.out
 have hns20_1 := NB188_194.out
 have hms20_0 := NB194_187.out
 have hms20_1 := NB194_188.out
 refine skip_ (w1 := ?_) (by rfl) rfl ?_ ?_
 rotate_left
 · go_simp
   rfl
 refine hK.out _ _ ⟨((cell_far (p := ⟨gb194, _, none⟩) NB187_194.out _).trans (((cell_far (p := ⟨gb194, _, none⟩) NB187_194.out _).trans (hHeld.1)))), ((cell_far (p := ⟨gb194, _, none⟩) NB187_194.out _).trans (((cell_far (p := ⟨gb194, _, none⟩) NB187_194.out _).trans (hHeld.2))))⟩ (fun hHeld => ?_)
 clear hK K
 refine done_ (done_of HT_.out (by kernel_rfl)) ?_
 have hnb21 := NB194_187.out
 have hnc21 := NB187_194.out
 have hnb22 := NB194_188.out
 have hnc22 := NB188_194.out
 have hcz23_0 : w17.cell? ⟨gb194, 0, none⟩ = some (.string (⟨#[]⟩ : ByteArray)) := (blk_cell BK194.out 0).trans rfl
 have hcz23_1 : w17.cell? ⟨gb194, 1, none⟩ = some (.slice none 0 0) := (blk_cell BK194.out 1).trans rfl
 have hfz23_0 := blk_frozen BK194.out 0
 have hfz23_1 := blk_frozen BK194.out 1
 try go_wp2
 go_loopg [28] k (fun kq v28 w' => ∃ (x28_1 : Int) (x195001_1 : List (S38)) (u195001 : Value), v28 = .int .i64 x28_1 ∧ Aside0 (u195001 = (.slice Ao18 t191.length co18 : Value)) ∧ Aside0 (impl_ScaleRecipe.l0 kq a1 (t191.length : Int) x28_1 a0_0 x195001_1 = some (r1, r2, r3)) ∧ Aside0 (kq ≤ k) ∧ Aside0 (Kd.R k38 38 w' w.heap.size (fun _ => True) u195001 x195001_1) ∧ Aside0 (w'.heap[gb187]? = some (.cells #[.string a0_0, (.slice A0_1 l0_1.length c0_1)] 29 (0, 0))) ∧ Aside0 (w'.heap[gb188]? = some (.cells #[.string (⟨#[]⟩ : ByteArray), (.slice none 0 0)] 29 (0, 0))) ∧ Aside0 (w'.heap[gb194]? = some (.cells #[.string a0_0, u195001] 29 (0, 0))) ∧ Aside0 (Below w.heap.size w w'))
 case atStart => exact ⟨(0), (t191), (.slice Ao18 t191.length co18), (by first | rfl | (simp; done) | (simp [*]; done) | (simp [i64_w, i32_w]; done)), ⟨rfl⟩, H', ⟨Nat.le_refl _⟩, ⟨by (with_reducible repeat (first | apply Kd.R_alloc | apply Kd.R_drewN | apply Kd.R_drew)); exact Kd.R_mono (Kd.R_far (p := ⟨gb194, 1, none⟩) (Kd.R_far (p := ⟨gb194, 0, none⟩) (Kd.R_types HO193.out BK194.out (by decide)) (fun _ hk => hk.2) (.string a0_0)) (fun _ hk => hk.2) (.slice Ao18 t191.length co18)) (fun _ hk => trivial)⟩, ⟨by (with_reducible repeat (first | refine blk_drewN ?_ _ | refine blk_drew ?_ | refine blk_alloc ?_ _)); refine blk_far ?_ NB187_194.out _; (with_reducible repeat (first | refine blk_drewN ?_ _ | refine blk_drew ?_ | refine blk_alloc ?_ _)); refine blk_far ?_ NB187_194.out _; (with_reducible repeat (first | refine blk_drewN ?_ _ | refine blk_drew ?_ | refine blk_alloc ?_ _)); exact BK187.out⟩, ⟨by (with_reducible repeat (first | refine blk_drewN ?_ _ | refine blk_drew ?_ | refine blk_alloc ?_ _)); refine blk_far ?_ NB188_194.out _; (with_reducible repeat (first | refine blk_drewN ?_ _ | refine blk_drew ?_ | refine blk_alloc ?_ _)); refine blk_far ?_ NB188_194.out _; (with_reducible repeat (first | refine blk_drewN ?_ _ | refine blk_drew ?_ | refine blk_alloc ?_ _)); exact BK188.out⟩, ⟨by (with_reducible repeat (first | refine blk_drewN ?_ _ | refine blk_drew ?_ | refine blk_alloc ?_ _)); refine blk_put (cs := #[.string a0_0, .slice none 0 0]) ?_ 1 _ rfl; (with_reducible repeat (first | refine blk_drewN ?_ _ | refine blk_drew ?_ | refine blk_alloc ?_ _)); refine blk_put (cs := #[.string (⟨#[]⟩ : ByteArray), .slice none 0 0]) ?_ 0 _ rfl; (with_reducible repeat (first | refine blk_drewN ?_ _ | refine blk_drew ?_ | refine blk_alloc ?_ _)); exact BK194.out⟩, ⟨by repeat (first | (with_reducible first | exact HB.out | apply below_alloc | apply pw_below_drewN | apply below_drew1 | refine below_set ?_ GE187.out | refine below_set ?_ GE188.out | refine below_set ?_ GE194.out) | exact HB.out)⟩⟩
 case round =>
  clear H'
  try clear c1
  try clear c2
  try clear p2
  try clear c4
  try clear c5
  try clear c6
  try clear c10
  try clear c12
  try clear c21
  try clear c22
  try clear hcz11_0
  try clear hcz11_1
  try clear hcz23_0
  try clear hcz23_1
  try clear hfz11_0
  try clear hfz11_1
  try clear hfz23_0
  try clear hfz23_1
  obtain ⟨x28_1, x195001_1, u195001, rfl, HU_, HA, HK1, HO_195001, BK187, BK188, BK194, HB⟩ := hrel
  cases gk with
  | zero => exact absurd HA.out (by simp [impl_ScaleRecipe.l0])
  | succ k1 =>
   have H := HA.out
   clear HA
   simp only [impl_ScaleRecipe.l0] at H
   by_cases c24 : x28_1 < (t191.length : Int)
   rotate_left
   · rw [if_neg c24] at H
     have c24b0 : decide (x28_1 < (t191.length : Int)) = false := decide_eq_false c24
     clear c24
     replace H := Option.bind_eq_some_iff.mp H
     obtain ⟨t199, A460, H⟩ := H
     replace H : (if t199 = true then (some (a0_0, x195001_1, 0)) else (some ((⟨#[]⟩ : ByteArray), ([] : List (S38)), 6))) = some (r1, r2, r3) := H
     have A46 := mkA A460
     clear A460
     by_cases c47 : t199 = true
     · subst c47
       have H1 : (some (a0_0, x195001_1, 0)) = some (r1, r2, r3) := by rw [if_pos rfl] at H; exact H
       clear H
       have H := H1
       clear H1
       simp only [Option.some.injEq, Prod.mk.injEq] at H
       obtain ⟨rfl, rfl, rfl⟩ := H
       have hnb48 := NB194_187.out
       have hnc48 := NB187_194.out
       have hnb49 := NB194_188.out
       have hnc49 := NB188_194.out
       have hcz50_0 : wr.cell? ⟨gb194, 0, none⟩ = some (.string a0_0) := (blk_cell BK194.out 0).trans rfl
       have hcz50_1 : wr.cell? ⟨gb194, 1, none⟩ = some (u195001) := (blk_cell BK194.out 1).trans rfl
       have hfz50_0 := blk_frozen BK194.out 0
       have hfz50_1 := blk_frozen BK194.out 1
       obtain ⟨Ao51, co51, eo51⟩ := Kd.R_slice HO_195001.out
       subst eo51
       have hu_ := HU_.out
       injection hu_ with hu1_ hu2_ hu3_
       subst hu1_
       subst hu3_
       have HU2_ := mkA hu2_
       clear hu2_
       go_wp2_with (first | ((with_reducible refine gate_callee (f := 12) rfl ?_); refine goesL_ (some 48) rfl rfl Try.func12 (by kernel_rfl) rfl #[.agg #[.string a0_0, .slice Ao51 x195001_1.length co51]] rfl (by (try simp only [List.map_toArray, List.map_cons, List.map_nil]); first | done | rfl | (simp only [List.length_drop, List.length_take]; rfl)) ?_; (with_reducible refine (impl_ValidRecipe.calls k1 a0_0 _ _ x195001_1 true _ ?side1 ?side2 A46.out).mono ?_); (case side1 => repeat (first | exact (Kd.R_reads' HO_195001.out).2.2 | (with_reducible refine Kd.C_alloc ?_ _) | (with_reducible refine Kd.C_drewN ?_ _) | (with_reducible refine Kd.C_drew ?_))); (case side2 => exact (Kd.R_reads' HO_195001.out).2.1); rintro e w52 ⟨rfl, hb⟩; refine ⟨_, rfl, ?_⟩; have n0_ := mkA (Kd.R_below (by (with_reducible repeat (first | apply Kd.R_alloc | apply Kd.R_drewN | apply Kd.R_drew)); exact HO_195001.out) hb); have n1_ := mkA (blk_below (g := gb187) (o := .cells #[.string a0_0, .slice A0_1 l0_1.length c0_1] 29 (0, 0)) (bl_ BK187.out) hb); have n2_ := mkA (blk_below (g := gb188) (o := .cells #[.string (⟨#[]⟩ : ByteArray), .slice none 0 0] 29 (0, 0)) (bl_ BK188.out) hb); have n3_ := mkA (blk_below (g := gb194) (o := .cells #[.string a0_0, .slice Ao51 x195001_1.length co51] 29 (0, 0)) (bl_ BK194.out) hb); have n4_ := mkA (below_step (bs3_ HB.out GE187.out GE188.out GE194.out) hb); clear HO_195001; clear BK187; clear BK188; clear BK194; clear HB; have HO_195001 := n0_; have BK187 := n1_; have BK188 := n2_; have BK194 := n3_; have HB := n4_; clear n0_ n1_ n2_ n3_ n4_; (try clear hb); (try clear hb2); (try clear hk); (try clear hi); have hcz53_0 : w52.cell? ⟨gb194, 0, none⟩ = some (.string a0_0) := (blk_cell BK194.out 0).trans rfl; have hcz53_1 : w52.cell? ⟨gb194, 1, none⟩ = some (.slice Ao51 x195001_1.length co51) := (blk_cell BK194.out 1).trans rfl; have hfz53_0 := blk_frozen BK194.out 0; have hfz53_1 := blk_frozen BK194.out 1; have hnb54 := NB188_187.out; have hnc54 := NB187_188.out; have hcz55_0 : w52.cell? ⟨gb188, 0, none⟩ = some (.string (⟨#[]⟩ : ByteArray)) := (blk_cell BK188.out 0).trans rfl; have hcz55_1 : w52.cell? ⟨gb188, 1, none⟩ = some (.slice none 0 0) := (blk_cell BK188.out 1).trans rfl; have hfz55_0 := blk_frozen BK188.out 0; have hfz55_1 := blk_frozen BK188.out 1))
       refine bodyPost_ret (results_ct rfl _ _ gb188 29 #[.string a0_0, .slice Ao51 x195001_1.length co51] (0, 0) _ rfl (by (with_reducible repeat (first | refine blk_drewN ?_ _ | refine blk_drew ?_ | refine blk_alloc ?_ _)); refine blk_put (cs := #[.string a0_0, .slice none 0 0]) ?_ 1 _ rfl; (with_reducible repeat (first | refine blk_drewN ?_ _ | refine blk_drew ?_ | refine blk_alloc ?_ _)); refine blk_put (cs := #[.string (⟨#[]⟩ : ByteArray), .slice none 0 0]) ?_ 0 _ rfl; (with_reducible repeat (first | refine blk_drewN ?_ _ | refine blk_drew ?_ | refine blk_alloc ?_ _)); exact BK188.out) Try.underlying29 rfl (by kernel_rfl)) rfl ?_
       exact ⟨_, by first | rfl | (simp [errW_none, errW_some] <;> rfl) | (simp [*, errW_none, errW_some] <;> rfl), by (with_reducible repeat (first | apply Kd.R_alloc | apply Kd.R_drewN | apply Kd.R_drew)); exact Kd.R_mono (Kd.R_far (p := ⟨gb188, 1, none⟩) (Kd.R_far (p := ⟨gb188, 0, none⟩) (Kd.R_types HO_195001.out BK188.out (by decide)) (fun _ hk => hk.2) (.string a0_0)) (fun _ hk => hk.2) (.slice Ao51 x195001_1.length co51)) (fun _ hk => trivial), by repeat (first | (with_reducible first | exact HB.out | apply below_alloc | apply pw_below_drewN | apply below_drew1 | refine below_set ?_ GE187.out | refine below_set ?_ GE188.out | refine below_set ?_ GE194.out) | exact HB.out)⟩
     · replace c47 := Bool.eq_false_iff.mpr c47
       subst c47
       have H1 : (some ((⟨#[]⟩ : ByteArray), ([] : List (S38)), 6)) = some (r1, r2, r3) := by rw [if_neg (show ¬ (false = true) by decide)] at H; exact H
       clear H
       have H := H1
       clear H1
       simp only [Option.some.injEq, Prod.mk.injEq] at H
       obtain ⟨rfl, rfl, rfl⟩ := H
       have hnb56 := NB194_187.out
       have hnc56 := NB187_194.out
       have hnb57 := NB194_188.out
       have hnc57 := NB188_194.out
       have hcz58_0 : wr.cell? ⟨gb194, 0, none⟩ = some (.string a0_0) := (blk_cell BK194.out 0).trans rfl
       have hcz58_1 : wr.cell? ⟨gb194, 1, none⟩ = some (u195001) := (blk_cell BK194.out 1).trans rfl
       have hfz58_0 := blk_frozen BK194.out 0
       have hfz58_1 := blk_frozen BK194.out 1
       obtain ⟨Ao59, co59, eo59⟩ := Kd.R_slice HO_195001.out
       subst eo59
       have hu_ := HU_.out
       injection hu_ with hu1_ hu2_ hu3_
       subst hu1_
       subst hu3_
       have HU2_ := mkA hu2_
       clear hu2_
       go_wp2_with (first | ((with_reducible refine gate_callee (f := 12) rfl ?_); refine goesL_ (some 48) rfl rfl Try.func12 (by kernel_rfl) rfl #[.agg #[.string a0_0, .slice Ao59 x195001_1.length co59]] rfl (by (try simp only [List.map_toArray, List.map_cons, List.map_nil]); first | done | rfl | (simp only [List.length_drop, List.length_take]; rfl)) ?_; (with_reducible refine (impl_ValidRecipe.calls k1 a0_0 _ _ x195001_1 false _ ?side1 ?side2 A46.out).mono ?_); (case side1 => repeat (first | exact (Kd.R_reads' HO_195001.out).2.2 | (with_reducible refine Kd.C_alloc ?_ _) | (with_reducible refine Kd.C_drewN ?_ _) | (with_reducible refine Kd.C_drew ?_))); (case side2 => exact (Kd.R_reads' HO_195001.out).2.1); rintro e w60 ⟨rfl, hb⟩; refine ⟨_, rfl, ?_⟩; have n0_ := mkA (Kd.R_below (by (with_reducible repeat (first | apply Kd.R_alloc | apply Kd.R_drewN | apply Kd.R_drew)); exact HO_195001.out) hb); have n1_ := mkA (blk_below (g := gb187) (o := .cells #[.string a0_0, .slice A0_1 l0_1.length c0_1] 29 (0, 0)) (bl_ BK187.out) hb); have n2_ := mkA (blk_below (g := gb188) (o := .cells #[.string (⟨#[]⟩ : ByteArray), .slice none 0 0] 29 (0, 0)) (bl_ BK188.out) hb); have n3_ := mkA (blk_below (g := gb194) (o := .cells #[.string a0_0, .slice Ao59 x195001_1.length co59] 29 (0, 0)) (bl_ BK194.out) hb); have n4_ := mkA (below_step (bs3_ HB.out GE187.out GE188.out GE194.out) hb); clear HO_195001; clear BK187; clear BK188; clear BK194; clear HB; have HO_195001 := n0_; have BK187 := n1_; have BK188 := n2_; have BK194 := n3_; have HB := n4_; clear n0_ n1_ n2_ n3_ n4_; (try clear hb); (try clear hb2); (try clear hk); (try clear hi); have hnb61 := NB188_187.out; have hnc61 := NB187_188.out; have hcz62_0 : w60.cell? ⟨gb188, 0, none⟩ = some (.string (⟨#[]⟩ : ByteArray)) := (blk_cell BK188.out 0).trans rfl; have hcz62_1 : w60.cell? ⟨gb188, 1, none⟩ = some (.slice none 0 0) := (blk_cell BK188.out 1).trans rfl; have hfz62_0 := blk_frozen BK188.out 0; have hfz62_1 := blk_frozen BK188.out 1))
       refine bodyPost_ret (results_ct rfl _ _ gb188 29 #[.string (⟨#[]⟩ : ByteArray), .slice none 0 0] (0, 0) _ rfl (by (with_reducible repeat (first | refine blk_drewN ?_ _ | refine blk_drew ?_ | refine blk_alloc ?_ _)); refine blk_put (cs := #[.string (⟨#[]⟩ : ByteArray), .slice none 0 0]) ?_ 1 _ rfl; (with_reducible repeat (first | refine blk_drewN ?_ _ | refine blk_drew ?_ | refine blk_alloc ?_ _)); refine blk_put (cs := #[.string (⟨#[]⟩ : ByteArray), .slice none 0 0]) ?_ 0 _ rfl; (with_reducible repeat (first | refine blk_drewN ?_ _ | refine blk_drew ?_ | refine blk_alloc ?_ _)); exact BK188.out) Try.underlying29 rfl (by kernel_rfl)) rfl ?_
       exact ⟨_, by first | rfl | (simp [errW_none, errW_some] <;> rfl) | (simp [*, errW_none, errW_some] <;> rfl), by first | exact Kd.R_nil _ _ _ _ _ | exact Kd.N_nil _ _ _ _ _ | exact Kd.V_nil _ _ _ _ _ | exact Kd.Q_nil _ _ _ _ _ | exact Kd.S_nil _ _ _ _ _, by repeat (first | (with_reducible first | exact HB.out | apply below_alloc | apply pw_below_drewN | apply below_drew1 | refine below_set ?_ GE187.out | refine below_set ?_ GE188.out | refine below_set ?_ GE194.out) | exact HB.out)⟩
   rw [if_pos c24] at H
   have c24b0 : decide (x28_1 < (t191.length : Int)) = true := decide_eq_true c24
   clear c24
   by_cases c25 : 0 ≤ x28_1
   rotate_left
   · rw [if_neg c25] at H
     exact absurd H (by simp)
   rw [if_pos c25] at H
   have c25b0 : decide (0 ≤ x28_1) = true := decide_eq_true c25
   clear c25
   by_cases c26 : x28_1 < (x195001_1.length : Int)
   rotate_left
   · rw [if_neg c26] at H
     exact absurd H (by simp)
   rw [if_pos c26] at H
   have c26b0 : decide (x28_1 < (x195001_1.length : Int)) = true := decide_eq_true c26
   clear c26
   by_cases c27 : ((rd_T38 x195001_1 x28_1).f0) = 1
   rotate_left
   · rw [if_neg c27] at H
     have c27b0 : (((rd_T38 x195001_1 x28_1).f0) == 1) = false := beq_eq_false_iff_ne.mpr c27
     have c27b1 : (((rd_T38 x195001_1 x28_1).f0) != 1) = true := bne_iff_ne.mpr c27
     have H' := mkA H
     clear H
     obtain ⟨Ao40, co40, eo40⟩ := Kd.R_slice HO_195001.out
     subst eo40
     have hu_ := HU_.out
     injection hu_ with hu1_ hu2_ hu3_
     subst hu1_
     subst hu3_
     have HU2_ := mkA hu2_
     clear hu2_
     have p195 : 0 ≤ (x28_1 : Int) := dt_
     have q195 : x28_1 < (x195001_1.length : Int) := dt_
     have q195b_ : ((x28_1 : Int) < (t191.length : Int)) = True := eq_true (by have h_ : x28_1 < (x195001_1.length : Int) := q195; have h2_ := HU2_.out; omega)
     obtain ⟨ad195, e195, hx195_0, hx195_1, hx195_2⟩ := at_T38 (Kd.R_reads' HO_195001.out).2.2 x28_1 p195 q195
     cases e195
     replace p195 := eq_true p195
     replace q195 := eq_true q195
     go_wp2_with (first | ((with_reducible refine gate_dst (N := 8) rfl ?_); refine box_event ?hg (N := 8) ?hd (cs := #[.int .i64 0, .int .i64 0, .int .i64 0]) (t := 38) ?hr ?_; (case hd => rfl); (case hg => rfl); (case hr => first | (go_simp; done) | (go_simp; rfl)); intro gb196 hg w41 hbox hb; have n0_ := mkA (Kd.R_below (Kd.R_elderB (by (with_reducible repeat (first | apply Kd.R_alloc | apply Kd.R_drewN | apply Kd.R_drew)); exact HO_195001.out) gb196 (Nat.le_of_eq hg.symm)) hb); have n1_ := mkA (blk_below (g := gb187) (o := .cells #[.string a0_0, .slice A0_1 l0_1.length c0_1] 29 (0, 0)) (bl_ BK187.out) hb); have n2_ := mkA (blk_below (g := gb188) (o := .cells #[.string (⟨#[]⟩ : ByteArray), .slice none 0 0] 29 (0, 0)) (bl_ BK188.out) hb); have n3_ := mkA (blk_below (g := gb194) (o := .cells #[.string a0_0, .slice (some ad195) x195001_1.length co40] 29 (0, 0)) (bl_ BK194.out) hb); have n4_ := mkA (below_step (bs3_ HB.out GE187.out GE188.out GE194.out) hb); have n5_ := mkA (hbox); have n6_ := mkA ((by rw [hg]; exact (below_size (bs3_ HB.out GE187.out GE188.out GE194.out)) : w.heap.size ≤ gb196)); have n7_ := mkA ((by rw [hg]; exact (below_size (bs3_ HB.out GE187.out GE188.out GE194.out)) : w.heap.size ≤ gb196)); have n8_ := mkA ((by rw [hg]; exact Nat.ne_of_lt (blk_lt (g := gb187) (o := .cells #[.string a0_0, .slice A0_1 l0_1.length c0_1] 29 (0, 0)) (bl_ BK187.out)) : gb187 ≠ gb196)); have n9_ := mkA ((by rw [hg]; exact Nat.ne_of_gt (blk_lt (g := gb187) (o := .cells #[.string a0_0, .slice A0_1 l0_1.length c0_1] 29 (0, 0)) (bl_ BK187.out)) : gb196 ≠ gb187)); have n10_ := mkA ((by rw [hg]; exact Nat.ne_of_lt (blk_lt (g := gb188) (o := .cells #[.string (⟨#[]⟩ : ByteArray), .slice none 0 0] 29 (0, 0)) (bl_ BK188.out)) : gb188 ≠ gb196)); have n11_ := mkA ((by rw [hg]; exact Nat.ne_of_gt (blk_lt (g := gb188) (o := .cells #[.string (⟨#[]⟩ : ByteArray), .slice none 0 0] 29 (0, 0)) (bl_ BK188.out)) : gb196 ≠ gb188)); have n12_ := mkA ((by rw [hg]; exact Nat.ne_of_lt (blk_lt (g := gb194) (o := .cells #[.string a0_0, .slice (some ad195) x195001_1.length co40] 29 (0, 0)) (bl_ BK194.out)) : gb194 ≠ gb196)); have n13_ := mkA ((by rw [hg]; exact Nat.ne_of_gt (blk_lt (g := gb194) (o := .cells #[.string a0_0, .slice (some ad195) x195001_1.length co40] 29 (0, 0)) (bl_ BK194.out)) : gb196 ≠ gb194)); clear HO_195001; clear BK187; clear BK188; clear BK194; clear HB; have HO_195001 := n0_; have BK187 := n1_; have BK188 := n2_; have BK194 := n3_; have HB := n4_; have BK196 := n5_; have GW196 := n6_; have GE196 := n7_; have NB187_196 := n8_; have NB196_187 := n9_; have NB188_196 := n10_; have NB196_188 := n11_; have NB194_196 := n12_; have NB196_194 := n13_; clear n0_ n1_ n2_ n3_ n4_ n5_ n6_ n7_ n8_ n9_ n10_ n11_ n12_ n13_; clear hb hbox hg; have hnb42 := NB196_187.out; have hnc42 := NB187_196.out; have hnb43 := NB196_188.out; have hnc43 := NB188_196.out; have hnb44 := NB196_194.out; have hnc44 := NB194_196.out; have hcz45_0 : w41.cell? ⟨gb196, 0, none⟩ = some (.int .i64 0) := (blk_cell BK196.out 0).trans rfl; have hcz45_1 : w41.cell? ⟨gb196, 1, none⟩ = some (.int .i64 0) := (blk_cell BK196.out 1).trans rfl; have hcz45_2 : w41.cell? ⟨gb196, 2, none⟩ = some (.int .i64 0) := (blk_cell BK196.out 2).trans rfl; have hfz45_0 := blk_frozen BK196.out 0; have hfz45_1 := blk_frozen BK196.out 1; have hfz45_2 := blk_frozen BK196.out 2))
     go_roundg k1
     case measure => have := HK1.out; omega
     case rel => exact ⟨(wrap64 (x28_1 + 1)), (x195001_1), (.slice (some ad195) x195001_1.length co40), (by first | rfl | (simp; done) | (simp [*]; done) | (simp [i64_w, i32_w]; done)), ⟨by first | exact HU_.out | (rw [HU_.out, List.length_set]; exact HU_.out)⟩, H', ⟨by have := HK1.out; omega⟩, ⟨by (with_reducible repeat (first | apply Kd.R_alloc | apply Kd.R_drewN | apply Kd.R_drew)); exact Kd.R_mono (Kd.R_far (p := ⟨gb196, 2, none⟩) (Kd.R_far (p := ⟨gb196, 1, none⟩) (Kd.R_far (p := ⟨gb196, 0, none⟩) (Kd.R_mono HO_195001.out (fun k_ hk => (⟨hk, hk.2⟩ : _ ∧ k_ ≠ gb196))) (fun _ hk => hk.2) (.int .i64 ((rd_T38 x195001_1 x28_1).f0))) (fun _ hk => hk.2) (.int .i64 ((rd_T38 x195001_1 x28_1).f1))) (fun _ hk => hk.2) (.int .i64 ((rd_T38 x195001_1 x28_1).f2))) (fun _ hk => trivial)⟩, ⟨by (with_reducible repeat (first | refine blk_drewN ?_ _ | refine blk_drew ?_ | refine blk_alloc ?_ _)); refine blk_far ?_ NB187_196.out _; (with_reducible repeat (first | refine blk_drewN ?_ _ | refine blk_drew ?_ | refine blk_alloc ?_ _)); refine blk_far ?_ NB187_196.out _; (with_reducible repeat (first | refine blk_drewN ?_ _ | refine blk_drew ?_ | refine blk_alloc ?_ _)); refine blk_far ?_ NB187_196.out _; (with_reducible repeat (first | refine blk_drewN ?_ _ | refine blk_drew ?_ | refine blk_alloc ?_ _)); exact BK187.out⟩, ⟨by (with_reducible repeat (first | refine blk_drewN ?_ _ | refine blk_drew ?_ | refine blk_alloc ?_ _)); refine blk_far ?_ NB188_196.out _; (with_reducible repeat (first | refine blk_drewN ?_ _ | refine blk_drew ?_ | refine blk_alloc ?_ _)); refine blk_far ?_ NB188_196.out _; (with_reducible repeat (first | refine blk_drewN ?_ _ | refine blk_drew ?_ | refine blk_alloc ?_ _)); refine blk_far ?_ NB188_196.out _; (with_reducible repeat (first | refine blk_drewN ?_ _ | refine blk_drew ?_ | refine blk_alloc ?_ _)); exact BK188.out⟩, ⟨by (with_reducible repeat (first | refine blk_drewN ?_ _ | refine blk_drew ?_ | refine blk_alloc ?_ _)); refine blk_far ?_ NB194_196.out _; (with_reducible repeat (first | refine blk_drewN ?_ _ | refine blk_drew ?_ | refine blk_alloc ?_ _)); refine blk_far ?_ NB194_196.out _; (with_reducible repeat (first | refine blk_drewN ?_ _ | refine blk_drew ?_ | refine blk_alloc ?_ _)); refine blk_far ?_ NB194_196.out _; (with_reducible repeat (first | refine blk_drewN ?_ _ | refine blk_drew ?_ | refine blk_alloc ?_ _)); exact BK194.out⟩, ⟨by repeat (first | (with_reducible first | exact HB.out | apply below_alloc | apply pw_below_drewN | apply below_drew1 | refine below_set ?_ GE187.out | refine below_set ?_ GE188.out | refine below_set ?_ GE194.out | refine below_set ?_ GE196.out) | exact HB.out)⟩⟩
   rw [if_pos c27] at H
   have c27b0 : (((rd_T38 x195001_1 x28_1).f0) == 1) = true := beq_iff_eq.mpr c27
   have c27b1 : (((rd_T38 x195001_1 x28_1).f0) != 1) = false := bne_eq_false_iff_eq.mpr c27
   clear c27
   replace H := Option.bind_eq_some_iff.mp H
   obtain ⟨t197, A280, H⟩ := H
   replace H : (impl_ScaleRecipe.l0 k1 a1 (t191.length : Int) (wrap64 (x28_1 + 1)) a0_0 (x195001_1.set (x28_1 : Int).toNat (⟨(rd_T38 x195001_1 x28_1).f0, (rd_T38 x195001_1 x28_1).f1, t197⟩ : S38))) = some (r1, r2, r3) := H
   have A28 := mkA A280
   clear A280
   obtain ⟨y198, hy198⟩ : ∃ y_ : List (S38), y_ = (x195001_1.set (x28_1 : Int).toNat (⟨(rd_T38 x195001_1 x28_1).f0, (rd_T38 x195001_1 x28_1).f1, t197⟩ : S38)) := ⟨_, rfl⟩
   replace H : (impl_ScaleRecipe.l0 k1 a1 (t191.length : Int) (wrap64 (x28_1 + 1)) a0_0 y198) = some (r1, r2, r3) := by first | (rw [hy198]; with_reducible exact H) | (have H2_ := (Option.bind_some _ _).symm.trans H; rw [hy198]; with_reducible exact H2_) | (have H2_ := (Option.bind_some _ _).symm.trans H; with_reducible exact H2_) | with_reducible exact H | (rw [hy198]; exact H) | exact H
   have Ny198 := mkA hy198
   clear hy198
   have H' := mkA H
   clear H
   obtain ⟨Ao30, co30, eo30⟩ := Kd.R_slice HO_195001.out
   subst eo30
   have hu_ := HU_.out
   injection hu_ with hu1_ hu2_ hu3_
   subst hu1_
   subst hu3_
   have HU2_ := mkA hu2_
   clear hu2_
   have p195 : 0 ≤ (x28_1 : Int) := dt_
   have q195 : x28_1 < (x195001_1.length : Int) := dt_
   have q195b_ : ((x28_1 : Int) < (t191.length : Int)) = True := eq_true (by have h_ : x28_1 < (x195001_1.length : Int) := q195; have h2_ := HU2_.out; omega)
   obtain ⟨ad195, e195, hx195_0, hx195_1, hx195_2⟩ := at_T38 (Kd.R_reads' HO_195001.out).2.2 x28_1 p195 q195
   cases e195
   replace p195 := eq_true p195
   replace q195 := eq_true q195
   try go_wp2_with (first | ((with_reducible refine gate_dst (N := 8) rfl ?_); refine box_event ?hg (N := 8) ?hd (cs := #[.int .i64 0, .int .i64 0, .int .i64 0]) (t := 38) ?hr ?_; (case hd => rfl); (case hg => rfl); (case hr => first | (go_simp; done) | (go_simp; rfl)); intro gb196 hg w31 hbox hb; have n0_ := mkA (Kd.R_below (Kd.R_elderB (by (with_reducible repeat (first | apply Kd.R_alloc | apply Kd.R_drewN | apply Kd.R_drew)); exact HO_195001.out) gb196 (Nat.le_of_eq hg.symm)) hb); have n1_ := mkA (blk_below (g := gb187) (o := .cells #[.string a0_0, .slice A0_1 l0_1.length c0_1] 29 (0, 0)) (bl_ BK187.out) hb); have n2_ := mkA (blk_below (g := gb188) (o := .cells #[.string (⟨#[]⟩ : ByteArray), .slice none 0 0] 29 (0, 0)) (bl_ BK188.out) hb); have n3_ := mkA (blk_below (g := gb194) (o := .cells #[.string a0_0, .slice (some ad195) x195001_1.length co30] 29 (0, 0)) (bl_ BK194.out) hb); have n4_ := mkA (below_step (bs3_ HB.out GE187.out GE188.out GE194.out) hb); have n5_ := mkA (hbox); have n6_ := mkA ((by rw [hg]; exact (below_size (bs3_ HB.out GE187.out GE188.out GE194.out)) : w.heap.size ≤ gb196)); have n7_ := mkA ((by rw [hg]; exact (below_size (bs3_ HB.out GE187.out GE188.out GE194.out)) : w.heap.size ≤ gb196)); have n8_ := mkA ((by rw [hg]; exact Nat.ne_of_lt (blk_lt (g := gb187) (o := .cells #[.string a0_0, .slice A0_1 l0_1.length c0_1] 29 (0, 0)) (bl_ BK187.out)) : gb187 ≠ gb196)); have n9_ := mkA ((by rw [hg]; exact Nat.ne_of_gt (blk_lt (g := gb187) (o := .cells #[.string a0_0, .slice A0_1 l0_1.length c0_1] 29 (0, 0)) (bl_ BK187.out)) : gb196 ≠ gb187)); have n10_ := mkA ((by rw [hg]; exact Nat.ne_of_lt (blk_lt (g := gb188) (o := .cells #[.string (⟨#[]⟩ : ByteArray), .slice none 0 0] 29 (0, 0)) (bl_ BK188.out)) : gb188 ≠ gb196)); have n11_ := mkA ((by rw [hg]; exact Nat.ne_of_gt (blk_lt (g := gb188) (o := .cells #[.string (⟨#[]⟩ : ByteArray), .slice none 0 0] 29 (0, 0)) (bl_ BK188.out)) : gb196 ≠ gb188)); have n12_ := mkA ((by rw [hg]; exact Nat.ne_of_lt (blk_lt (g := gb194) (o := .cells #[.string a0_0, .slice (some ad195) x195001_1.length co30] 29 (0, 0)) (bl_ BK194.out)) : gb194 ≠ gb196)); have n13_ := mkA ((by rw [hg]; exact Nat.ne_of_gt (blk_lt (g := gb194) (o := .cells #[.string a0_0, .slice (some ad195) x195001_1.length co30] 29 (0, 0)) (bl_ BK194.out)) : gb196 ≠ gb194)); clear HO_195001; clear BK187; clear BK188; clear BK194; clear HB; have HO_195001 := n0_; have BK187 := n1_; have BK188 := n2_; have BK194 := n3_; have HB := n4_; have BK196 := n5_; have GW196 := n6_; have GE196 := n7_; have NB187_196 := n8_; have NB196_187 := n9_; have NB188_196 := n10_; have NB196_188 := n11_; have NB194_196 := n12_; have NB196_194 := n13_; clear n0_ n1_ n2_ n3_ n4_ n5_ n6_ n7_ n8_ n9_ n10_ n11_ n12_ n13_; clear hb hbox hg; have hnb32 := NB196_187.out; have hnc32 := NB187_196.out; have hnb33 := NB196_188.out; have hnc33 := NB188_196.out; have hnb34 := NB196_194.out; have hnc34 := NB194_196.out; have hcz35_0 : w31.cell? ⟨gb196, 0, none⟩ = some (.int .i64 0) := (blk_cell BK196.out 0).trans rfl; have hcz35_1 : w31.cell? ⟨gb196, 1, none⟩ = some (.int .i64 0) := (blk_cell BK196.out 1).trans rfl; have hcz35_2 : w31.cell? ⟨gb196, 2, none⟩ = some (.int .i64 0) := (blk_cell BK196.out 2).trans rfl; have hfz35_0 := blk_frozen BK196.out 0; have hfz35_1 := blk_frozen BK196.out 1; have hfz35_2 := blk_frozen BK196.out 2))
   have n0_ : Aside0 (Kd.R k38 38 (((w31.setCell ⟨gb196, 0, none⟩ (.int .i64 ((rd_T38 x195001_1 x28_1).f0))).setCell ⟨gb196, 1, none⟩ (.int .i64 ((rd_T38 x195001_1 x28_1).f1))).setCell ⟨gb196, 2, none⟩ (.int .i64 ((rd_T38 x195001_1 x28_1).f2))) w.heap.size (fun k_ => k_ ≠ gb196) (.slice (some ad195) x195001_1.length co30) x195001_1) := ⟨by (with_reducible repeat (first | apply Kd.R_alloc | apply Kd.R_drewN | apply Kd.R_drew)); exact Kd.R_mono (Kd.R_far (p := ⟨gb196, 2, none⟩) (Kd.R_far (p := ⟨gb196, 1, none⟩) (Kd.R_far (p := ⟨gb196, 0, none⟩) (Kd.R_mono HO_195001.out (fun k_ hk => (⟨hk, hk.2⟩ : _ ∧ k_ ≠ gb196))) (fun _ hk => hk.2) (.int .i64 ((rd_T38 x195001_1 x28_1).f0))) (fun _ hk => hk.2) (.int .i64 ((rd_T38 x195001_1 x28_1).f1))) (fun _ hk => hk.2) (.int .i64 ((rd_T38 x195001_1 x28_1).f2))) (fun _ hk => hk.1.2)⟩
   have n1_ : Aside0 ((((w31.setCell ⟨gb196, 0, none⟩ (.int .i64 ((rd_T38 x195001_1 x28_1).f0))).setCell ⟨gb196, 1, none⟩ (.int .i64 ((rd_T38 x195001_1 x28_1).f1))).setCell ⟨gb196, 2, none⟩ (.int .i64 ((rd_T38 x195001_1 x28_1).f2))).heap[gb187]? = some (.cells #[.string a0_0, .slice A0_1 l0_1.length c0_1] 29 (0, 0))) := ⟨by (with_reducible repeat (first | refine blk_drewN ?_ _ | refine blk_drew ?_ | refine blk_alloc ?_ _)); refine blk_far ?_ NB187_196.out _; (with_reducible repeat (first | refine blk_drewN ?_ _ | refine blk_drew ?_ | refine blk_alloc ?_ _)); refine blk_far ?_ NB187_196.out _; (with_reducible repeat (first | refine blk_drewN ?_ _ | refine blk_drew ?_ | refine blk_alloc ?_ _)); refine blk_far ?_ NB187_196.out _; (with_reducible repeat (first | refine blk_drewN ?_ _ | refine blk_drew ?_ | refine blk_alloc ?_ _)); exact BK187.out⟩
   have n2_ : Aside0 ((((w31.setCell ⟨gb196, 0, none⟩ (.int .i64 ((rd_T38 x195001_1 x28_1).f0))).setCell ⟨gb196, 1, none⟩ (.int .i64 ((rd_T38 x195001_1 x28_1).f1))).setCell ⟨gb196, 2, none⟩ (.int .i64 ((rd_T38 x195001_1 x28_1).f2))).heap[gb188]? = some (.cells #[.string (⟨#[]⟩ : ByteArray), .slice none 0 0] 29 (0, 0))) := ⟨by (with_reducible repeat (first | refine blk_drewN ?_ _ | refine blk_drew ?_ | refine blk_alloc ?_ _)); refine blk_far ?_ NB188_196.out _; (with_reducible repeat (first | refine blk_drewN ?_ _ | refine blk_drew ?_ | refine blk_alloc ?_ _)); refine blk_far ?_ NB188_196.out _; (with_reducible repeat (first | refine blk_drewN ?_ _ | refine blk_drew ?_ | refine blk_alloc ?_ _)); refine blk_far ?_ NB188_196.out _; (with_reducible repeat (first | refine blk_drewN ?_ _ | refine blk_drew ?_ | refine blk_alloc ?_ _)); exact BK188.out⟩
   have n3_ : Aside0 ((((w31.setCell ⟨gb196, 0, none⟩ (.int .i64 ((rd_T38 x195001_1 x28_1).f0))).setCell ⟨gb196, 1, none⟩ (.int .i64 ((rd_T38 x195001_1 x28_1).f1))).setCell ⟨gb196, 2, none⟩ (.int .i64 ((rd_T38 x195001_1 x28_1).f2))).heap[gb194]? = some (.cells #[.string a0_0, .slice (some ad195) x195001_1.length co30] 29 (0, 0))) := ⟨by (with_reducible repeat (first | refine blk_drewN ?_ _ | refine blk_drew ?_ | refine blk_alloc ?_ _)); refine blk_far ?_ NB194_196.out _; (with_reducible repeat (first | refine blk_drewN ?_ _ | refine blk_drew ?_ | refine blk_alloc ?_ _)); refine blk_far ?_ NB194_196.out _; (with_reducible repeat (first | refine blk_drewN ?_ _ | refine blk_drew ?_ | refine blk_alloc ?_ _)); refine blk_far ?_ NB194_196.out _; (with_reducible repeat (first | refine blk_drewN ?_ _ | refine blk_drew ?_ | refine blk_alloc ?_ _)); exact BK194.out⟩
   have n4_ : Aside0 ((((w31.setCell ⟨gb196, 0, none⟩ (.int .i64 ((rd_T38 x195001_1 x28_1).f0))).setCell ⟨gb196, 1, none⟩ (.int .i64 ((rd_T38 x195001_1 x28_1).f1))).setCell ⟨gb196, 2, none⟩ (.int .i64 ((rd_T38 x195001_1 x28_1).f2))).heap[gb196]? = some (.cells #[.int .i64 ((rd_T38 x195001_1 x28_1).f0), .int .i64 ((rd_T38 x195001_1 x28_1).f1), .int .i64 ((rd_T38 x195001_1 x28_1).f2)] 38 (0, 0))) := ⟨by (with_reducible repeat (first | refine blk_drewN ?_ _ | refine blk_drew ?_ | refine blk_alloc ?_ _)); refine blk_put (cs := #[.int .i64 ((rd_T38 x195001_1 x28_1).f0), .int .i64 ((rd_T38 x195001_1 x28_1).f1), .int .i64 0]) ?_ 2 _ rfl; (with_reducible repeat (first | refine blk_drewN ?_ _ | refine blk_drew ?_ | refine blk_alloc ?_ _)); refine blk_put (cs := #[.int .i64 ((rd_T38 x195001_1 x28_1).f0), .int .i64 0, .int .i64 0]) ?_ 1 _ rfl; (with_reducible repeat (first | refine blk_drewN ?_ _ | refine blk_drew ?_ | refine blk_alloc ?_ _)); refine blk_put (cs := #[.int .i64 0, .int .i64 0, .int .i64 0]) ?_ 0 _ rfl; (with_reducible repeat (first | refine blk_drewN ?_ _ | refine blk_drew ?_ | refine blk_alloc ?_ _)); exact BK196.out⟩
   have n5_ : Aside0 (Below w.heap.size w (((w31.setCell ⟨gb196, 0, none⟩ (.int .i64 ((rd_T38 x195001_1 x28_1).f0))).setCell ⟨gb196, 1, none⟩ (.int .i64 ((rd_T38 x195001_1 x28_1).f1))).setCell ⟨gb196, 2, none⟩ (.int .i64 ((rd_T38 x195001_1 x28_1).f2)))) := ⟨by repeat (first | (with_reducible first | exact HB.out | apply below_alloc | apply pw_below_drewN | apply below_drew1 | refine below_set ?_ GE187.out | refine below_set ?_ GE188.out | refine below_set ?_ GE194.out | refine below_set ?_ GE196.out) | exact HB.out)⟩
   (try clear HO_195001)
   (try clear BK187)
   (try clear BK188)
   (try clear BK194)
   (try clear BK196)
   (try clear HB)
   generalize (((w31.setCell ⟨gb196, 0, none⟩ (.int .i64 ((rd_T38 x195001_1 x28_1).f0))).setCell ⟨gb196, 1, none⟩ (.int .i64 ((rd_T38 x195001_1 x28_1).f1))).setCell ⟨gb196, 2, none⟩ (.int .i64 ((rd_T38 x195001_1 x28_1).f2))) = w36 at n0_ n1_ n2_ n3_ n4_ n5_ ⊢
   have HO_195001 := n0_
   have BK187 := n1_
   have BK188 := n2_
   have BK194 := n3_
   have BK196 := n4_
   have HB := n5_
   clear n0_ n1_ n2_ n3_ n4_ n5_
   have n0_ := mkA (Kd.R_drew HO_195001.out)
   have n1_ := mkA (blk_drew BK187.out)
   have n2_ := mkA (blk_drew BK188.out)
   have n3_ := mkA (blk_drew BK194.out)
   have n4_ := mkA (blk_drew BK196.out)
   have n5_ := mkA (below_drew1 HB.out)
   clear HO_195001
   clear BK187
   clear BK188
   clear BK194
   clear BK196
   clear HB
   have HO_195001 := n0_
   have BK187 := n1_
   have BK188 := n2_
   have BK194 := n3_
   have BK196 := n4_
   have HB := n5_
   clear n0_ n1_ n2_ n3_ n4_ n5_
   refine start_ (n := 11) (S := fun w' => w'.cell? ⟨gb194, 0, none⟩ = some (.string a0_0) ∧ w'.cell? ⟨gb194, 1, none⟩ = some (.slice (some ad195) x195001_1.length co30) ∧ w'.cell? ⟨gb196, 0, none⟩ = some (.int .i64 ((rd_T38 x195001_1 x28_1).f0)) ∧ w'.cell? ⟨gb196, 1, none⟩ = some (.int .i64 ((rd_T38 x195001_1 x28_1).f1)) ∧ w'.cell? ⟨gb196, 2, none⟩ = some (.int .i64 ((rd_T38 x195001_1 x28_1).f2))) (ds := [10]) impl_ScaleRecipe.d0 (by kernel_rfl) rfl rfl ⟨(blk_cell BK194.out 0).trans rfl, (blk_cell BK194.out 1).trans rfl, (blk_cell BK196.out 0).trans rfl, (blk_cell BK196.out 1).trans rfl, (blk_cell BK196.out 2).trans rfl⟩ (fun hHeld => ?_); refine with_tabW impl_ScaleRecipe.tab10 impl_ScaleRecipe.bits10 (fun HT_ HW_ => ?_)
   generalize w36.drew = w37 at HO_195001 BK187 BK188 BK194 BK196 HB hHeld ⊢
   refine p1_ HT_.out 0 36 impl_ScaleRecipe.d1 ?_
   refine p1_ HT_.out 2 38 impl_ScaleRecipe.d2 ?_
   refine p1_ HT_.out 3 39 impl_ScaleRecipe.d3 ?_
   refine p1_ HT_.out 6 42 impl_ScaleRecipe.d4 ?_
   refine take_ (i := 1) (N := some 37) (v := ?_) (a' := ?_) impl_ScaleRecipe.d5 rfl rfl (take_ofW HT_.out HW_.out (by kernel_rfl)) (fun _ _ _ h => h) (Or.inl ⟨by rfl, ?_⟩) hHeld ?_ ?_
   rotate_left
   · rintro w' ⟨s0, s1, s2, s3, s4⟩
     go_simp
     with_reducible rfl
   rotate_left
   · simp only [Act.put, sA, sB, sC, i64_w, i32_w]
     rfl
   refine take_ (i := 4) (N := some 40) (v := ?_) (a' := ?_) impl_ScaleRecipe.d6 rfl rfl (take_ofW HT_.out HW_.out (by kernel_rfl)) (fun _ _ _ h => h) (Or.inl ⟨by rfl, ?_⟩) hHeld ?_ ?_
   rotate_left
   · rintro w' ⟨s0, s1, s2, s3, s4⟩
     go_simp
     with_reducible rfl
   rotate_left
   · simp only [Act.put, sA, sB, sC, i64_w, i32_w]
     rfl
   refine p1_ HT_.out 5 41 impl_ScaleRecipe.d7 ?_
   refine one_ (i := 7) (N := some 43) impl_ScaleRecipe.d8 rfl rfl (one_of HT_.out (by kernel_rfl)) (by decide) (fun K hK => ?_)
   refine goes_ Try.func61 (by kernel_rfl) rfl #[.int .i64 (wrap64 (((rd_T38 x195001_1 x28_1).f2) * 100)), .int .i64 a1] (by rfl) rfl rfl (by (try simp only [List.map_toArray, List.map_cons, List.map_nil]); first | done | rfl | (simp only [List.length_drop, List.length_take]; rfl)) ?_
   with_reducible refine (impl_nearest.calls (wrap64 (((rd_T38 x195001_1 x28_1).f2) * 100)) a1 t197 _ A28.out).mono ?_
   rintro e w38 ⟨rfl, hb⟩
   refine ⟨_, rfl, ?_⟩
   have n0_ := mkA (Kd.R_below (by (with_reducible repeat (first | apply Kd.R_alloc | apply Kd.R_drewN | apply Kd.R_drew)); exact HO_195001.out) hb)
   have n1_ := mkA (blk_below (g := gb187) (o := .cells #[.string a0_0, .slice A0_1 l0_1.length c0_1] 29 (0, 0)) (bl_ BK187.out) hb)
   have n2_ := mkA (blk_below (g := gb188) (o := .cells #[.string (⟨#[]⟩ : ByteArray), .slice none 0 0] 29 (0, 0)) (bl_ BK188.out) hb)
   have n3_ := mkA (blk_below (g := gb194) (o := .cells #[.string a0_0, .slice (some ad195) x195001_1.length co30] 29 (0, 0)) (bl_ BK194.out) hb)
   have n4_ := mkA (blk_below (g := gb196) (o := .cells #[.int .i64 ((rd_T38 x195001_1 x28_1).f0), .int .i64 ((rd_T38 x195001_1 x28_1).f1), .int .i64 ((rd_T38 x195001_1 x28_1).f2)] 38 (0, 0)) (bl_ BK196.out) hb)
   have n5_ := mkA (below_step (bs4_ HB.out GE187.out GE188.out GE194.out GE196.out) hb)
   clear HO_195001
   clear BK187
   clear BK188
   clear BK194
   clear BK196
   clear HB
   have HO_195001 := n0_
   have BK187 := n1_
   have BK188 := n2_
   have BK194 := n3_
   have BK196 := n4_
   have HB := n5_
   clear n0_ n1_ n2_ n3_ n4_ n5_
   (try clear hb)
   (try clear hb2)
   (try clear hk)
   (try clear hi)
   have p29 : 0 ≤ (x28_1 : Int) := dt_
   have q29 : (x28_1 : Int) < ((x195001_1.length : Int) : Int) := dt_
   obtain ⟨go29, co29, eo29, gb29, gl29, cl29, HG29⟩ := Kd.R_form HO_195001.out (by omega)
   (first | cases eo29 | (injection eo29 with ea_ en_ ec_; (first | subst ea_ | (injection ea_ with ea_; subst ea_)); subst ec_; clear en_))
   have GB29 := mkA gb29
   have GG29 := mkA HG29
   clear gb29 gl29 HG29
   (first | simp only [add_plain] at hx195_0 | skip)
   (first | simp only [add_plain] at hx195_1 | skip)
   (first | simp only [add_plain] at hx195_2 | skip)
   obtain ⟨ce29, hcl29, hM29, hcc29, hfr29⟩ := Kd.R_elem HO_195001.out z38 (x28_1 : Int) p29 q29
   obtain rfl := k38_openM hM29
   have hx29_0 : World.cell? _ ⟨go29, (x28_1 : Int).toNat * 3, none⟩ = some (.int .i64 ((rd_T38 x195001_1 x28_1).f0)) := hcc29 0 _ rfl
   have hx29_1 : World.cell? _ ⟨go29, (x28_1 : Int).toNat * 3 + 1, none⟩ = some (.int .i64 ((rd_T38 x195001_1 x28_1).f1)) := hcc29 1 _ rfl
   have hx29_2 : World.cell? _ ⟨go29, (x28_1 : Int).toNat * 3 + 2, none⟩ = some (.int .i64 ((rd_T38 x195001_1 x28_1).f2)) := hcc29 2 _ rfl
   have hf29_0 : World.frozen? _ ⟨go29, (x28_1 : Int).toNat * 3, none⟩ = false := hfr29 0
   have hf29_1 : World.frozen? _ ⟨go29, (x28_1 : Int).toNat * 3 + 1, none⟩ = false := hfr29 1
   have hf29_2 : World.frozen? _ ⟨go29, (x28_1 : Int).toNat * 3 + 2, none⟩ = false := hfr29 2
   clear hcl29 hcc29 hfr29 hM29
   replace p29 := eq_true p29
   replace q29 := eq_true q29
   obtain ⟨ce39, hcl39, hM39, hcc39, hfr39⟩ := Kd.R_elem HO_195001.out z38 (x28_1 : Int) (dt_) (by have h_ : (x28_1 : Int) < ((x195001_1.length : Int) : Int) := dt_; first | exact h_ | (have e_ := (Kd.R_reads' HO_195001.out).1; omega) | simpa using h_)
   obtain rfl := k38_openM hM39
   have HP39 := (Kd.R_seg HO_195001.out (x28_1 : Int) (dt_) (by have h_ : (x28_1 : Int) < ((x195001_1.length : Int) : Int) := dt_; first | exact h_ | (have e_ := (Kd.R_reads' HO_195001.out).1; omega) | simpa using h_) (seg := [.int .i64 t197]) (j := 2) hcl39 hcc39 (show 3 ≤ 3 from by decide) (x' := (⟨(rd_T38 x195001_1 x28_1).f0, (rd_T38 x195001_1 x28_1).f1, t197⟩ : S38)) (k38_mkM _ _ _ (⟨(rd_T38 x195001_1 x28_1).f0, (rd_T38 x195001_1 x28_1).f1, t197⟩ : S38) ) (fun _ hk => hk)).1
   rw [← Ny198.out] at HP39
   have HQ39 := mkA HP39
   clear hcl39 hcc39 hfr39 hM39 HP39
   refine hK.out _ _ ⟨(blk_cell BK194.out 0).trans rfl, (blk_cell BK194.out 1).trans rfl, (blk_cell BK196.out 0).trans rfl, (blk_cell BK196.out 1).trans rfl, (blk_cell BK196.out 2).trans rfl⟩ (fun hHeld => ?_)
   clear hK K
   refine norm_ (a' := ?_) ?_ ?_
   rotate_left
   · show Act.put _ (some 43) _ = _
     simp only [Act.put, sA, sB, sC, i64_w, i32_w]
     rfl
   refine p1_ HT_.out 8 44 impl_ScaleRecipe.d9 ?_
   refine p1_ HT_.out 9 45 impl_ScaleRecipe.d10 ?_
   refine last_ (i := 10) (N := none) impl_ScaleRecipe.d11 rfl rfl (one_of HT_.out (by kernel_rfl)) (by decide) (fun K hK => ?_)
   refine skip_ (w1 := ?_) (by rfl) rfl ?_ ?_
   rotate_left
   · go_simp
     rfl
   refine hK.out _ _ ?_
   clear hK K
   refine done_ (done_of HT_.out (by kernel_rfl)) ?_
   try go_wp2
   go_roundg k1
   case measure => have := HK1.out; omega
   case rel => exact ⟨(wrap64 (x28_1 + 1)), (y198), (.slice (some ⟨go29, 0, none⟩) x195001_1.length co30), (by first | rfl | (simp; done) | (simp [*]; done) | (simp [i64_w, i32_w]; done)), ⟨by first | exact HU_.out | (rw [Ny198.out, List.length_set]; exact HU_.out)⟩, H', ⟨by have := HK1.out; omega⟩, ⟨by (with_reducible repeat (first | apply Kd.R_alloc | apply Kd.R_drewN | apply Kd.R_drew)); exact Kd.R_mono HQ39.out (fun _ hk => trivial)⟩, ⟨by (with_reducible repeat (first | refine blk_drewN ?_ _ | refine blk_drew ?_ | refine blk_alloc ?_ _)); refine blk_far ?_ (by have h_ := Kd.R_ne HO_195001.out BK187.out (by decide); intro e_; exact h_ (by rw [e_]; rfl)) _; (with_reducible repeat (first | refine blk_drewN ?_ _ | refine blk_drew ?_ | refine blk_alloc ?_ _)); exact BK187.out⟩, ⟨by (with_reducible repeat (first | refine blk_drewN ?_ _ | refine blk_drew ?_ | refine blk_alloc ?_ _)); refine blk_far ?_ (by have h_ := Kd.R_ne HO_195001.out BK188.out (by decide); intro e_; exact h_ (by rw [e_]; rfl)) _; (with_reducible repeat (first | refine blk_drewN ?_ _ | refine blk_drew ?_ | refine blk_alloc ?_ _)); exact BK188.out⟩, ⟨by (with_reducible repeat (first | refine blk_drewN ?_ _ | refine blk_drew ?_ | refine blk_alloc ?_ _)); refine blk_far ?_ (by have h_ := Kd.R_ne HO_195001.out BK194.out (by decide); intro e_; exact h_ (by rw [e_]; rfl)) _; (with_reducible repeat (first | refine blk_drewN ?_ _ | refine blk_drew ?_ | refine blk_alloc ?_ _)); exact BK194.out⟩, ⟨by repeat (first | (with_reducible first | exact HB.out | apply below_alloc | apply pw_below_drewN | apply below_drew1 | refine below_set ?_ GB29.out | refine below_set ?_ GE187.out | refine below_set ?_ GE188.out | refine below_set ?_ GE194.out | refine below_set ?_ GE196.out) | exact HB.out)⟩⟩
end Go.Proofs.Yteijbdngbmciaaa.GFnExactScaleRecipe

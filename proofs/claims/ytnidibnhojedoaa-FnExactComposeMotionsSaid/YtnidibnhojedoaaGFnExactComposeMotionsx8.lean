-- Written by the session's own program (gen.py) out of the translation's print. Lean checks it.
import Derived.Test.YtnidibnhojedoaaGFnExactComposeMotionsx0
import Derived.Test.YtnidibnhojedoaaGFnExactComposeMotionsx6
import Derived.Test.YtnidibnhojedoaaGFnExactComposeMotionsx7
namespace Go.Proofs.Ytnidibnhojedoaa.GFnExactComposeMotions
open Go.RowKit Go.Proofs.YtnidibnhojedoaaW.PrintWords Go.Proofs.YtnidibnhojedoaaW.PrintLast Go.Proofs.YtnidibnhojedoaaW.PrintMore
attribute [local go_sem] max2_int min2_int max_two min_two max_three min_three max_four min_four   -- for this text's walks alone
set_option linter.unusedVariables false
set_option linter.unusedSimpArgs false

/-! ### spec_ComposeMotions: function 37 -/
def spec_ComposeMotions.j0 : Nat → Bool → Int → Int → List Int → Int → Int → Int → Int → Int → Int → Option (Int × Int × Int × Int)
  | 0, _, _, _, _, _, _, _, _, _, _ => none
  | k + 1, x20, x219000, x219001, x219002, x220000, x220001, x220002, x221000, x221001, x221002 => if x20 = true then (some (0, 0, 0, 1)) else ((spec_l02Compose.f k x220000 x221000).bind fun t224 => ((spec_l18Move.f k [(⟨x219000, x219001, x219002⟩ : S29)] [(⟨x220000, x220001, x220002⟩ : S31)] 0 0).bind fun bt226 => ((spec_l18Move.f k [(⟨x219000, x219001, x219002⟩ : S29)] [(⟨x221000, x221001, x221002⟩ : S31)] bt226.1 bt226.2).bind fun bt228 => ((spec_l18Move.f k [(⟨x219000, x219001, x219002⟩ : S29)] [(⟨t224, 0, 0⟩ : S31)] 0 0).bind fun bt230 => ((spec_l18Mod.f (wrap64 (bt228.1 - bt230.1)) x219000).bind fun t232 => ((spec_l18Mod.f (wrap64 (bt228.2 - bt230.2)) x219001).bind fun t233 => (some (t224, t232, t233, 0))))))))
def spec_ComposeMotions.f (k : Nat) (a0_0 : Int) (a0_1 : Int) (l0_2 : List Int) (a1_0 : Int) (a1_1 : Int) (a1_2 : Int) (a2_0 : Int) (a2_1 : Int) (a2_2 : Int) : Option (Int × Int × Int × Int) := (spec_l18Ok.f k [(⟨a0_0, a0_1, l0_2⟩ : S29)] [(⟨a1_0, a1_1, a1_2⟩ : S31)]).bind fun t222 => (if t222 = true then ((spec_l18Ok.f k [(⟨a0_0, a0_1, l0_2⟩ : S29)] [(⟨a2_0, a2_1, a2_2⟩ : S31)]).bind fun t223 => (spec_ComposeMotions.j0 k (!t223) a0_0 a0_1 l0_2 a1_0 a1_1 a1_2 a2_0 a2_1 a2_2)) else (spec_ComposeMotions.j0 k true a0_0 a0_1 l0_2 a1_0 a1_1 a1_2 a2_0 a2_1 a2_2))
theorem spec_ComposeMotions.mono_l : ∀ k, (∀ y0 y1 y2 y3 y4 y5 y6 y7 y8 y9, LeO (spec_ComposeMotions.j0 k y0 y1 y2 y3 y4 y5 y6 y7 y8 y9) (spec_ComposeMotions.j0 (k + 1) y0 y1 y2 y3 y4 y5 y6 y7 y8 y9))
  | 0 => fun _ _ _ _ _ _ _ _ _ _ r h => by simp [spec_ComposeMotions.j0] at h
  | k + 1 => by
    have ih0 := spec_ComposeMotions.mono_l k
    · intro y0 y1 y2 y3 y4 y5 y6 y7 y8 y9
      unfold spec_ComposeMotions.j0
      repeat' first
      | (with_reducible exact ih0 _ _ _ _ _ _ _ _ _ _)
      | (with_reducible exact spec_l02Compose.mono _ _ _)
      | (with_reducible exact spec_l18Move.mono _ _ _ _ _)
      | (with_reducible exact spec_l18Ok.mono _ _ _)
      | (with_reducible exact LeO.refl _)
      | (with_reducible exact LeO.none _)
      | (with_reducible refine LeO.ite ?_ ?_)
      | (with_reducible refine LeO.bind ?_ (fun _ => ?_))
      | exact ih0 _ _ _ _ _ _ _ _ _ _
      | exact spec_l02Compose.mono _ _ _
      | exact spec_l18Move.mono _ _ _ _ _
      | exact spec_l18Ok.mono _ _ _
      | exact LeO.none _
      | refine LeO.ite ?_ ?_
      | refine LeO.bind ?_ (fun _ => ?_)
theorem spec_ComposeMotions.mono : ∀ a0 a1 a2 a3 a4 a5 a6 a7 a8 k, LeO (spec_ComposeMotions.f k a0 a1 a2 a3 a4 a5 a6 a7 a8) (spec_ComposeMotions.f (k + 1) a0 a1 a2 a3 a4 a5 a6 a7 a8) := by
  intro a0 a1 a2 a3 a4 a5 a6 a7 a8 k
  have ih0 := spec_ComposeMotions.mono_l k
  unfold spec_ComposeMotions.f
  repeat' first
      | (with_reducible exact ih0 _ _ _ _ _ _ _ _ _ _)
      | (with_reducible exact spec_l02Compose.mono _ _ _)
      | (with_reducible exact spec_l18Move.mono _ _ _ _ _)
      | (with_reducible exact spec_l18Ok.mono _ _ _)
      | (with_reducible exact LeO.refl _)
      | (with_reducible exact LeO.none _)
      | (with_reducible refine LeO.ite ?_ ?_)
      | (with_reducible refine LeO.bind ?_ (fun _ => ?_))
      | exact ih0 _ _ _ _ _ _ _ _ _ _
      | exact spec_l02Compose.mono _ _ _
      | exact spec_l18Move.mono _ _ _ _ _
      | exact spec_l18Ok.mono _ _ _
      | exact LeO.none _
      | refine LeO.ite ?_ ?_
      | refine LeO.bind ?_ (fun _ => ?_)
open List renaming setIfInBounds_toArray → sA, set_cons_zero → sB, set_cons_succ → sC
open Go.Proofs.YtnidibnhojedoaaW.PrintWords.Aside0 renaming mk → mkA
open Go.Proofs.YtnidibnhojedoaaX (dt_ bc_ p0_ p1_ bl_ cb_ bs0_ bs1_ bs2_ bs3_ bs4_ bs5_ bs6_ bs7_ bs8_ bs9_ bs10_ bs11_ bs12_)
set_option maxHeartbeats 8000000 in
set_option maxRecDepth 100000 in
theorem spec_ComposeMotions.calls (k : Nat) (a0_0 : Int) (a0_1 : Int) (A0_2 : Option Addr) (c0_2 : Nat) (l0_2 : List Int) (a1_0 : Int) (a1_1 : Int) (a1_2 : Int) (a2_0 : Int) (a2_1 : Int) (a2_2 : Int) (r1 : Int) (r2 : Int) (r3 : Int) (r4 : Int) (w : World) (hr0_2 : Kd.C (Kd.int .i64) w A0_2 l0_2.length l0_2) (hc0_2 : l0_2.length ≤ c0_2) (h : spec_ComposeMotions.f k a0_0 a0_1 l0_2 a1_0 a1_1 a1_2 a2_0 a2_1 a2_2 = some (r1, r2, r3, r4)) :
 Calls Try.prog 37 #[.agg #[.int .i64 a0_0, .int .i64 a0_1, .slice A0_2 l0_2.length c0_2], .agg #[.int .i64 a1_0, .int .i64 a1_1, .int .i64 a1_2], .agg #[.int .i64 a2_0, .int .i64 a2_1, .int .i64 a2_2]] w fun e w' => e = .returned (.tuple #[.agg #[.int .i64 r1, .int .i64 r2, .int .i64 r3], .int .i64 r4]) ∧ Below w.heap.size w w' := by
 have hu29 := Try.underlying29
 have hu31 := Try.underlying31
 have HR0_2 := mkA hr0_2
 have HC0_2 := mkA hc0_2
 clear hr0_2 hc0_2
 have HB := mkA (Below.refl w.heap.size w)
 have H : ((spec_l18Ok.f k [(⟨a0_0, a0_1, l0_2⟩ : S29)] [(⟨a1_0, a1_1, a1_2⟩ : S31)]).bind fun t222 => (if t222 = true then ((spec_l18Ok.f k [(⟨a0_0, a0_1, l0_2⟩ : S29)] [(⟨a2_0, a2_1, a2_2⟩ : S31)]).bind fun t223 => (spec_ComposeMotions.j0 k (!t223) a0_0 a0_1 l0_2 a1_0 a1_1 a1_2 a2_0 a2_1 a2_2)) else (spec_ComposeMotions.j0 k true a0_0 a0_1 l0_2 a1_0 a1_1 a1_2 a2_0 a2_1 a2_2))) = some (r1, r2, r3, r4) := h
 clear h
 have HC4 := mkA H
 clear H
 go_enter Try.func37, Try.ntmps37
 go_upto_region 1 with (first | ((with_reducible refine gate_dst (N := 3) rfl ?_); refine box_event ?hg (N := 3) ?hd (cs := #[.int .i64 a0_0, .int .i64 a0_1, .slice A0_2 l0_2.length c0_2]) (t := 29) ?hr ?_; (case hd => rfl); (case hg => rfl); (case hr => first | (go_simp; done) | (go_simp; rfl)); intro gb218 hg w5 hbox hb; have n0_ := mkA (below_step (bs0_ HB.out) hb); have n1_ := mkA (hbox); have n2_ := mkA ((by rw [hg]; exact (below_size (bs0_ HB.out)) : w.heap.size ≤ gb218)); have n3_ := mkA ((by rw [hg]; exact (below_size (bs0_ HB.out)) : w.heap.size ≤ gb218)); clear HB; have HB := n0_; have BK218 := n1_; have GW218 := n2_; have GE218 := n3_; clear n0_ n1_ n2_ n3_; clear hb hbox hg) | ((with_reducible refine gate_dst (N := 4) rfl ?_); refine box_event ?hg (N := 4) ?hd (cs := #[.int .i64 a1_0, .int .i64 a1_1, .int .i64 a1_2]) (t := 31) ?hr ?_; (case hd => rfl); (case hg => rfl); (case hr => first | (go_simp; done) | (go_simp; rfl)); intro gb219 hg w6 hbox hb; have n0_ := mkA (blk_below (g := gb218) (o := .cells #[.int .i64 a0_0, .int .i64 a0_1, .slice A0_2 l0_2.length c0_2] 29 (0, 0)) (bl_ BK218.out) hb); have n1_ := mkA (below_step (bs1_ HB.out GE218.out) hb); have n2_ := mkA (hbox); have n3_ := mkA ((by rw [hg]; exact (below_size (bs1_ HB.out GE218.out)) : w.heap.size ≤ gb219)); have n4_ := mkA ((by rw [hg]; exact (below_size (bs1_ HB.out GE218.out)) : w.heap.size ≤ gb219)); have n5_ := mkA ((by rw [hg]; exact Nat.ne_of_lt (blk_lt (g := gb218) (o := .cells #[.int .i64 a0_0, .int .i64 a0_1, .slice A0_2 l0_2.length c0_2] 29 (0, 0)) (bl_ BK218.out)) : gb218 ≠ gb219)); have n6_ := mkA ((by rw [hg]; exact Nat.ne_of_gt (blk_lt (g := gb218) (o := .cells #[.int .i64 a0_0, .int .i64 a0_1, .slice A0_2 l0_2.length c0_2] 29 (0, 0)) (bl_ BK218.out)) : gb219 ≠ gb218)); clear BK218; clear HB; have BK218 := n0_; have HB := n1_; have BK219 := n2_; have GW219 := n3_; have GE219 := n4_; have NB218_219 := n5_; have NB219_218 := n6_; clear n0_ n1_ n2_ n3_ n4_ n5_ n6_; clear hb hbox hg) | ((with_reducible refine gate_dst (N := 5) rfl ?_); refine box_event ?hg (N := 5) ?hd (cs := #[.int .i64 a2_0, .int .i64 a2_1, .int .i64 a2_2]) (t := 31) ?hr ?_; (case hd => rfl); (case hg => rfl); (case hr => first | (go_simp; done) | (go_simp; rfl)); intro gb220 hg w7 hbox hb; have n0_ := mkA (blk_below (g := gb218) (o := .cells #[.int .i64 a0_0, .int .i64 a0_1, .slice A0_2 l0_2.length c0_2] 29 (0, 0)) (bl_ BK218.out) hb); have n1_ := mkA (blk_below (g := gb219) (o := .cells #[.int .i64 a1_0, .int .i64 a1_1, .int .i64 a1_2] 31 (0, 0)) (bl_ BK219.out) hb); have n2_ := mkA (below_step (bs2_ HB.out GE218.out GE219.out) hb); have n3_ := mkA (hbox); have n4_ := mkA ((by rw [hg]; exact (below_size (bs2_ HB.out GE218.out GE219.out)) : w.heap.size ≤ gb220)); have n5_ := mkA ((by rw [hg]; exact (below_size (bs2_ HB.out GE218.out GE219.out)) : w.heap.size ≤ gb220)); have n6_ := mkA ((by rw [hg]; exact Nat.ne_of_lt (blk_lt (g := gb218) (o := .cells #[.int .i64 a0_0, .int .i64 a0_1, .slice A0_2 l0_2.length c0_2] 29 (0, 0)) (bl_ BK218.out)) : gb218 ≠ gb220)); have n7_ := mkA ((by rw [hg]; exact Nat.ne_of_gt (blk_lt (g := gb218) (o := .cells #[.int .i64 a0_0, .int .i64 a0_1, .slice A0_2 l0_2.length c0_2] 29 (0, 0)) (bl_ BK218.out)) : gb220 ≠ gb218)); have n8_ := mkA ((by rw [hg]; exact Nat.ne_of_lt (blk_lt (g := gb219) (o := .cells #[.int .i64 a1_0, .int .i64 a1_1, .int .i64 a1_2] 31 (0, 0)) (bl_ BK219.out)) : gb219 ≠ gb220)); have n9_ := mkA ((by rw [hg]; exact Nat.ne_of_gt (blk_lt (g := gb219) (o := .cells #[.int .i64 a1_0, .int .i64 a1_1, .int .i64 a1_2] 31 (0, 0)) (bl_ BK219.out)) : gb220 ≠ gb219)); clear BK218; clear BK219; clear HB; have BK218 := n0_; have BK219 := n1_; have HB := n2_; have BK220 := n3_; have GW220 := n4_; have GE220 := n5_; have NB218_220 := n6_; have NB220_218 := n7_; have NB219_220 := n8_; have NB220_219 := n9_; clear n0_ n1_ n2_ n3_ n4_ n5_ n6_ n7_ n8_ n9_; clear hb hbox hg) | ((with_reducible refine gate_dst (N := 6) rfl ?_); refine box_event ?hg (N := 6) ?hd (cs := #[.int .i64 0, .int .i64 0, .int .i64 0]) (t := 31) ?hr ?_; (case hd => rfl); (case hg => rfl); (case hr => first | (go_simp; done) | (go_simp; rfl)); intro gb221 hg w8 hbox hb; have n0_ := mkA (blk_below (g := gb218) (o := .cells #[.int .i64 a0_0, .int .i64 a0_1, .slice A0_2 l0_2.length c0_2] 29 (0, 0)) (bl_ BK218.out) hb); have n1_ := mkA (blk_below (g := gb219) (o := .cells #[.int .i64 a1_0, .int .i64 a1_1, .int .i64 a1_2] 31 (0, 0)) (bl_ BK219.out) hb); have n2_ := mkA (blk_below (g := gb220) (o := .cells #[.int .i64 a2_0, .int .i64 a2_1, .int .i64 a2_2] 31 (0, 0)) (bl_ BK220.out) hb); have n3_ := mkA (below_step (bs3_ HB.out GE218.out GE219.out GE220.out) hb); have n4_ := mkA (hbox); have n5_ := mkA ((by rw [hg]; exact (below_size (bs3_ HB.out GE218.out GE219.out GE220.out)) : w.heap.size ≤ gb221)); have n6_ := mkA ((by rw [hg]; exact (below_size (bs3_ HB.out GE218.out GE219.out GE220.out)) : w.heap.size ≤ gb221)); have n7_ := mkA ((by rw [hg]; exact Nat.ne_of_lt (blk_lt (g := gb218) (o := .cells #[.int .i64 a0_0, .int .i64 a0_1, .slice A0_2 l0_2.length c0_2] 29 (0, 0)) (bl_ BK218.out)) : gb218 ≠ gb221)); have n8_ := mkA ((by rw [hg]; exact Nat.ne_of_gt (blk_lt (g := gb218) (o := .cells #[.int .i64 a0_0, .int .i64 a0_1, .slice A0_2 l0_2.length c0_2] 29 (0, 0)) (bl_ BK218.out)) : gb221 ≠ gb218)); have n9_ := mkA ((by rw [hg]; exact Nat.ne_of_lt (blk_lt (g := gb219) (o := .cells #[.int .i64 a1_0, .int .i64 a1_1, .int .i64 a1_2] 31 (0, 0)) (bl_ BK219.out)) : gb219 ≠ gb221)); have n10_ := mkA ((by rw [hg]; exact Nat.ne_of_gt (blk_lt (g := gb219) (o := .cells #[.int .i64 a1_0, .int .i64 a1_1, .int .i64 a1_2] 31 (0, 0)) (bl_ BK219.out)) : gb221 ≠ gb219)); have n11_ := mkA ((by rw [hg]; exact Nat.ne_of_lt (blk_lt (g := gb220) (o := .cells #[.int .i64 a2_0, .int .i64 a2_1, .int .i64 a2_2] 31 (0, 0)) (bl_ BK220.out)) : gb220 ≠ gb221)); have n12_ := mkA ((by rw [hg]; exact Nat.ne_of_gt (blk_lt (g := gb220) (o := .cells #[.int .i64 a2_0, .int .i64 a2_1, .int .i64 a2_2] 31 (0, 0)) (bl_ BK220.out)) : gb221 ≠ gb220)); clear BK218; clear BK219; clear BK220; clear HB; have BK218 := n0_; have BK219 := n1_; have BK220 := n2_; have HB := n3_; have BK221 := n4_; have GW221 := n5_; have GE221 := n6_; have NB218_221 := n7_; have NB221_218 := n8_; have NB219_221 := n9_; have NB221_219 := n10_; have NB220_221 := n11_; have NB221_220 := n12_; clear n0_ n1_ n2_ n3_ n4_ n5_ n6_ n7_ n8_ n9_ n10_ n11_ n12_; clear hb hbox hg))
 (try simp only [Act.put, sA, sB, sC])
 go_cut [20] (fun v20 wc => ∃ (kq : Nat) (x20_3 : Bool), v20 = .bool x20_3 ∧ Aside0 (spec_ComposeMotions.j0 kq x20_3 a0_0 a0_1 l0_2 a1_0 a1_1 a1_2 a2_0 a2_1 a2_2 = some (r1, r2, r3, r4)) ∧ Aside0 (kq ≤ k) ∧ Aside0 (wc.heap[gb218]? = some (.cells #[.int .i64 a0_0, .int .i64 a0_1, (.slice A0_2 l0_2.length c0_2)] 29 (0, 0))) ∧ Aside0 (wc.heap[gb219]? = some (.cells #[.int .i64 a1_0, .int .i64 a1_1, .int .i64 a1_2] 31 (0, 0))) ∧ Aside0 (wc.heap[gb220]? = some (.cells #[.int .i64 a2_0, .int .i64 a2_1, .int .i64 a2_2] 31 (0, 0))) ∧ Aside0 (wc.heap[gb221]? = some (.cells #[.int .i64 0, .int .i64 0, .int .i64 0] 31 (0, 0))) ∧ Aside0 (Below w.heap.size w wc))
 case first =>
  have H := HC4.out
  clear HC4
  replace H := Option.bind_eq_some_iff.mp H
  obtain ⟨t222, A90, H⟩ := H
  replace H : (if t222 = true then ((spec_l18Ok.f k [(⟨a0_0, a0_1, l0_2⟩ : S29)] [(⟨a2_0, a2_1, a2_2⟩ : S31)]).bind fun t223 => (spec_ComposeMotions.j0 k (!t223) a0_0 a0_1 l0_2 a1_0 a1_1 a1_2 a2_0 a2_1 a2_2)) else (spec_ComposeMotions.j0 k true a0_0 a0_1 l0_2 a1_0 a1_1 a1_2 a2_0 a2_1 a2_2)) = some (r1, r2, r3, r4) := H
  have A9 := mkA A90
  clear A90
  by_cases c10 : t222 = true
  rotate_left
  · replace c10 := Bool.eq_false_iff.mpr c10
    subst c10
    have H1 : (spec_ComposeMotions.j0 k true a0_0 a0_1 l0_2 a1_0 a1_1 a1_2 a2_0 a2_1 a2_2) = some (r1, r2, r3, r4) := by rw [if_neg (show ¬ (false = true) by decide)] at H; exact H
    clear H
    have H := H1
    clear H1
    have H' := mkA H
    clear H
    go_wp2_with (first | ((with_reducible refine gate_callee (f := 53) rfl ?_); refine goesL_ (some 15) rfl rfl Try.func53 (by kernel_rfl) rfl #[.pointer (some ⟨gb218, 0, none⟩), .pointer (some ⟨gb219, 0, none⟩)] rfl (by (try simp only [List.map_toArray, List.map_cons, List.map_nil]); first | done | rfl | (simp only [List.length_drop, List.length_take]; rfl)) ?_; (with_reducible refine (spec_l18Ok.calls k _ [(⟨a0_0, a0_1, l0_2⟩ : S29)] _ [(⟨a1_0, a1_1, a1_2⟩ : S31)] false _ ?side1 ?side2 A9.out).mono ?_); (case side1 => exact Go.Proofs.YtnidibnhojedoaaX.rp_box (t := 29) (fr := (0, 0)) (bl_ BK218.out) (k29_mk _ (⟨a0_0, a0_1, l0_2⟩ : S29) (by exact HC0_2.out) (by repeat (first | exact (Kd.C_below HR0_2.out HB.out) | (with_reducible refine Kd.C_alloc ?_ _) | (with_reducible refine Kd.C_drewN ?_ _) | (with_reducible refine Kd.C_drew ?_))))); (case side2 => exact Go.Proofs.YtnidibnhojedoaaX.rp_box (t := 31) (fr := (0, 0)) (bl_ BK219.out) (k31_mk _ (⟨a1_0, a1_1, a1_2⟩ : S31) )); rintro e w14 ⟨rfl, hb⟩; refine ⟨_, rfl, ?_⟩; have n0_ := mkA (blk_below (g := gb218) (o := .cells #[.int .i64 a0_0, .int .i64 a0_1, .slice A0_2 l0_2.length c0_2] 29 (0, 0)) (bl_ BK218.out) hb); have n1_ := mkA (blk_below (g := gb219) (o := .cells #[.int .i64 a1_0, .int .i64 a1_1, .int .i64 a1_2] 31 (0, 0)) (bl_ BK219.out) hb); have n2_ := mkA (blk_below (g := gb220) (o := .cells #[.int .i64 a2_0, .int .i64 a2_1, .int .i64 a2_2] 31 (0, 0)) (bl_ BK220.out) hb); have n3_ := mkA (blk_below (g := gb221) (o := .cells #[.int .i64 0, .int .i64 0, .int .i64 0] 31 (0, 0)) (bl_ BK221.out) hb); have n4_ := mkA (below_step (bs4_ HB.out GE218.out GE219.out GE220.out GE221.out) hb); clear BK218; clear BK219; clear BK220; clear BK221; clear HB; have BK218 := n0_; have BK219 := n1_; have BK220 := n2_; have BK221 := n3_; have HB := n4_; clear n0_ n1_ n2_ n3_ n4_; (try clear hb); (try clear hb2); (try clear hk); (try clear hi)))
    go_meet
    case rel => exact ⟨_, (true), (by first | rfl | (simp; done) | (simp [*]; done) | (simp [i64_w, i32_w]; done)), H', ⟨by first | omega | exact Nat.le_refl _⟩, ⟨by (with_reducible repeat (first | refine blk_drewN ?_ _ | refine blk_drew ?_ | refine blk_alloc ?_ _)); exact BK218.out⟩, ⟨by (with_reducible repeat (first | refine blk_drewN ?_ _ | refine blk_drew ?_ | refine blk_alloc ?_ _)); exact BK219.out⟩, ⟨by (with_reducible repeat (first | refine blk_drewN ?_ _ | refine blk_drew ?_ | refine blk_alloc ?_ _)); exact BK220.out⟩, ⟨by (with_reducible repeat (first | refine blk_drewN ?_ _ | refine blk_drew ?_ | refine blk_alloc ?_ _)); exact BK221.out⟩, ⟨by repeat (first | (with_reducible first | exact HB.out | apply below_alloc | apply pw_below_drewN | apply below_drew1 | refine below_set ?_ GE218.out | refine below_set ?_ GE219.out | refine below_set ?_ GE220.out | refine below_set ?_ GE221.out) | exact HB.out)⟩⟩
  subst c10
  have H1 : ((spec_l18Ok.f k [(⟨a0_0, a0_1, l0_2⟩ : S29)] [(⟨a2_0, a2_1, a2_2⟩ : S31)]).bind fun t223 => (spec_ComposeMotions.j0 k (!t223) a0_0 a0_1 l0_2 a1_0 a1_1 a1_2 a2_0 a2_1 a2_2)) = some (r1, r2, r3, r4) := by rw [if_pos rfl] at H; exact H
  clear H
  have H := H1
  clear H1
  replace H := Option.bind_eq_some_iff.mp H
  obtain ⟨t223, A110, H⟩ := H
  replace H : (spec_ComposeMotions.j0 k (!t223) a0_0 a0_1 l0_2 a1_0 a1_1 a1_2 a2_0 a2_1 a2_2) = some (r1, r2, r3, r4) := H
  have A11 := mkA A110
  clear A110
  have H' := mkA H
  clear H
  go_wp2_with (first | ((with_reducible refine gate_callee (f := 53) rfl ?_); refine goesL_ (some 15) rfl rfl Try.func53 (by kernel_rfl) rfl #[.pointer (some ⟨gb218, 0, none⟩), .pointer (some ⟨gb219, 0, none⟩)] rfl (by (try simp only [List.map_toArray, List.map_cons, List.map_nil]); first | done | rfl | (simp only [List.length_drop, List.length_take]; rfl)) ?_; (with_reducible refine (spec_l18Ok.calls k _ [(⟨a0_0, a0_1, l0_2⟩ : S29)] _ [(⟨a1_0, a1_1, a1_2⟩ : S31)] true _ ?side1 ?side2 A9.out).mono ?_); (case side1 => exact Go.Proofs.YtnidibnhojedoaaX.rp_box (t := 29) (fr := (0, 0)) (bl_ BK218.out) (k29_mk _ (⟨a0_0, a0_1, l0_2⟩ : S29) (by exact HC0_2.out) (by repeat (first | exact (Kd.C_below HR0_2.out HB.out) | (with_reducible refine Kd.C_alloc ?_ _) | (with_reducible refine Kd.C_drewN ?_ _) | (with_reducible refine Kd.C_drew ?_))))); (case side2 => exact Go.Proofs.YtnidibnhojedoaaX.rp_box (t := 31) (fr := (0, 0)) (bl_ BK219.out) (k31_mk _ (⟨a1_0, a1_1, a1_2⟩ : S31) )); rintro e w12 ⟨rfl, hb⟩; refine ⟨_, rfl, ?_⟩; have n0_ := mkA (blk_below (g := gb218) (o := .cells #[.int .i64 a0_0, .int .i64 a0_1, .slice A0_2 l0_2.length c0_2] 29 (0, 0)) (bl_ BK218.out) hb); have n1_ := mkA (blk_below (g := gb219) (o := .cells #[.int .i64 a1_0, .int .i64 a1_1, .int .i64 a1_2] 31 (0, 0)) (bl_ BK219.out) hb); have n2_ := mkA (blk_below (g := gb220) (o := .cells #[.int .i64 a2_0, .int .i64 a2_1, .int .i64 a2_2] 31 (0, 0)) (bl_ BK220.out) hb); have n3_ := mkA (blk_below (g := gb221) (o := .cells #[.int .i64 0, .int .i64 0, .int .i64 0] 31 (0, 0)) (bl_ BK221.out) hb); have n4_ := mkA (below_step (bs4_ HB.out GE218.out GE219.out GE220.out GE221.out) hb); clear BK218; clear BK219; clear BK220; clear BK221; clear HB; have BK218 := n0_; have BK219 := n1_; have BK220 := n2_; have BK221 := n3_; have HB := n4_; clear n0_ n1_ n2_ n3_ n4_; (try clear hb); (try clear hb2); (try clear hk); (try clear hi)) | (go_at_call 53; (with_reducible refine (spec_l18Ok.calls k _ [(⟨a0_0, a0_1, l0_2⟩ : S29)] _ [(⟨a2_0, a2_1, a2_2⟩ : S31)] t223 _ ?side1 ?side2 A11.out).mono ?_); (case side1 => exact Go.Proofs.YtnidibnhojedoaaX.rp_box (t := 29) (fr := (0, 0)) (bl_ BK218.out) (k29_mk _ (⟨a0_0, a0_1, l0_2⟩ : S29) (by exact HC0_2.out) (by repeat (first | exact (Kd.C_below HR0_2.out HB.out) | (with_reducible refine Kd.C_alloc ?_ _) | (with_reducible refine Kd.C_drewN ?_ _) | (with_reducible refine Kd.C_drew ?_))))); (case side2 => exact Go.Proofs.YtnidibnhojedoaaX.rp_box (t := 31) (fr := (0, 0)) (bl_ BK220.out) (k31_mk _ (⟨a2_0, a2_1, a2_2⟩ : S31) )); rintro e w13 ⟨rfl, hb⟩; have n0_ := mkA (blk_below (g := gb218) (o := .cells #[.int .i64 a0_0, .int .i64 a0_1, .slice A0_2 l0_2.length c0_2] 29 (0, 0)) (bl_ BK218.out) hb); have n1_ := mkA (blk_below (g := gb219) (o := .cells #[.int .i64 a1_0, .int .i64 a1_1, .int .i64 a1_2] 31 (0, 0)) (bl_ BK219.out) hb); have n2_ := mkA (blk_below (g := gb220) (o := .cells #[.int .i64 a2_0, .int .i64 a2_1, .int .i64 a2_2] 31 (0, 0)) (bl_ BK220.out) hb); have n3_ := mkA (blk_below (g := gb221) (o := .cells #[.int .i64 0, .int .i64 0, .int .i64 0] 31 (0, 0)) (bl_ BK221.out) hb); have n4_ := mkA (below_step (bs4_ HB.out GE218.out GE219.out GE220.out GE221.out) hb); clear BK218; clear BK219; clear BK220; clear BK221; clear HB; have BK218 := n0_; have BK219 := n1_; have BK220 := n2_; have BK221 := n3_; have HB := n4_; clear n0_ n1_ n2_ n3_ n4_; (try clear hb); (try clear hb2); (try clear hk); (try clear hi)))
  go_meet
  case rel => exact ⟨_, (!t223), (by first | rfl | (simp; done) | (simp [*]; done) | (simp [i64_w, i32_w]; done)), H', ⟨by first | omega | exact Nat.le_refl _⟩, ⟨by (with_reducible repeat (first | refine blk_drewN ?_ _ | refine blk_drew ?_ | refine blk_alloc ?_ _)); exact BK218.out⟩, ⟨by (with_reducible repeat (first | refine blk_drewN ?_ _ | refine blk_drew ?_ | refine blk_alloc ?_ _)); exact BK219.out⟩, ⟨by (with_reducible repeat (first | refine blk_drewN ?_ _ | refine blk_drew ?_ | refine blk_alloc ?_ _)); exact BK220.out⟩, ⟨by (with_reducible repeat (first | refine blk_drewN ?_ _ | refine blk_drew ?_ | refine blk_alloc ?_ _)); exact BK221.out⟩, ⟨by repeat (first | (with_reducible first | exact HB.out | apply below_alloc | apply pw_below_drewN | apply below_drew1 | refine below_set ?_ GE218.out | refine below_set ?_ GE219.out | refine below_set ?_ GE220.out | refine below_set ?_ GE221.out) | exact HB.out)⟩⟩
 case rest =>
  clear HC4
  try clear c1
  try clear p2
  try clear c3
  try clear c5
  try clear c10
  obtain ⟨kq, x20_3, rfl, HA, HJ3, BK218, BK219, BK220, BK221, HB⟩ := hcut
  cases kq with
  | zero => exact absurd HA.out (by simp [spec_ComposeMotions.j0])
  | succ kj3 =>
   have H := HA.out
   clear HA
   simp only [spec_ComposeMotions.j0] at H
   by_cases c15 : x20_3 = true
   · subst c15
     have H1 : (some (0, 0, 0, 1)) = some (r1, r2, r3, r4) := by rw [if_pos rfl] at H; exact H
     clear H
     have H := H1
     clear H1
     simp only [Option.some.injEq, Prod.mk.injEq] at H
     obtain ⟨rfl, rfl, rfl, rfl⟩ := H
     have hnb16 := NB221_218.out
     have hnc16 := NB218_221.out
     have hnb17 := NB221_219.out
     have hnc17 := NB219_221.out
     have hnb18 := NB221_220.out
     have hnc18 := NB220_221.out
     have hcz19_0 : wc.cell? ⟨gb221, 0, none⟩ = some (.int .i64 0) := (blk_cell BK221.out 0).trans rfl
     have hcz19_1 : wc.cell? ⟨gb221, 1, none⟩ = some (.int .i64 0) := (blk_cell BK221.out 1).trans rfl
     have hcz19_2 : wc.cell? ⟨gb221, 2, none⟩ = some (.int .i64 0) := (blk_cell BK221.out 2).trans rfl
     have hfz19_0 := blk_frozen BK221.out 0
     have hfz19_1 := blk_frozen BK221.out 1
     have hfz19_2 := blk_frozen BK221.out 2
     go_wp2
     refine bodyPost_ret (results_ct rfl _ _ gb221 31 #[.int .i64 0, .int .i64 0, .int .i64 0] (0, 0) _ rfl (by (with_reducible repeat (first | refine blk_drewN ?_ _ | refine blk_drew ?_ | refine blk_alloc ?_ _)); refine blk_put (cs := #[.int .i64 0, .int .i64 0, .int .i64 0]) ?_ 2 _ rfl; (with_reducible repeat (first | refine blk_drewN ?_ _ | refine blk_drew ?_ | refine blk_alloc ?_ _)); refine blk_put (cs := #[.int .i64 0, .int .i64 0, .int .i64 0]) ?_ 1 _ rfl; (with_reducible repeat (first | refine blk_drewN ?_ _ | refine blk_drew ?_ | refine blk_alloc ?_ _)); refine blk_put (cs := #[.int .i64 0, .int .i64 0, .int .i64 0]) ?_ 0 _ rfl; (with_reducible repeat (first | refine blk_drewN ?_ _ | refine blk_drew ?_ | refine blk_alloc ?_ _)); exact BK221.out) Try.underlying31 rfl (by kernel_rfl)) rfl ?_
     exact ⟨by first | rfl | (simp [errW_none, errW_some] <;> rfl) | (simp [*, errW_none, errW_some] <;> rfl), by repeat (first | (with_reducible first | exact HB.out | apply below_alloc | apply pw_below_drewN | apply below_drew1 | refine below_set ?_ GE218.out | refine below_set ?_ GE219.out | refine below_set ?_ GE220.out | refine below_set ?_ GE221.out) | exact HB.out)⟩
   · replace c15 := Bool.eq_false_iff.mpr c15
     subst c15
     have H1 : ((spec_l02Compose.f kj3 a1_0 a2_0).bind fun t224 => ((spec_l18Move.f kj3 [(⟨a0_0, a0_1, l0_2⟩ : S29)] [(⟨a1_0, a1_1, a1_2⟩ : S31)] 0 0).bind fun bt226 => ((spec_l18Move.f kj3 [(⟨a0_0, a0_1, l0_2⟩ : S29)] [(⟨a2_0, a2_1, a2_2⟩ : S31)] bt226.1 bt226.2).bind fun bt228 => ((spec_l18Move.f kj3 [(⟨a0_0, a0_1, l0_2⟩ : S29)] [(⟨t224, 0, 0⟩ : S31)] 0 0).bind fun bt230 => ((spec_l18Mod.f (wrap64 (bt228.1 - bt230.1)) a0_0).bind fun t232 => ((spec_l18Mod.f (wrap64 (bt228.2 - bt230.2)) a0_1).bind fun t233 => (some (t224, t232, t233, 0)))))))) = some (r1, r2, r3, r4) := by rw [if_neg (show ¬ (false = true) by decide)] at H; exact H
     clear H
     have H := H1
     clear H1
     replace H := Option.bind_eq_some_iff.mp H
     obtain ⟨t224, A200, H⟩ := H
     replace H : ((spec_l18Move.f kj3 [(⟨a0_0, a0_1, l0_2⟩ : S29)] [(⟨a1_0, a1_1, a1_2⟩ : S31)] 0 0).bind fun bt226 => ((spec_l18Move.f kj3 [(⟨a0_0, a0_1, l0_2⟩ : S29)] [(⟨a2_0, a2_1, a2_2⟩ : S31)] bt226.1 bt226.2).bind fun bt228 => ((spec_l18Move.f kj3 [(⟨a0_0, a0_1, l0_2⟩ : S29)] [(⟨t224, 0, 0⟩ : S31)] 0 0).bind fun bt230 => ((spec_l18Mod.f (wrap64 (bt228.1 - bt230.1)) a0_0).bind fun t232 => ((spec_l18Mod.f (wrap64 (bt228.2 - bt230.2)) a0_1).bind fun t233 => (some (t224, t232, t233, 0))))))) = some (r1, r2, r3, r4) := H
     have A20 := mkA A200
     clear A200
     replace H := Option.bind_eq_some_iff.mp H
     obtain ⟨⟨t226, t227⟩, A210, H⟩ := H
     replace H : ((spec_l18Move.f kj3 [(⟨a0_0, a0_1, l0_2⟩ : S29)] [(⟨a2_0, a2_1, a2_2⟩ : S31)] t226 t227).bind fun bt228 => ((spec_l18Move.f kj3 [(⟨a0_0, a0_1, l0_2⟩ : S29)] [(⟨t224, 0, 0⟩ : S31)] 0 0).bind fun bt230 => ((spec_l18Mod.f (wrap64 (bt228.1 - bt230.1)) a0_0).bind fun t232 => ((spec_l18Mod.f (wrap64 (bt228.2 - bt230.2)) a0_1).bind fun t233 => (some (t224, t232, t233, 0)))))) = some (r1, r2, r3, r4) := H
     have A21 := mkA A210
     clear A210
     replace H := Option.bind_eq_some_iff.mp H
     obtain ⟨⟨t228, t229⟩, A220, H⟩ := H
     replace H : ((spec_l18Move.f kj3 [(⟨a0_0, a0_1, l0_2⟩ : S29)] [(⟨t224, 0, 0⟩ : S31)] 0 0).bind fun bt230 => ((spec_l18Mod.f (wrap64 (t228 - bt230.1)) a0_0).bind fun t232 => ((spec_l18Mod.f (wrap64 (t229 - bt230.2)) a0_1).bind fun t233 => (some (t224, t232, t233, 0))))) = some (r1, r2, r3, r4) := H
     have A22 := mkA A220
     clear A220
     replace H := Option.bind_eq_some_iff.mp H
     obtain ⟨⟨t230, t231⟩, A230, H⟩ := H
     replace H : ((spec_l18Mod.f (wrap64 (t228 - t230)) a0_0).bind fun t232 => ((spec_l18Mod.f (wrap64 (t229 - t231)) a0_1).bind fun t233 => (some (t224, t232, t233, 0)))) = some (r1, r2, r3, r4) := H
     have A23 := mkA A230
     clear A230
     replace H := Option.bind_eq_some_iff.mp H
     obtain ⟨t232, A240, H⟩ := H
     replace H : ((spec_l18Mod.f (wrap64 (t229 - t231)) a0_1).bind fun t233 => (some (t224, t232, t233, 0))) = some (r1, r2, r3, r4) := H
     have A24 := mkA A240
     clear A240
     replace H := Option.bind_eq_some_iff.mp H
     obtain ⟨t233, A250, H⟩ := H
     replace H : (some (t224, t232, t233, 0)) = some (r1, r2, r3, r4) := H
     have A25 := mkA A250
     clear A250
     simp only [Option.some.injEq, Prod.mk.injEq] at H
     obtain ⟨rfl, rfl, rfl, rfl⟩ := H
     have hnb26 := NB219_218.out
     have hnc26 := NB218_219.out
     have hnb27 := NB219_220.out
     have hnc27 := NB220_219.out
     have hnb28 := NB219_221.out
     have hnc28 := NB221_219.out
     have hcz29_0 : wc.cell? ⟨gb219, 0, none⟩ = some (.int .i64 a1_0) := (blk_cell BK219.out 0).trans rfl
     have hcz29_1 : wc.cell? ⟨gb219, 1, none⟩ = some (.int .i64 a1_1) := (blk_cell BK219.out 1).trans rfl
     have hcz29_2 : wc.cell? ⟨gb219, 2, none⟩ = some (.int .i64 a1_2) := (blk_cell BK219.out 2).trans rfl
     have hfz29_0 := blk_frozen BK219.out 0
     have hfz29_1 := blk_frozen BK219.out 1
     have hfz29_2 := blk_frozen BK219.out 2
     have hnb30 := NB220_218.out
     have hnc30 := NB218_220.out
     have hnb31 := NB220_221.out
     have hnc31 := NB221_220.out
     have hcz32_0 : wc.cell? ⟨gb220, 0, none⟩ = some (.int .i64 a2_0) := (blk_cell BK220.out 0).trans rfl
     have hcz32_1 : wc.cell? ⟨gb220, 1, none⟩ = some (.int .i64 a2_1) := (blk_cell BK220.out 1).trans rfl
     have hcz32_2 : wc.cell? ⟨gb220, 2, none⟩ = some (.int .i64 a2_2) := (blk_cell BK220.out 2).trans rfl
     have hfz32_0 := blk_frozen BK220.out 0
     have hfz32_1 := blk_frozen BK220.out 1
     have hfz32_2 := blk_frozen BK220.out 2
     go_wp2_with (first | ((with_reducible refine gate_callee (f := 75) rfl ?_); refine goesL_ (some 26) rfl rfl Try.func75 (by kernel_rfl) rfl #[.int .i64 a1_0, .int .i64 a2_0] rfl (by (try simp only [List.map_toArray, List.map_cons, List.map_nil]); first | done | rfl | (simp only [List.length_drop, List.length_take]; rfl)) ?_; (with_reducible refine (spec_l02Compose.calls kj3 a1_0 a2_0 t224 _ A20.out).mono ?_); rintro e w33 ⟨rfl, hb⟩; refine ⟨_, rfl, ?_⟩; have n0_ := mkA (blk_below (g := gb218) (o := .cells #[.int .i64 a0_0, .int .i64 a0_1, .slice A0_2 l0_2.length c0_2] 29 (0, 0)) (bl_ BK218.out) hb); have n1_ := mkA (blk_below (g := gb219) (o := .cells #[.int .i64 a1_0, .int .i64 a1_1, .int .i64 a1_2] 31 (0, 0)) (bl_ BK219.out) hb); have n2_ := mkA (blk_below (g := gb220) (o := .cells #[.int .i64 a2_0, .int .i64 a2_1, .int .i64 a2_2] 31 (0, 0)) (bl_ BK220.out) hb); have n3_ := mkA (blk_below (g := gb221) (o := .cells #[.int .i64 0, .int .i64 0, .int .i64 0] 31 (0, 0)) (bl_ BK221.out) hb); have n4_ := mkA (below_step (bs4_ HB.out GE218.out GE219.out GE220.out GE221.out) hb); clear BK218; clear BK219; clear BK220; clear BK221; clear HB; have BK218 := n0_; have BK219 := n1_; have BK220 := n2_; have BK221 := n3_; have HB := n4_; clear n0_ n1_ n2_ n3_ n4_; (try clear hb); (try clear hb2); (try clear hk); (try clear hi)) | ((with_reducible refine gate_dst (N := 8) rfl ?_); refine box_event ?hg (N := 8) ?hd (cs := #[.int .i64 0, .int .i64 0, .int .i64 0]) (t := 31) ?hr ?_; (case hd => rfl); (case hg => rfl); (case hr => first | (go_simp; done) | (go_simp; rfl)); intro gb225 hg w34 hbox hb; have n0_ := mkA (blk_below (g := gb218) (o := .cells #[.int .i64 a0_0, .int .i64 a0_1, .slice A0_2 l0_2.length c0_2] 29 (0, 0)) (bl_ BK218.out) hb); have n1_ := mkA (blk_below (g := gb219) (o := .cells #[.int .i64 a1_0, .int .i64 a1_1, .int .i64 a1_2] 31 (0, 0)) (bl_ BK219.out) hb); have n2_ := mkA (blk_below (g := gb220) (o := .cells #[.int .i64 a2_0, .int .i64 a2_1, .int .i64 a2_2] 31 (0, 0)) (bl_ BK220.out) hb); have n3_ := mkA (blk_below (g := gb221) (o := .cells #[.int .i64 0, .int .i64 0, .int .i64 0] 31 (0, 0)) (bl_ BK221.out) hb); have n4_ := mkA (below_step (bs4_ HB.out GE218.out GE219.out GE220.out GE221.out) hb); have n5_ := mkA (hbox); have n6_ := mkA ((by rw [hg]; exact (below_size (bs4_ HB.out GE218.out GE219.out GE220.out GE221.out)) : w.heap.size ≤ gb225)); have n7_ := mkA ((by rw [hg]; exact (below_size (bs4_ HB.out GE218.out GE219.out GE220.out GE221.out)) : w.heap.size ≤ gb225)); have n8_ := mkA ((by rw [hg]; exact Nat.ne_of_lt (blk_lt (g := gb218) (o := .cells #[.int .i64 a0_0, .int .i64 a0_1, .slice A0_2 l0_2.length c0_2] 29 (0, 0)) (bl_ BK218.out)) : gb218 ≠ gb225)); have n9_ := mkA ((by rw [hg]; exact Nat.ne_of_gt (blk_lt (g := gb218) (o := .cells #[.int .i64 a0_0, .int .i64 a0_1, .slice A0_2 l0_2.length c0_2] 29 (0, 0)) (bl_ BK218.out)) : gb225 ≠ gb218)); have n10_ := mkA ((by rw [hg]; exact Nat.ne_of_lt (blk_lt (g := gb219) (o := .cells #[.int .i64 a1_0, .int .i64 a1_1, .int .i64 a1_2] 31 (0, 0)) (bl_ BK219.out)) : gb219 ≠ gb225)); have n11_ := mkA ((by rw [hg]; exact Nat.ne_of_gt (blk_lt (g := gb219) (o := .cells #[.int .i64 a1_0, .int .i64 a1_1, .int .i64 a1_2] 31 (0, 0)) (bl_ BK219.out)) : gb225 ≠ gb219)); have n12_ := mkA ((by rw [hg]; exact Nat.ne_of_lt (blk_lt (g := gb220) (o := .cells #[.int .i64 a2_0, .int .i64 a2_1, .int .i64 a2_2] 31 (0, 0)) (bl_ BK220.out)) : gb220 ≠ gb225)); have n13_ := mkA ((by rw [hg]; exact Nat.ne_of_gt (blk_lt (g := gb220) (o := .cells #[.int .i64 a2_0, .int .i64 a2_1, .int .i64 a2_2] 31 (0, 0)) (bl_ BK220.out)) : gb225 ≠ gb220)); have n14_ := mkA ((by rw [hg]; exact Nat.ne_of_lt (blk_lt (g := gb221) (o := .cells #[.int .i64 0, .int .i64 0, .int .i64 0] 31 (0, 0)) (bl_ BK221.out)) : gb221 ≠ gb225)); have n15_ := mkA ((by rw [hg]; exact Nat.ne_of_gt (blk_lt (g := gb221) (o := .cells #[.int .i64 0, .int .i64 0, .int .i64 0] 31 (0, 0)) (bl_ BK221.out)) : gb225 ≠ gb221)); clear BK218; clear BK219; clear BK220; clear BK221; clear HB; have BK218 := n0_; have BK219 := n1_; have BK220 := n2_; have BK221 := n3_; have HB := n4_; have BK225 := n5_; have GW225 := n6_; have GE225 := n7_; have NB218_225 := n8_; have NB225_218 := n9_; have NB219_225 := n10_; have NB225_219 := n11_; have NB220_225 := n12_; have NB225_220 := n13_; have NB221_225 := n14_; have NB225_221 := n15_; clear n0_ n1_ n2_ n3_ n4_ n5_ n6_ n7_ n8_ n9_ n10_ n11_ n12_ n13_ n14_ n15_; clear hb hbox hg; have hnb35 := NB225_218.out; have hnc35 := NB218_225.out; have hnb36 := NB225_219.out; have hnc36 := NB219_225.out; have hnb37 := NB225_220.out; have hnc37 := NB220_225.out; have hnb38 := NB225_221.out; have hnc38 := NB221_225.out; have hcz39_0 : w34.cell? ⟨gb225, 0, none⟩ = some (.int .i64 0) := (blk_cell BK225.out 0).trans rfl; have hcz39_1 : w34.cell? ⟨gb225, 1, none⟩ = some (.int .i64 0) := (blk_cell BK225.out 1).trans rfl; have hcz39_2 : w34.cell? ⟨gb225, 2, none⟩ = some (.int .i64 0) := (blk_cell BK225.out 2).trans rfl; have hfz39_0 := blk_frozen BK225.out 0; have hfz39_1 := blk_frozen BK225.out 1; have hfz39_2 := blk_frozen BK225.out 2) | ((with_reducible refine gate_callee (f := 58) rfl ?_); refine goesL_ (some 29) rfl rfl Try.func58 (by kernel_rfl) rfl #[.pointer (some ⟨gb218, 0, none⟩), .pointer (some ⟨gb219, 0, none⟩), .int .i64 0, .int .i64 0] rfl (by (try simp only [List.map_toArray, List.map_cons, List.map_nil]); first | done | rfl | (simp only [List.length_drop, List.length_take]; rfl)) ?_; (with_reducible refine (spec_l18Move.calls kj3 _ [(⟨a0_0, a0_1, l0_2⟩ : S29)] _ [(⟨a1_0, a1_1, a1_2⟩ : S31)] 0 0 t226 t227 _ ?side1 ?side2 A21.out).mono ?_); (case side1 => exact Go.Proofs.YtnidibnhojedoaaX.rp_box (t := 29) (fr := (0, 0)) (by (with_reducible repeat (first | refine blk_drewN ?_ _ | refine blk_drew ?_ | refine blk_alloc ?_ _)); refine blk_far ?_ NB218_225.out _; (with_reducible repeat (first | refine blk_drewN ?_ _ | refine blk_drew ?_ | refine blk_alloc ?_ _)); refine blk_far ?_ NB218_225.out _; (with_reducible repeat (first | refine blk_drewN ?_ _ | refine blk_drew ?_ | refine blk_alloc ?_ _)); refine blk_far ?_ NB218_225.out _; (with_reducible repeat (first | refine blk_drewN ?_ _ | refine blk_drew ?_ | refine blk_alloc ?_ _)); exact BK218.out) (k29_mk _ (⟨a0_0, a0_1, l0_2⟩ : S29) (by exact HC0_2.out) (by exact Kd.C_below HR0_2.out (bs5_ HB.out GE218.out GE219.out GE220.out GE221.out GE225.out)))); (case side2 => exact Go.Proofs.YtnidibnhojedoaaX.rp_box (t := 31) (fr := (0, 0)) (by (with_reducible repeat (first | refine blk_drewN ?_ _ | refine blk_drew ?_ | refine blk_alloc ?_ _)); refine blk_far ?_ NB219_225.out _; (with_reducible repeat (first | refine blk_drewN ?_ _ | refine blk_drew ?_ | refine blk_alloc ?_ _)); refine blk_far ?_ NB219_225.out _; (with_reducible repeat (first | refine blk_drewN ?_ _ | refine blk_drew ?_ | refine blk_alloc ?_ _)); refine blk_far ?_ NB219_225.out _; (with_reducible repeat (first | refine blk_drewN ?_ _ | refine blk_drew ?_ | refine blk_alloc ?_ _)); exact BK219.out) (k31_mk _ (⟨a1_0, a1_1, a1_2⟩ : S31) )); rintro e w40 ⟨rfl, hb⟩; refine ⟨_, rfl, ?_⟩; have n0_ := mkA (blk_below (g := gb218) (o := .cells #[.int .i64 a0_0, .int .i64 a0_1, .slice A0_2 l0_2.length c0_2] 29 (0, 0)) (by (with_reducible repeat (first | refine blk_drewN ?_ _ | refine blk_drew ?_ | refine blk_alloc ?_ _)); refine blk_far ?_ NB218_225.out _; (with_reducible repeat (first | refine blk_drewN ?_ _ | refine blk_drew ?_ | refine blk_alloc ?_ _)); refine blk_far ?_ NB218_225.out _; (with_reducible repeat (first | refine blk_drewN ?_ _ | refine blk_drew ?_ | refine blk_alloc ?_ _)); refine blk_far ?_ NB218_225.out _; (with_reducible repeat (first | refine blk_drewN ?_ _ | refine blk_drew ?_ | refine blk_alloc ?_ _)); exact BK218.out) hb); have n1_ := mkA (blk_below (g := gb219) (o := .cells #[.int .i64 a1_0, .int .i64 a1_1, .int .i64 a1_2] 31 (0, 0)) (by (with_reducible repeat (first | refine blk_drewN ?_ _ | refine blk_drew ?_ | refine blk_alloc ?_ _)); refine blk_far ?_ NB219_225.out _; (with_reducible repeat (first | refine blk_drewN ?_ _ | refine blk_drew ?_ | refine blk_alloc ?_ _)); refine blk_far ?_ NB219_225.out _; (with_reducible repeat (first | refine blk_drewN ?_ _ | refine blk_drew ?_ | refine blk_alloc ?_ _)); refine blk_far ?_ NB219_225.out _; (with_reducible repeat (first | refine blk_drewN ?_ _ | refine blk_drew ?_ | refine blk_alloc ?_ _)); exact BK219.out) hb); have n2_ := mkA (blk_below (g := gb220) (o := .cells #[.int .i64 a2_0, .int .i64 a2_1, .int .i64 a2_2] 31 (0, 0)) (by (with_reducible repeat (first | refine blk_drewN ?_ _ | refine blk_drew ?_ | refine blk_alloc ?_ _)); refine blk_far ?_ NB220_225.out _; (with_reducible repeat (first | refine blk_drewN ?_ _ | refine blk_drew ?_ | refine blk_alloc ?_ _)); refine blk_far ?_ NB220_225.out _; (with_reducible repeat (first | refine blk_drewN ?_ _ | refine blk_drew ?_ | refine blk_alloc ?_ _)); refine blk_far ?_ NB220_225.out _; (with_reducible repeat (first | refine blk_drewN ?_ _ | refine blk_drew ?_ | refine blk_alloc ?_ _)); exact BK220.out) hb); have n3_ := mkA (blk_below (g := gb221) (o := .cells #[.int .i64 0, .int .i64 0, .int .i64 0] 31 (0, 0)) (by (with_reducible repeat (first | refine blk_drewN ?_ _ | refine blk_drew ?_ | refine blk_alloc ?_ _)); refine blk_far ?_ NB221_225.out _; (with_reducible repeat (first | refine blk_drewN ?_ _ | refine blk_drew ?_ | refine blk_alloc ?_ _)); refine blk_far ?_ NB221_225.out _; (with_reducible repeat (first | refine blk_drewN ?_ _ | refine blk_drew ?_ | refine blk_alloc ?_ _)); refine blk_far ?_ NB221_225.out _; (with_reducible repeat (first | refine blk_drewN ?_ _ | refine blk_drew ?_ | refine blk_alloc ?_ _)); exact BK221.out) hb); have n4_ := mkA (blk_below (g := gb225) (o := .cells #[.int .i64 t224, .int .i64 0, .int .i64 0] 31 (0, 0)) (by (with_reducible repeat (first | refine blk_drewN ?_ _ | refine blk_drew ?_ | refine blk_alloc ?_ _)); refine blk_put (cs := #[.int .i64 t224, .int .i64 0, .int .i64 0]) ?_ 2 _ rfl; (with_reducible repeat (first | refine blk_drewN ?_ _ | refine blk_drew ?_ | refine blk_alloc ?_ _)); refine blk_put (cs := #[.int .i64 t224, .int .i64 0, .int .i64 0]) ?_ 1 _ rfl; (with_reducible repeat (first | refine blk_drewN ?_ _ | refine blk_drew ?_ | refine blk_alloc ?_ _)); refine blk_put (cs := #[.int .i64 0, .int .i64 0, .int .i64 0]) ?_ 0 _ rfl; (with_reducible repeat (first | refine blk_drewN ?_ _ | refine blk_drew ?_ | refine blk_alloc ?_ _)); exact BK225.out) hb); have n5_ := mkA (below_step (bs5_ HB.out GE218.out GE219.out GE220.out GE221.out GE225.out) hb); clear BK218; clear BK219; clear BK220; clear BK221; clear BK225; clear HB; have BK218 := n0_; have BK219 := n1_; have BK220 := n2_; have BK221 := n3_; have BK225 := n4_; have HB := n5_; clear n0_ n1_ n2_ n3_ n4_ n5_; (try clear hb); (try clear hb2); (try clear hk); (try clear hi)) | ((with_reducible refine gate_callee (f := 58) rfl ?_); refine goesL_ (some 35) rfl rfl Try.func58 (by kernel_rfl) rfl #[.pointer (some ⟨gb218, 0, none⟩), .pointer (some ⟨gb220, 0, none⟩), .int .i64 t226, .int .i64 t227] rfl (by (try simp only [List.map_toArray, List.map_cons, List.map_nil]); first | done | rfl | (simp only [List.length_drop, List.length_take]; rfl)) ?_; (with_reducible refine (spec_l18Move.calls kj3 _ [(⟨a0_0, a0_1, l0_2⟩ : S29)] _ [(⟨a2_0, a2_1, a2_2⟩ : S31)] t226 t227 t228 t229 _ ?side1 ?side2 A22.out).mono ?_); (case side1 => exact Go.Proofs.YtnidibnhojedoaaX.rp_box (t := 29) (fr := (0, 0)) (bl_ BK218.out) (k29_mk _ (⟨a0_0, a0_1, l0_2⟩ : S29) (by exact HC0_2.out) (by repeat (first | exact (Kd.C_below HR0_2.out HB.out) | (with_reducible refine Kd.C_alloc ?_ _) | (with_reducible refine Kd.C_drewN ?_ _) | (with_reducible refine Kd.C_drew ?_))))); (case side2 => exact Go.Proofs.YtnidibnhojedoaaX.rp_box (t := 31) (fr := (0, 0)) (bl_ BK220.out) (k31_mk _ (⟨a2_0, a2_1, a2_2⟩ : S31) )); rintro e w41 ⟨rfl, hb⟩; refine ⟨_, rfl, ?_⟩; have n0_ := mkA (blk_below (g := gb218) (o := .cells #[.int .i64 a0_0, .int .i64 a0_1, .slice A0_2 l0_2.length c0_2] 29 (0, 0)) (bl_ BK218.out) hb); have n1_ := mkA (blk_below (g := gb219) (o := .cells #[.int .i64 a1_0, .int .i64 a1_1, .int .i64 a1_2] 31 (0, 0)) (bl_ BK219.out) hb); have n2_ := mkA (blk_below (g := gb220) (o := .cells #[.int .i64 a2_0, .int .i64 a2_1, .int .i64 a2_2] 31 (0, 0)) (bl_ BK220.out) hb); have n3_ := mkA (blk_below (g := gb221) (o := .cells #[.int .i64 0, .int .i64 0, .int .i64 0] 31 (0, 0)) (bl_ BK221.out) hb); have n4_ := mkA (blk_below (g := gb225) (o := .cells #[.int .i64 t224, .int .i64 0, .int .i64 0] 31 (0, 0)) (bl_ BK225.out) hb); have n5_ := mkA (below_step (bs5_ HB.out GE218.out GE219.out GE220.out GE221.out GE225.out) hb); clear BK218; clear BK219; clear BK220; clear BK221; clear BK225; clear HB; have BK218 := n0_; have BK219 := n1_; have BK220 := n2_; have BK221 := n3_; have BK225 := n4_; have HB := n5_; clear n0_ n1_ n2_ n3_ n4_ n5_; (try clear hb); (try clear hb2); (try clear hk); (try clear hi)) | ((with_reducible refine gate_callee (f := 58) rfl ?_); refine goesL_ (some 39) rfl rfl Try.func58 (by kernel_rfl) rfl #[.pointer (some ⟨gb218, 0, none⟩), .pointer (some ⟨gb225, 0, none⟩), .int .i64 0, .int .i64 0] rfl (by (try simp only [List.map_toArray, List.map_cons, List.map_nil]); first | done | rfl | (simp only [List.length_drop, List.length_take]; rfl)) ?_; (with_reducible refine (spec_l18Move.calls kj3 _ [(⟨a0_0, a0_1, l0_2⟩ : S29)] _ [(⟨t224, 0, 0⟩ : S31)] 0 0 t230 t231 _ ?side1 ?side2 A23.out).mono ?_); (case side1 => exact Go.Proofs.YtnidibnhojedoaaX.rp_box (t := 29) (fr := (0, 0)) (bl_ BK218.out) (k29_mk _ (⟨a0_0, a0_1, l0_2⟩ : S29) (by exact HC0_2.out) (by repeat (first | exact (Kd.C_below HR0_2.out HB.out) | (with_reducible refine Kd.C_alloc ?_ _) | (with_reducible refine Kd.C_drewN ?_ _) | (with_reducible refine Kd.C_drew ?_))))); (case side2 => exact Go.Proofs.YtnidibnhojedoaaX.rp_box (t := 31) (fr := (0, 0)) (bl_ BK225.out) (k31_mk _ (⟨t224, 0, 0⟩ : S31) )); rintro e w42 ⟨rfl, hb⟩; refine ⟨_, rfl, ?_⟩; have n0_ := mkA (blk_below (g := gb218) (o := .cells #[.int .i64 a0_0, .int .i64 a0_1, .slice A0_2 l0_2.length c0_2] 29 (0, 0)) (bl_ BK218.out) hb); have n1_ := mkA (blk_below (g := gb219) (o := .cells #[.int .i64 a1_0, .int .i64 a1_1, .int .i64 a1_2] 31 (0, 0)) (bl_ BK219.out) hb); have n2_ := mkA (blk_below (g := gb220) (o := .cells #[.int .i64 a2_0, .int .i64 a2_1, .int .i64 a2_2] 31 (0, 0)) (bl_ BK220.out) hb); have n3_ := mkA (blk_below (g := gb221) (o := .cells #[.int .i64 0, .int .i64 0, .int .i64 0] 31 (0, 0)) (bl_ BK221.out) hb); have n4_ := mkA (blk_below (g := gb225) (o := .cells #[.int .i64 t224, .int .i64 0, .int .i64 0] 31 (0, 0)) (bl_ BK225.out) hb); have n5_ := mkA (below_step (bs5_ HB.out GE218.out GE219.out GE220.out GE221.out GE225.out) hb); clear BK218; clear BK219; clear BK220; clear BK221; clear BK225; clear HB; have BK218 := n0_; have BK219 := n1_; have BK220 := n2_; have BK221 := n3_; have BK225 := n4_; have HB := n5_; clear n0_ n1_ n2_ n3_ n4_ n5_; (try clear hb); (try clear hb2); (try clear hk); (try clear hi); have hnb43 := NB218_221.out; have hnc43 := NB221_218.out; have hcz44_0 : w42.cell? ⟨gb218, 0, none⟩ = some (.int .i64 a0_0) := (blk_cell BK218.out 0).trans rfl; have hcz44_1 : w42.cell? ⟨gb218, 1, none⟩ = some (.int .i64 a0_1) := (blk_cell BK218.out 1).trans rfl; have hcz44_2 : w42.cell? ⟨gb218, 2, none⟩ = some (.slice A0_2 l0_2.length c0_2) := (blk_cell BK218.out 2).trans rfl; have hfz44_0 := blk_frozen BK218.out 0; have hfz44_1 := blk_frozen BK218.out 1; have hfz44_2 := blk_frozen BK218.out 2) | ((with_reducible refine gate_callee (f := 67) rfl ?_); refine goesL_ (some 47) rfl rfl Try.func67 (by kernel_rfl) rfl #[.int .i64 (wrap64 (t228 - t230)), .int .i64 a0_0] rfl (by (try simp only [List.map_toArray, List.map_cons, List.map_nil]); first | done | rfl | (simp only [List.length_drop, List.length_take]; rfl)) ?_; (with_reducible refine (spec_l18Mod.calls (wrap64 (t228 - t230)) a0_0 t232 _ A24.out).mono ?_); rintro e w' ⟨rfl, ⟨nd, rfl⟩⟩; refine ⟨_, rfl, ?_⟩; (try (rw [drewN_self w42]; generalize hq_ : World.drewN w42 _ = w42; have n0_ : Aside0 (w42.heap[gb218]? = some (.cells #[.int .i64 a0_0, .int .i64 a0_1, .slice A0_2 l0_2.length c0_2] 29 (0, 0))) := ⟨by rw [← hq_]; exact (bl_ BK218.out)⟩; have n1_ : Aside0 (w42.heap[gb219]? = some (.cells #[.int .i64 a1_0, .int .i64 a1_1, .int .i64 a1_2] 31 (0, 0))) := ⟨by rw [← hq_]; exact (bl_ BK219.out)⟩; have n2_ : Aside0 (w42.heap[gb220]? = some (.cells #[.int .i64 a2_0, .int .i64 a2_1, .int .i64 a2_2] 31 (0, 0))) := ⟨by rw [← hq_]; exact (bl_ BK220.out)⟩; have n3_ : Aside0 (w42.heap[gb221]? = some (.cells #[.int .i64 0, .int .i64 0, .int .i64 0] 31 (0, 0))) := ⟨by rw [← hq_]; exact (bl_ BK221.out)⟩; have n4_ : Aside0 (w42.heap[gb225]? = some (.cells #[.int .i64 t224, .int .i64 0, .int .i64 0] 31 (0, 0))) := ⟨by rw [← hq_]; exact (bl_ BK225.out)⟩; have n5_ : Aside0 (Below w.heap.size w w42) := ⟨by rw [← hq_]; exact (bs5_ HB.out GE218.out GE219.out GE220.out GE221.out GE225.out)⟩; clear BK218 BK219 BK220 BK221 BK225 HB hq_; have BK218 := n0_; have BK219 := n1_; have BK220 := n2_; have BK221 := n3_; have BK225 := n4_; have HB := n5_; clear n0_ n1_ n2_ n3_ n4_ n5_)); have hcz45_0 : w42.cell? ⟨gb225, 0, none⟩ = some (.int .i64 t224) := (blk_cell BK225.out 0).trans rfl; have hcz45_1 : w42.cell? ⟨gb225, 1, none⟩ = some (.int .i64 0) := (blk_cell BK225.out 1).trans rfl; have hcz45_2 : w42.cell? ⟨gb225, 2, none⟩ = some (.int .i64 0) := (blk_cell BK225.out 2).trans rfl; have hfz45_0 := blk_frozen BK225.out 0; have hfz45_1 := blk_frozen BK225.out 1; have hfz45_2 := blk_frozen BK225.out 2; have hcz46_0 : w42.cell? ⟨gb218, 0, none⟩ = some (.int .i64 a0_0) := (blk_cell BK218.out 0).trans rfl; have hcz46_1 : w42.cell? ⟨gb218, 1, none⟩ = some (.int .i64 a0_1) := (blk_cell BK218.out 1).trans rfl; have hcz46_2 : w42.cell? ⟨gb218, 2, none⟩ = some (.slice A0_2 l0_2.length c0_2) := (blk_cell BK218.out 2).trans rfl; have hfz46_0 := blk_frozen BK218.out 0; have hfz46_1 := blk_frozen BK218.out 1; have hfz46_2 := blk_frozen BK218.out 2) | ((with_reducible refine gate_callee (f := 67) rfl ?_); refine goesL_ (some 54) rfl rfl Try.func67 (by kernel_rfl) rfl #[.int .i64 (wrap64 (t229 - t231)), .int .i64 a0_1] rfl (by (try simp only [List.map_toArray, List.map_cons, List.map_nil]); first | done | rfl | (simp only [List.length_drop, List.length_take]; rfl)) ?_; (with_reducible refine (spec_l18Mod.calls (wrap64 (t229 - t231)) a0_1 t233 _ A25.out).mono ?_); rintro e w' ⟨rfl, ⟨nd, rfl⟩⟩; refine ⟨_, rfl, ?_⟩; have hcz47_0 : w42.cell? ⟨gb221, 0, none⟩ = some (.int .i64 0) := (blk_cell BK221.out 0).trans rfl; have hcz47_1 : w42.cell? ⟨gb221, 1, none⟩ = some (.int .i64 0) := (blk_cell BK221.out 1).trans rfl; have hcz47_2 : w42.cell? ⟨gb221, 2, none⟩ = some (.int .i64 0) := (blk_cell BK221.out 2).trans rfl; have hfz47_0 := blk_frozen BK221.out 0; have hfz47_1 := blk_frozen BK221.out 1; have hfz47_2 := blk_frozen BK221.out 2))
     refine bodyPost_ret (results_ct rfl _ _ gb221 31 #[.int .i64 t224, .int .i64 t232, .int .i64 t233] (0, 0) _ rfl (by (with_reducible repeat (first | refine blk_drewN ?_ _ | refine blk_drew ?_ | refine blk_alloc ?_ _)); refine blk_put (cs := #[.int .i64 t224, .int .i64 t232, .int .i64 0]) ?_ 2 _ rfl; (with_reducible repeat (first | refine blk_drewN ?_ _ | refine blk_drew ?_ | refine blk_alloc ?_ _)); refine blk_put (cs := #[.int .i64 t224, .int .i64 0, .int .i64 0]) ?_ 1 _ rfl; (with_reducible repeat (first | refine blk_drewN ?_ _ | refine blk_drew ?_ | refine blk_alloc ?_ _)); refine blk_put (cs := #[.int .i64 0, .int .i64 0, .int .i64 0]) ?_ 0 _ rfl; (with_reducible repeat (first | refine blk_drewN ?_ _ | refine blk_drew ?_ | refine blk_alloc ?_ _)); refine blk_far ?_ NB221_225.out _; (with_reducible repeat (first | refine blk_drewN ?_ _ | refine blk_drew ?_ | refine blk_alloc ?_ _)); refine blk_far ?_ NB221_225.out _; (with_reducible repeat (first | refine blk_drewN ?_ _ | refine blk_drew ?_ | refine blk_alloc ?_ _)); exact BK221.out) Try.underlying31 rfl (by kernel_rfl)) rfl ?_
     exact ⟨by first | rfl | (simp [errW_none, errW_some] <;> rfl) | (simp [*, errW_none, errW_some] <;> rfl), by repeat (first | (with_reducible first | exact HB.out | apply below_alloc | apply pw_below_drewN | apply below_drew1 | refine below_set ?_ GE218.out | refine below_set ?_ GE219.out | refine below_set ?_ GE220.out | refine below_set ?_ GE221.out | refine below_set ?_ GE225.out) | exact HB.out)⟩

/-! ### impl_within: function 56 -/
def impl_within.f (a0 : Int) (a1 : Int) (a2 : Int) : Option (Bool) := if a0 ≥ a1 then (some (decide (a0 ≤ a2))) else (some false)
set_option maxHeartbeats 8000000 in
set_option maxRecDepth 100000 in
theorem impl_within.calls (a0 : Int) (a1 : Int) (a2 : Int) (r : Bool) (w : World) (h : impl_within.f a0 a1 a2 = some r) :
    Calls Try.prog 56 #[.int .i64 a0, .int .i64 a1, .int .i64 a2] w fun e w' => e = .returned (.bool r) ∧ Drawn0 w w' := by
  have H : (if a0 ≥ a1 then (some (decide (a0 ≤ a2))) else (some false)) = some r := h
  clear h
  by_cases c4 : a0 ≥ a1
  · rw [if_pos c4] at H
    have c4b0 : decide (a1 ≤ a0) = true := decide_eq_true c4
    clear c4
    obtain rfl := Option.some.inj H
    go_enter Try.func56, Try.ntmps56
    go_wp2
    go_ret
    exact ⟨by first | rfl | (simp; done) | (simp [*]; done) | (simp [i64_w, i32_w]; done), by repeat (first | exact Drawn0.refl _ | apply Drawn0.step)⟩
  · rw [if_neg c4] at H
    have c4b0 : decide (a1 ≤ a0) = false := decide_eq_false c4
    clear c4
    obtain rfl := Option.some.inj H
    go_enter Try.func56, Try.ntmps56
    go_wp2
    go_ret
    exact ⟨by first | rfl | (simp; done) | (simp [*]; done) | (simp [i64_w, i32_w]; done), by repeat (first | exact Drawn0.refl _ | apply Drawn0.step)⟩

/-! ### slices_Max_int64_int64: function 81 -/
def slices_Max_int64_int64.l0 : Nat → List Int → Int → Int → Option (Int)
  | 0, _, _, _ => none
  | k + 1, x0, x3, x4 => if x4 < (x0.length : Int) then (if 0 ≤ x4 then (slices_Max_int64_int64.l0 k x0 (mx x3 (rd x0 x4)) (wrap64 (x4 + 1))) else (none)) else (some x3)
def slices_Max_int64_int64.f (k : Nat) (l0 : List Int) : Option (Int) := if (l0.length : Int) < 1 then (none) else (if 0 < (l0.length : Int) then (slices_Max_int64_int64.l0 k l0 (rd l0 0) 1) else (none))
theorem slices_Max_int64_int64.mono_l : ∀ k, (∀ y0 y1 y2, LeO (slices_Max_int64_int64.l0 k y0 y1 y2) (slices_Max_int64_int64.l0 (k + 1) y0 y1 y2))
  | 0 => fun _ _ _ r h => by simp [slices_Max_int64_int64.l0] at h
  | k + 1 => by
    have ih0 := slices_Max_int64_int64.mono_l k
    · intro y0 y1 y2
      unfold slices_Max_int64_int64.l0
      repeat' first
      | (with_reducible exact ih0 _ _ _)
      | (with_reducible exact LeO.refl _)
      | (with_reducible exact LeO.none _)
      | (with_reducible refine LeO.ite ?_ ?_)
      | (with_reducible refine LeO.bind ?_ (fun _ => ?_))
      | exact ih0 _ _ _
      | exact LeO.none _
      | refine LeO.ite ?_ ?_
      | refine LeO.bind ?_ (fun _ => ?_)
theorem slices_Max_int64_int64.mono : ∀ a0 k, LeO (slices_Max_int64_int64.f k a0) (slices_Max_int64_int64.f (k + 1) a0) := by
  intro a0 k
  have ih0 := slices_Max_int64_int64.mono_l k
  unfold slices_Max_int64_int64.f
  repeat' first
      | (with_reducible exact ih0 _ _ _)
      | (with_reducible exact LeO.refl _)
      | (with_reducible exact LeO.none _)
      | (with_reducible refine LeO.ite ?_ ?_)
      | (with_reducible refine LeO.bind ?_ (fun _ => ?_))
      | exact ih0 _ _ _
      | exact LeO.none _
      | refine LeO.ite ?_ ?_
      | refine LeO.bind ?_ (fun _ => ?_)
open List renaming setIfInBounds_toArray → sA, set_cons_zero → sB, set_cons_succ → sC
open Go.Proofs.YtnidibnhojedoaaW.PrintWords.Aside0 renaming mk → mkA
open Go.Proofs.YtnidibnhojedoaaX (dt_ bc_ p0_ p1_ bl_ cb_ bs0_ bs1_ bs2_ bs3_ bs4_ bs5_ bs6_ bs7_ bs8_ bs9_ bs10_ bs11_ bs12_)
set_option maxHeartbeats 8000000 in
set_option maxRecDepth 100000 in
theorem slices_Max_int64_int64.calls (k : Nat) (A0 : Option Addr) (c0 : Nat) (l0 : List Int) (r : Int) (w : World) (hr0 : Kd.C (Kd.int .i64) w A0 l0.length l0) (hc0 : l0.length ≤ c0) (h : slices_Max_int64_int64.f k l0 = some r) :
 Calls Try.prog 81 #[.slice A0 l0.length c0] w fun e w' => e = .returned (.int .i64 r) ∧ Below w.heap.size w w' := by
 have HR0 := mkA hr0
 have HC0 := mkA hc0
 clear hr0 hc0
 have HB := mkA (Below.refl w.heap.size w)
 have H : (if (l0.length : Int) < 1 then (none) else (if 0 < (l0.length : Int) then (slices_Max_int64_int64.l0 k l0 (rd l0 0) 1) else (none))) = some r := h
 clear h
 by_cases c2 : (l0.length : Int) < 1
 · rw [if_pos c2] at H
   exact absurd H (by simp)
 · rw [if_neg c2] at H
   have c2b0 : decide ((l0.length : Int) < 1) = false := decide_eq_false c2
   have c2b1 : decide (l0.length < 1) = false := decide_eq_false (by omega)
   clear c2
   by_cases c3 : 0 < (l0.length : Int)
   rotate_left
   · rw [if_neg c3] at H
     exact absurd H (by simp)

   rw [if_pos c3] at H
   have c3b0 : decide (0 < (l0.length : Int)) = true := decide_eq_true c3
   have c3b1 : decide (0 < l0.length) = true := decide_eq_true (by omega)
   clear c3
   have H' := mkA H
   clear H
   have p234 : 0 ≤ (0 : Int) := (by omega)
   have q234 : 0 < (l0.length : Int) := dt_
   obtain ⟨ad234, e234, hx234_0⟩ := Kd.at_int HR0.out 0 p234 q234
   cases e234
   have qi234 : (0 < l0.length) = True := eq_true (by omega)
   (try rw [show ((0 : Int)).toNat = 0 from rfl] at hx234_0)
   (try rw [Addr.add_zero'] at hx234_0)
   replace p234 := eq_true p234
   replace q234 := eq_true q234
   go_enter Try.func81, Try.ntmps81
   go_wp2
   go_loopg [3, 4] k (fun kq v3 v4 w' => ∃ (x3_1 : Int) (x4_1 : Int), v3 = .int .i64 x3_1 ∧ v4 = .int .i64 x4_1 ∧ Aside0 (slices_Max_int64_int64.l0 kq l0 x3_1 x4_1 = some r) ∧ Aside0 (kq ≤ k) ∧ Aside0 (Below w.heap.size w w'))
   case atStart => exact ⟨(rd l0 0), (1), (by first | rfl | (simp; done) | (simp [*]; done) | (simp [i64_w, i32_w]; done)), (by first | rfl | (simp; done) | (simp [*]; done) | (simp [i64_w, i32_w]; done)), H', ⟨Nat.le_refl _⟩, ⟨by repeat (first | (with_reducible first | exact HB.out | apply below_alloc | apply pw_below_drewN | apply below_drew1) | exact HB.out)⟩⟩
   case round =>
    clear H'
    try clear c2
    try clear c2b0
    try clear c2b1
    try clear p2
    try clear q2
    try clear hx2
    try clear qi2
    try clear c3
    try clear c3b0
    try clear c3b1
    try clear hx234_0
    try clear p234
    try clear q234
    obtain ⟨x3_1, x4_1, rfl, rfl, HA, HK1, HB⟩ := hrel
    cases gk with
    | zero => exact absurd HA.out (by simp [slices_Max_int64_int64.l0])
    | succ k1 =>
     have H := HA.out
     clear HA
     simp only [slices_Max_int64_int64.l0] at H
     by_cases c4 : x4_1 < (l0.length : Int)
     rotate_left
     · rw [if_neg c4] at H
       have c4b0 : decide (x4_1 < (l0.length : Int)) = false := decide_eq_false c4
       clear c4
       obtain rfl := Option.some.inj H
       go_wp2
       go_ret
       exact ⟨by first | rfl | (simp [errW_none, errW_some] <;> rfl) | (simp [*, errW_none, errW_some] <;> rfl), by repeat (first | (with_reducible first | exact HB.out | apply below_alloc | apply pw_below_drewN | apply below_drew1) | exact HB.out)⟩
     rw [if_pos c4] at H
     have c4b0 : decide (x4_1 < (l0.length : Int)) = true := decide_eq_true c4
     clear c4
     by_cases c5 : 0 ≤ x4_1
     rotate_left
     · rw [if_neg c5] at H
       exact absurd H (by simp)
     rw [if_pos c5] at H
     have c5b0 : decide (0 ≤ x4_1) = true := decide_eq_true c5
     clear c5
     obtain ⟨ji6, hji6⟩ : ∃ j_ : Int, (mx x3_1 (rd l0 x4_1)) = j_ := ⟨_, rfl⟩
     replace H : (slices_Max_int64_int64.l0 k1 l0 ji6 (wrap64 (x4_1 + 1))) = some r := by first | (rw [hji6] at H; exact H) | (simp only [hji6] at H ⊢; exact H)
     have hji6_ : (if x3_1 < (rd l0 x4_1) then (rd l0 x4_1) else x3_1) = ji6 := hji6
     have H' := mkA H
     clear H
     have p235 : 0 ≤ (x4_1 : Int) := dt_
     have q235 : x4_1 < (l0.length : Int) := dt_
     obtain ⟨ad235, e235, hx235_0⟩ := Kd.at_int HR0.out x4_1 p235 q235
     obtain rfl : ad234 = ad235 := (by injection e235)
     replace hx235_0 := bc_ HB.out hx235_0
     replace p235 := eq_true p235
     replace q235 := eq_true q235
     go_wp2
     go_roundg k1
     case measure => have := HK1.out; omega
     case rel => exact ⟨(ji6), (wrap64 (x4_1 + 1)), (by first | rfl | (simp; done) | (simp only [← hji6] <;> (first | rfl | simp)) | (simp [*]; done)), (by first | rfl | (simp; done) | (simp [*]; done) | (simp [i64_w, i32_w]; done)), H', ⟨by have := HK1.out; omega⟩, ⟨by repeat (first | (with_reducible first | exact HB.out | apply below_alloc | apply pw_below_drewN | apply below_drew1) | exact HB.out)⟩⟩
/-! ### slices_Min_int64_int64: function 84 -/
def slices_Min_int64_int64.l0 : Nat → List Int → Int → Int → Option (Int)
  | 0, _, _, _ => none
  | k + 1, x0, x3, x4 => if x4 < (x0.length : Int) then (if 0 ≤ x4 then (slices_Min_int64_int64.l0 k x0 (mn x3 (rd x0 x4)) (wrap64 (x4 + 1))) else (none)) else (some x3)
def slices_Min_int64_int64.f (k : Nat) (l0 : List Int) : Option (Int) := if (l0.length : Int) < 1 then (none) else (if 0 < (l0.length : Int) then (slices_Min_int64_int64.l0 k l0 (rd l0 0) 1) else (none))
theorem slices_Min_int64_int64.mono_l : ∀ k, (∀ y0 y1 y2, LeO (slices_Min_int64_int64.l0 k y0 y1 y2) (slices_Min_int64_int64.l0 (k + 1) y0 y1 y2))
  | 0 => fun _ _ _ r h => by simp [slices_Min_int64_int64.l0] at h
  | k + 1 => by
    have ih0 := slices_Min_int64_int64.mono_l k
    · intro y0 y1 y2
      unfold slices_Min_int64_int64.l0
      repeat' first
      | (with_reducible exact ih0 _ _ _)
      | (with_reducible exact LeO.refl _)
      | (with_reducible exact LeO.none _)
      | (with_reducible refine LeO.ite ?_ ?_)
      | (with_reducible refine LeO.bind ?_ (fun _ => ?_))
      | exact ih0 _ _ _
      | exact LeO.none _
      | refine LeO.ite ?_ ?_
      | refine LeO.bind ?_ (fun _ => ?_)
theorem slices_Min_int64_int64.mono : ∀ a0 k, LeO (slices_Min_int64_int64.f k a0) (slices_Min_int64_int64.f (k + 1) a0) := by
  intro a0 k
  have ih0 := slices_Min_int64_int64.mono_l k
  unfold slices_Min_int64_int64.f
  repeat' first
      | (with_reducible exact ih0 _ _ _)
      | (with_reducible exact LeO.refl _)
      | (with_reducible exact LeO.none _)
      | (with_reducible refine LeO.ite ?_ ?_)
      | (with_reducible refine LeO.bind ?_ (fun _ => ?_))
      | exact ih0 _ _ _
      | exact LeO.none _
      | refine LeO.ite ?_ ?_
      | refine LeO.bind ?_ (fun _ => ?_)
open List renaming setIfInBounds_toArray → sA, set_cons_zero → sB, set_cons_succ → sC
open Go.Proofs.YtnidibnhojedoaaW.PrintWords.Aside0 renaming mk → mkA
open Go.Proofs.YtnidibnhojedoaaX (dt_ bc_ p0_ p1_ bl_ cb_ bs0_ bs1_ bs2_ bs3_ bs4_ bs5_ bs6_ bs7_ bs8_ bs9_ bs10_ bs11_ bs12_)
set_option maxHeartbeats 8000000 in
set_option maxRecDepth 100000 in
theorem slices_Min_int64_int64.calls (k : Nat) (A0 : Option Addr) (c0 : Nat) (l0 : List Int) (r : Int) (w : World) (hr0 : Kd.C (Kd.int .i64) w A0 l0.length l0) (hc0 : l0.length ≤ c0) (h : slices_Min_int64_int64.f k l0 = some r) :
 Calls Try.prog 84 #[.slice A0 l0.length c0] w fun e w' => e = .returned (.int .i64 r) ∧ Below w.heap.size w w' := by
 have HR0 := mkA hr0
 have HC0 := mkA hc0
 clear hr0 hc0
 have HB := mkA (Below.refl w.heap.size w)
 have H : (if (l0.length : Int) < 1 then (none) else (if 0 < (l0.length : Int) then (slices_Min_int64_int64.l0 k l0 (rd l0 0) 1) else (none))) = some r := h
 clear h
 by_cases c2 : (l0.length : Int) < 1
 · rw [if_pos c2] at H
   exact absurd H (by simp)
 · rw [if_neg c2] at H
   have c2b0 : decide ((l0.length : Int) < 1) = false := decide_eq_false c2
   have c2b1 : decide (l0.length < 1) = false := decide_eq_false (by omega)
   clear c2
   by_cases c3 : 0 < (l0.length : Int)
   rotate_left
   · rw [if_neg c3] at H
     exact absurd H (by simp)

   rw [if_pos c3] at H
   have c3b0 : decide (0 < (l0.length : Int)) = true := decide_eq_true c3
   have c3b1 : decide (0 < l0.length) = true := decide_eq_true (by omega)
   clear c3
   have H' := mkA H
   clear H
   have p236 : 0 ≤ (0 : Int) := (by omega)
   have q236 : 0 < (l0.length : Int) := dt_
   obtain ⟨ad236, e236, hx236_0⟩ := Kd.at_int HR0.out 0 p236 q236
   cases e236
   have qi236 : (0 < l0.length) = True := eq_true (by omega)
   (try rw [show ((0 : Int)).toNat = 0 from rfl] at hx236_0)
   (try rw [Addr.add_zero'] at hx236_0)
   replace p236 := eq_true p236
   replace q236 := eq_true q236
   go_enter Try.func84, Try.ntmps84
   go_wp2
   go_loopg [3, 4] k (fun kq v3 v4 w' => ∃ (x3_1 : Int) (x4_1 : Int), v3 = .int .i64 x3_1 ∧ v4 = .int .i64 x4_1 ∧ Aside0 (slices_Min_int64_int64.l0 kq l0 x3_1 x4_1 = some r) ∧ Aside0 (kq ≤ k) ∧ Aside0 (Below w.heap.size w w'))
   case atStart => exact ⟨(rd l0 0), (1), (by first | rfl | (simp; done) | (simp [*]; done) | (simp [i64_w, i32_w]; done)), (by first | rfl | (simp; done) | (simp [*]; done) | (simp [i64_w, i32_w]; done)), H', ⟨Nat.le_refl _⟩, ⟨by repeat (first | (with_reducible first | exact HB.out | apply below_alloc | apply pw_below_drewN | apply below_drew1) | exact HB.out)⟩⟩
   case round =>
    clear H'
    try clear c2
    try clear c2b0
    try clear c2b1
    try clear p2
    try clear q2
    try clear hx2
    try clear qi2
    try clear c3
    try clear c3b0
    try clear c3b1
    try clear hx236_0
    try clear p236
    try clear q236
    obtain ⟨x3_1, x4_1, rfl, rfl, HA, HK1, HB⟩ := hrel
    cases gk with
    | zero => exact absurd HA.out (by simp [slices_Min_int64_int64.l0])
    | succ k1 =>
     have H := HA.out
     clear HA
     simp only [slices_Min_int64_int64.l0] at H
     by_cases c4 : x4_1 < (l0.length : Int)
     rotate_left
     · rw [if_neg c4] at H
       have c4b0 : decide (x4_1 < (l0.length : Int)) = false := decide_eq_false c4
       clear c4
       obtain rfl := Option.some.inj H
       go_wp2
       go_ret
       exact ⟨by first | rfl | (simp [errW_none, errW_some] <;> rfl) | (simp [*, errW_none, errW_some] <;> rfl), by repeat (first | (with_reducible first | exact HB.out | apply below_alloc | apply pw_below_drewN | apply below_drew1) | exact HB.out)⟩
     rw [if_pos c4] at H
     have c4b0 : decide (x4_1 < (l0.length : Int)) = true := decide_eq_true c4
     clear c4
     by_cases c5 : 0 ≤ x4_1
     rotate_left
     · rw [if_neg c5] at H
       exact absurd H (by simp)
     rw [if_pos c5] at H
     have c5b0 : decide (0 ≤ x4_1) = true := decide_eq_true c5
     clear c5
     obtain ⟨ji6, hji6⟩ : ∃ j_ : Int, (mn x3_1 (rd l0 x4_1)) = j_ := ⟨_, rfl⟩
     replace H : (slices_Min_int64_int64.l0 k1 l0 ji6 (wrap64 (x4_1 + 1))) = some r := by first | (rw [hji6] at H; exact H) | (simp only [hji6] at H ⊢; exact H)
     have hji6_ : (if (rd l0 x4_1) < x3_1 then (rd l0 x4_1) else x3_1) = ji6 := hji6
     have H' := mkA H
     clear H
     have p237 : 0 ≤ (x4_1 : Int) := dt_
     have q237 : x4_1 < (l0.length : Int) := dt_
     obtain ⟨ad237, e237, hx237_0⟩ := Kd.at_int HR0.out x4_1 p237 q237
     obtain rfl : ad236 = ad237 := (by injection e237)
     replace hx237_0 := bc_ HB.out hx237_0
     replace p237 := eq_true p237
     replace q237 := eq_true q237
     go_wp2
     go_roundg k1
     case measure => have := HK1.out; omega
     case rel => exact ⟨(ji6), (wrap64 (x4_1 + 1)), (by first | rfl | (simp; done) | (simp only [← hji6] <;> (first | rfl | simp)) | (simp [*]; done)), (by first | rfl | (simp; done) | (simp [*]; done) | (simp [i64_w, i32_w]; done)), H', ⟨by have := HK1.out; omega⟩, ⟨by repeat (first | (with_reducible first | exact HB.out | apply below_alloc | apply pw_below_drewN | apply below_drew1) | exact HB.out)⟩⟩
/-! ### impl_tiles: function 85 -/
def impl_tiles.f (k : Nat) (a0_0 : Int) (a0_1 : Int) (l0_2 : List Int) : Option (Int) := (slices_Max_int64_int64.f k l0_2).bind fun t239 => (some (wrap64 (t239 + 1)))
theorem impl_tiles.mono : ∀ a0 a1 a2 k, LeO (impl_tiles.f k a0 a1 a2) (impl_tiles.f (k + 1) a0 a1 a2) := by
  intro a0 a1 a2 k
  unfold impl_tiles.f
  repeat' first
      | (with_reducible exact slices_Max_int64_int64.mono _ _)
      | (with_reducible exact LeO.refl _)
      | (with_reducible exact LeO.none _)
      | (with_reducible refine LeO.ite ?_ ?_)
      | (with_reducible refine LeO.bind ?_ (fun _ => ?_))
      | exact slices_Max_int64_int64.mono _ _
      | exact LeO.none _
      | refine LeO.ite ?_ ?_
      | refine LeO.bind ?_ (fun _ => ?_)
set_option maxHeartbeats 8000000 in
set_option maxRecDepth 100000 in
theorem impl_tiles.calls (k : Nat) (a0_0 : Int) (a0_1 : Int) (A0_2 : Option Addr) (c0_2 : Nat) (l0_2 : List Int) (r : Int) (w : World) (hr0_2 : Kd.C (Kd.int .i64) w A0_2 l0_2.length l0_2) (hc0_2 : l0_2.length ≤ c0_2) (h : impl_tiles.f k a0_0 a0_1 l0_2 = some r) :
    Calls Try.prog 85 #[.agg #[.int .i64 a0_0, .int .i64 a0_1, .slice A0_2 l0_2.length c0_2]] w fun e w' => e = .returned (.int .i64 r) ∧ Below w.heap.size w w' := by
  have hu29 := Try.underlying29
  have HR0_2 := Aside0.mk hr0_2
  have HC0_2 := Aside0.mk hc0_2
  clear hr0_2 hc0_2
  have HB := Aside0.mk (Below.refl w.heap.size w)
  have H : ((slices_Max_int64_int64.f k l0_2).bind fun t239 => (some (wrap64 (t239 + 1)))) = some r := h
  clear h
  replace H := Option.bind_eq_some_iff.mp H
  obtain ⟨t239, A20, H⟩ := H
  replace H : (some (wrap64 (t239 + 1))) = some r := H
  have A2 := Aside0.mk A20
  clear A20
  obtain rfl := Option.some.inj H
  go_enter Try.func85, Try.ntmps85
  go_wp2_with (first | ((with_reducible refine gate_dst (N := 1) rfl ?_); refine box_event ?hg (N := 1) ?hd (cs := #[.int .i64 a0_0, .int .i64 a0_1, .slice A0_2 l0_2.length c0_2]) (t := 29) ?hr ?_; (case hd => rfl); (case hg => rfl); (case hr => first | (go_simp; done) | (go_simp; rfl)); intro gb238 hg w3 hbox hb; have n0_ := Aside0.mk (below_step (by repeat (first | (with_reducible first | exact HB.out | apply below_alloc | apply pw_below_drewN | apply below_drew1) | exact HB.out)) hb); have n1_ := Aside0.mk (hbox); have n2_ := Aside0.mk ((by rw [hg]; exact (below_size (by repeat (first | (with_reducible first | exact HB.out | apply below_alloc | apply pw_below_drewN | apply below_drew1) | exact HB.out))) : w.heap.size ≤ gb238)); have n3_ := Aside0.mk ((by rw [hg]; exact (below_size (by repeat (first | (with_reducible first | exact HB.out | apply below_alloc | apply pw_below_drewN | apply below_drew1) | exact HB.out))) : w.heap.size ≤ gb238)); clear HB; have HB := n0_; have BK238 := n1_; have GW238 := n2_; have GE238 := n3_; clear n0_ n1_ n2_ n3_; clear hb hbox hg; have hcz4_0 : w3.cell? ⟨gb238, 0, none⟩ = some (.int .i64 a0_0) := (blk_cell BK238.out 0).trans rfl; have hcz4_1 : w3.cell? ⟨gb238, 1, none⟩ = some (.int .i64 a0_1) := (blk_cell BK238.out 1).trans rfl; have hcz4_2 : w3.cell? ⟨gb238, 2, none⟩ = some (.slice A0_2 l0_2.length c0_2) := (blk_cell BK238.out 2).trans rfl; have hfz4_0 := blk_frozen BK238.out 0; have hfz4_1 := blk_frozen BK238.out 1; have hfz4_2 := blk_frozen BK238.out 2) | ((with_reducible refine gate_callee (f := 81) rfl ?_); refine goesL_ (some 5) rfl rfl Try.func81 (by kernel_rfl) rfl #[.slice A0_2 l0_2.length c0_2] rfl (by (try simp only [List.map_toArray, List.map_cons, List.map_nil]); first | done | rfl | (simp only [List.length_drop, List.length_take]; rfl)) ?_; (with_reducible refine (slices_Max_int64_int64.calls k _ _ l0_2 t239 _ ?side1 ?side2 A2.out).mono ?_); (case side1 => repeat (first | exact (Kd.C_below HR0_2.out HB.out) | (with_reducible refine Kd.C_alloc ?_ _) | (with_reducible refine Kd.C_drewN ?_ _) | (with_reducible refine Kd.C_drew ?_))); (case side2 => exact HC0_2.out); rintro e w5 ⟨rfl, hb⟩; refine ⟨_, rfl, ?_⟩; have n0_ := Aside0.mk (blk_below (g := gb238) (o := .cells #[.int .i64 a0_0, .int .i64 a0_1, .slice A0_2 l0_2.length c0_2] 29 (0, 0)) (by (with_reducible repeat (first | refine blk_drewN ?_ _ | refine blk_drew ?_ | refine blk_alloc ?_ _)); exact BK238.out) hb); have n1_ := Aside0.mk (below_step (by repeat (first | (with_reducible first | exact HB.out | apply below_alloc | apply pw_below_drewN | apply below_drew1 | refine below_set ?_ GE238.out) | exact HB.out)) hb); clear BK238; clear HB; have BK238 := n0_; have HB := n1_; clear n0_ n1_; (try clear hb); (try clear hb2); (try clear hk); (try clear hi)))
  go_ret
  exact ⟨by first | rfl | (simp [errW_none, errW_some] <;> rfl) | (simp [*, errW_none, errW_some] <;> rfl), by repeat (first | (with_reducible first | exact HB.out | apply below_alloc | apply pw_below_drewN | apply below_drew1 | refine below_set ?_ GE238.out) | exact HB.out)⟩

/-! ### slices_Index_int64_int64: function 86 -/
def slices_Index_int64_int64.l0 : Nat → List Int → Int → Int → Int → Option (Int)
  | 0, _, _, _, _ => none
  | k + 1, x0, x1, x7, x8 => if x8 < x7 then (if 0 ≤ x8 then (if x8 < (x0.length : Int) then (if x1 = (rd x0 x8) then (some x8) else (slices_Index_int64_int64.l0 k x0 x1 x7 (wrap64 (x8 + 1)))) else (none)) else (none)) else (some (-1))
def slices_Index_int64_int64.f (k : Nat) (l0 : List Int) (a1 : Int) : Option (Int) := slices_Index_int64_int64.l0 k l0 a1 (l0.length : Int) 0
theorem slices_Index_int64_int64.mono_l : ∀ k, (∀ y0 y1 y2 y3, LeO (slices_Index_int64_int64.l0 k y0 y1 y2 y3) (slices_Index_int64_int64.l0 (k + 1) y0 y1 y2 y3))
  | 0 => fun _ _ _ _ r h => by simp [slices_Index_int64_int64.l0] at h
  | k + 1 => by
    have ih0 := slices_Index_int64_int64.mono_l k
    · intro y0 y1 y2 y3
      unfold slices_Index_int64_int64.l0
      repeat' first
      | (with_reducible exact ih0 _ _ _ _)
      | (with_reducible exact LeO.refl _)
      | (with_reducible exact LeO.none _)
      | (with_reducible refine LeO.ite ?_ ?_)
      | (with_reducible refine LeO.bind ?_ (fun _ => ?_))
      | exact ih0 _ _ _ _
      | exact LeO.none _
      | refine LeO.ite ?_ ?_
      | refine LeO.bind ?_ (fun _ => ?_)
theorem slices_Index_int64_int64.mono : ∀ a0 a1 k, LeO (slices_Index_int64_int64.f k a0 a1) (slices_Index_int64_int64.f (k + 1) a0 a1) := by
  intro a0 a1 k
  have ih0 := slices_Index_int64_int64.mono_l k
  unfold slices_Index_int64_int64.f
  repeat' first
      | (with_reducible exact ih0 _ _ _ _)
      | (with_reducible exact LeO.refl _)
      | (with_reducible exact LeO.none _)
      | (with_reducible refine LeO.ite ?_ ?_)
      | (with_reducible refine LeO.bind ?_ (fun _ => ?_))
      | exact ih0 _ _ _ _
      | exact LeO.none _
      | refine LeO.ite ?_ ?_
      | refine LeO.bind ?_ (fun _ => ?_)
open List renaming setIfInBounds_toArray → sA, set_cons_zero → sB, set_cons_succ → sC
open Go.Proofs.YtnidibnhojedoaaW.PrintWords.Aside0 renaming mk → mkA
open Go.Proofs.YtnidibnhojedoaaX (dt_ bc_ p0_ p1_ bl_ cb_ bs0_ bs1_ bs2_ bs3_ bs4_ bs5_ bs6_ bs7_ bs8_ bs9_ bs10_ bs11_ bs12_)
set_option maxHeartbeats 8000000 in
set_option maxRecDepth 100000 in
theorem slices_Index_int64_int64.calls (k : Nat) (A0 : Option Addr) (c0 : Nat) (l0 : List Int) (a1 : Int) (r : Int) (w : World) (hr0 : Kd.C (Kd.int .i64) w A0 l0.length l0) (hc0 : l0.length ≤ c0) (h : slices_Index_int64_int64.f k l0 a1 = some r) :
 Calls Try.prog 86 #[.slice A0 l0.length c0, .int .i64 a1] w fun e w' => e = .returned (.int .i64 r) ∧ Drawn0 w w' := by
 have HR0 := mkA hr0
 have HC0 := mkA hc0
 clear hr0 hc0
 have H : (slices_Index_int64_int64.l0 k l0 a1 (l0.length : Int) 0) = some r := h
 clear h
 have H' := mkA H
 clear H
 go_enter Try.func86, Try.ntmps86
 go_wp2
 go_loopg [8] k (fun kq v8 w' => ∃ (x8_1 : Int), v8 = .int .i64 x8_1 ∧ Aside0 (slices_Index_int64_int64.l0 kq l0 a1 (l0.length : Int) x8_1 = some r) ∧ Aside0 (kq ≤ k) ∧ Drawn0 w w')
 case atStart => exact ⟨(0), (by first | rfl | (simp; done) | (simp [*]; done) | (simp [i64_w, i32_w]; done)), H', ⟨Nat.le_refl _⟩, by repeat (first | exact Drawn0.refl _ | apply Drawn0.step)⟩
 case round =>
  clear H'
  try clear p2
  obtain ⟨x8_1, rfl, HA, HK1, ⟨m1, rfl⟩⟩ := hrel
  cases gk with
  | zero => exact absurd HA.out (by simp [slices_Index_int64_int64.l0])
  | succ k1 =>
   have H := HA.out
   clear HA
   simp only [slices_Index_int64_int64.l0] at H
   by_cases c3 : x8_1 < (l0.length : Int)
   rotate_left
   · rw [if_neg c3] at H
     have c3b0 : decide (x8_1 < (l0.length : Int)) = false := decide_eq_false c3
     clear c3
     obtain rfl := Option.some.inj H
     go_wp2
     go_ret
     exact ⟨by first | rfl | (simp; done) | (simp [*]; done) | (simp [i64_w, i32_w]; done), by repeat (first | exact Drawn0.refl _ | apply Drawn0.step)⟩

   rw [if_pos c3] at H
   have c3b0 : decide (x8_1 < (l0.length : Int)) = true := decide_eq_true c3
   clear c3
   by_cases c4 : 0 ≤ x8_1
   rotate_left
   · rw [if_neg c4] at H
     exact absurd H (by simp)
   rw [if_pos c4] at H
   have c4b0 : decide (0 ≤ x8_1) = true := decide_eq_true c4
   clear c4
   by_cases c5 : x8_1 < (l0.length : Int)
   rotate_left
   · rw [if_neg c5] at H
     exact absurd H (by simp)
   rw [if_pos c5] at H
   have c5b0 : decide (x8_1 < (l0.length : Int)) = true := decide_eq_true c5
   clear c5
   by_cases c6 : a1 = (rd l0 x8_1)
   · rw [if_pos c6] at H
     have c6b0 : (a1 == (rd l0 x8_1)) = true := beq_iff_eq.mpr c6
     have c6b1 : (a1 != (rd l0 x8_1)) = false := bne_eq_false_iff_eq.mpr c6
     clear c6
     obtain rfl := Option.some.inj H
     have p240 : 0 ≤ (x8_1 : Int) := dt_
     have q240 : x8_1 < (l0.length : Int) := dt_
     obtain ⟨ad240, e240, hx240_0⟩ := Kd.at_int HR0.out x8_1 p240 q240
     cases e240
     replace p240 := eq_true p240
     replace q240 := eq_true q240
     go_wp2
     go_ret
     exact ⟨by first | rfl | (simp; done) | (simp [*]; done) | (simp [i64_w, i32_w]; done), by repeat (first | exact Drawn0.refl _ | apply Drawn0.step)⟩
   · rw [if_neg c6] at H
     have c6b0 : (a1 == (rd l0 x8_1)) = false := beq_eq_false_iff_ne.mpr c6
     have c6b1 : (a1 != (rd l0 x8_1)) = true := bne_iff_ne.mpr c6
     have H' := mkA H
     clear H
     have p240 : 0 ≤ (x8_1 : Int) := dt_
     have q240 : x8_1 < (l0.length : Int) := dt_
     obtain ⟨ad240, e240, hx240_0⟩ := Kd.at_int HR0.out x8_1 p240 q240
     cases e240
     replace p240 := eq_true p240
     replace q240 := eq_true q240
     go_wp2
     go_roundg k1
     case measure => have := HK1.out; omega
     case rel => exact ⟨(wrap64 (x8_1 + 1)), (by first | rfl | (simp; done) | (simp [*]; done) | (simp [i64_w, i32_w]; done)), H', ⟨by have := HK1.out; omega⟩, by repeat (first | exact Drawn0.refl _ | apply Drawn0.step)⟩
/-! ### impl_rest: function 71 -/
def impl_rest.f (a0 : Int) (a1 : Int) : Option (Int) := if a1 = 0 then (none) else (some (Int.tmod (wrap64 ((Int.tmod a0 a1) + a1)) a1))
set_option maxHeartbeats 8000000 in
set_option maxRecDepth 100000 in
theorem impl_rest.calls (a0 : Int) (a1 : Int) (r : Int) (w : World) (h : impl_rest.f a0 a1 = some r) :
    Calls Try.prog 71 #[.int .i64 a0, .int .i64 a1] w fun e w' => e = .returned (.int .i64 r) ∧ Drawn0 w w' := by
  have H : (if a1 = 0 then (none) else (some (Int.tmod (wrap64 ((Int.tmod a0 a1) + a1)) a1))) = some r := h
  clear h
  by_cases c3 : a1 = 0
  · rw [if_pos c3] at H
    exact absurd H (by simp)
  · rw [if_neg c3] at H
    have c3b0 : (a1 == 0) = false := beq_eq_false_iff_ne.mpr c3
    have c3b1 : (a1 != 0) = true := bne_iff_ne.mpr c3
    obtain rfl := Option.some.inj H
    go_enter Try.func71, Try.ntmps71
    go_wp2
    go_ret
    exact ⟨by first | rfl | (simp; done) | (simp [*]; done) | (simp [i64_w, i32_w]; done), by repeat (first | exact Drawn0.refl _ | apply Drawn0.step)⟩

/-! ### impl_touchingCells_1: function 98 -/
def impl_touchingCells_1.f (a0 : Int) (a1 : Int) (l2 : List (S29)) : Option (Int) := if 0 < (l2.length : Int) then ((impl_rest.f a1 ((rd_T29 l2 0).f1)).bind fun t242 => ((impl_rest.f a0 ((rd_T29 l2 0).f0)).bind fun t245 => (some (wrap64 ((wrap64 (t242 * ((rd_T29 l2 0).f0))) + t245))))) else (none)
def impl_touchingCells_1.T1 : Bool × List (List Nat × List Nat) := (true, [([], []), ([], []), ([1], [1]), ([0, 2], [0, 2]), ([], []), ([4], [4]), ([3, 5], [3, 5]), ([], []), ([], []), ([8], [8]), ([7, 9, 3], [7, 9]), ([6, 10], [6, 10]), ([11, 10, 0, 1, 2, 3, 4, 5, 6, 7, 8, 9, 10, 11], [11])])
def impl_touchingCells_1.B1 : List Nat := [0, 0, 2, 7, 0, 16, 63, 0, 0, 256, 911, 2047, 4095]
theorem impl_touchingCells_1.tab1 : rtab .any (opsOf Try.f98 1) = impl_touchingCells_1.T1 := by kernel_rfl
theorem impl_touchingCells_1.bits1 : waitsOk impl_touchingCells_1.T1.2 impl_touchingCells_1.B1 = true := by kernel_rfl
open List renaming setIfInBounds_toArray → sA, set_cons_zero → sB, set_cons_succ → sC
open Go.Proofs.YtnidibnhojedoaaW.PrintWords.Aside0 renaming mk → mkA
open Go.Proofs.YtnidibnhojedoaaX (dt_ bc_ p0_ p1_ bl_ cb_ bs0_ bs1_ bs2_ bs3_ bs4_ bs5_ bs6_ bs7_ bs8_ bs9_ bs10_ bs11_ bs12_)
abbrev impl_touchingCells_1.d0 : Array Bool := #[false, false, false, false, false, false, false, false, false, false, false, false, false]
abbrev impl_touchingCells_1.d1 : Array Bool := #[true, false, false, false, false, false, false, false, false, false, false, false, false]
abbrev impl_touchingCells_1.d2 : Array Bool := #[true, true, false, false, false, false, false, false, false, false, false, false, false]
abbrev impl_touchingCells_1.d3 : Array Bool := #[true, true, false, false, true, false, false, false, false, false, false, false, false]
abbrev impl_touchingCells_1.d4 : Array Bool := #[true, true, false, false, true, false, false, true, false, false, false, false, false]
abbrev impl_touchingCells_1.d5 : Array Bool := #[true, true, false, false, true, false, false, true, true, false, false, false, false]
abbrev impl_touchingCells_1.d6 : Array Bool := #[true, true, true, false, true, false, false, true, true, false, false, false, false]
abbrev impl_touchingCells_1.d7 : Array Bool := #[true, true, true, false, true, true, false, true, true, false, false, false, false]
abbrev impl_touchingCells_1.d8 : Array Bool := #[true, true, true, false, true, true, false, true, true, true, false, false, false]
abbrev impl_touchingCells_1.d9 : Array Bool := #[true, true, true, true, true, true, false, true, true, true, false, false, false]
abbrev impl_touchingCells_1.d10 : Array Bool := #[true, true, true, true, true, true, true, true, true, true, false, false, false]
abbrev impl_touchingCells_1.d11 : Array Bool := #[true, true, true, true, true, true, true, true, true, true, true, false, false]
abbrev impl_touchingCells_1.d12 : Array Bool := #[true, true, true, true, true, true, true, true, true, true, true, true, false]
abbrev impl_touchingCells_1.d13 : Array Bool := #[true, true, true, true, true, true, true, true, true, true, true, true, true]
set_option maxHeartbeats 8000000 in
set_option maxRecDepth 100000 in
theorem impl_touchingCells_1.calls (a0 : Int) (a1 : Int) (A2 : Option Addr) (l2 : List (S29)) (r : Int) (w : World) (hr2 : Kd.C k29 w A2 l2.length l2) (h : impl_touchingCells_1.f a0 a1 l2 = some r) :
 Calls Try.prog 98 #[.int .i64 a0, .int .i64 a1, .pointer A2] w fun e w' => e = .returned (.int .i64 r) ∧ Below w.heap.size w w' := by
 have HR2 := mkA hr2
 clear hr2
 have HB := mkA (Below.refl w.heap.size w)
 have H : (if 0 < (l2.length : Int) then ((impl_rest.f a1 ((rd_T29 l2 0).f1)).bind fun t242 => ((impl_rest.f a0 ((rd_T29 l2 0).f0)).bind fun t245 => (some (wrap64 ((wrap64 (t242 * ((rd_T29 l2 0).f0))) + t245))))) else (none)) = some r := h
 clear h
 by_cases c4 : 0 < (l2.length : Int)
 rotate_left
 · rw [if_neg c4] at H
   exact absurd H (by simp)

 rw [if_pos c4] at H
 have c4b0 : decide (0 < (l2.length : Int)) = true := decide_eq_true c4
 have c4b1 : decide (0 < l2.length) = true := decide_eq_true (by omega)
 clear c4
 replace H := Option.bind_eq_some_iff.mp H
 obtain ⟨t242, A50, H⟩ := H
 replace H : ((impl_rest.f a0 ((rd_T29 l2 0).f0)).bind fun t245 => (some (wrap64 ((wrap64 (t242 * ((rd_T29 l2 0).f0))) + t245)))) = some r := H
 have A5 := mkA A50
 clear A50
 replace H := Option.bind_eq_some_iff.mp H
 obtain ⟨t245, A60, H⟩ := H
 replace H : (some (wrap64 ((wrap64 (t242 * ((rd_T29 l2 0).f0))) + t245))) = some r := H
 have A6 := mkA A60
 clear A60
 obtain rfl := Option.some.inj H
 go_enter Try.func98, Try.ntmps98
 try go_wp2
 have n0_ := mkA (below_drew1 HB.out)
 clear HB
 have HB := n0_
 clear n0_
 have p241 : 0 ≤ (0 : Int) := (by omega)
 have q241 : 0 < (l2.length : Int) := dt_
 obtain ⟨ad241, A241_2, c241_2, e241, hx241_0, hx241_1, hx241_2, hl241_2, hi241_2⟩ := at0_T29 HR2.out q241
 have hw241_2 := hx241_2
 have hw241_1 := hx241_1
 have hw241_0 := hx241_0
 cases e241
 have qi241 : (0 < l2.length) = True := eq_true (by omega)
 replace hx241_0 := bc_ HB.out hx241_0
 replace hx241_1 := bc_ HB.out hx241_1
 replace hx241_2 := bc_ HB.out hx241_2
 have HR241_2 := mkA hi241_2
 have HC241_2 := mkA hl241_2
 clear hi241_2 hl241_2
 replace p241 := eq_true p241
 replace q241 := eq_true q241
 have p243 : 0 ≤ (0 : Int) := (by omega)
 have q243 : 0 < (l2.length : Int) := dt_
 obtain ⟨ad243, A243_2, c243_2, e243, hx243_0, hx243_1, hx243_2, hl243_2, hi243_2⟩ := at0_T29 HR2.out q243
 have hw243_2 := hx243_2
 have hw243_1 := hx243_1
 have hw243_0 := hx243_0
 obtain rfl : ad241 = ad243 := (by injection e243)
 have qi243 : (0 < l2.length) = True := eq_true (by omega)
 replace hx243_0 := bc_ HB.out hx243_0
 replace hx243_1 := bc_ HB.out hx243_1
 replace hx243_2 := bc_ HB.out hx243_2
 have HR243_2 := mkA hi243_2
 have HC243_2 := mkA hl243_2
 clear hi243_2 hl243_2
 replace p243 := eq_true p243
 replace q243 := eq_true q243
 have ea_ := Option.some.inj (hx241_2.symm.trans hx243_2)
 injection ea_ with ea_ en_ ec_
 subst ea_
 subst ec_
 clear en_
 have p244 : 0 ≤ (0 : Int) := (by omega)
 have q244 : 0 < (l2.length : Int) := dt_
 obtain ⟨ad244, A244_2, c244_2, e244, hx244_0, hx244_1, hx244_2, hl244_2, hi244_2⟩ := at0_T29 HR2.out q244
 have hw244_2 := hx244_2
 have hw244_1 := hx244_1
 have hw244_0 := hx244_0
 obtain rfl : ad241 = ad244 := (by injection e244)
 have qi244 : (0 < l2.length) = True := eq_true (by omega)
 replace hx244_0 := bc_ HB.out hx244_0
 replace hx244_1 := bc_ HB.out hx244_1
 replace hx244_2 := bc_ HB.out hx244_2
 have HR244_2 := mkA hi244_2
 have HC244_2 := mkA hl244_2
 clear hi244_2 hl244_2
 replace p244 := eq_true p244
 replace q244 := eq_true q244
 have ea_ := Option.some.inj (hx241_2.symm.trans hx244_2)
 injection ea_ with ea_ en_ ec_
 subst ea_
 subst ec_
 clear en_
 refine start_ (n := 13) (S := fun w' => w'.cell? ad241 = some (.int .i64 ((rd_T29 l2 0).f0)) ∧ w'.cell? ⟨ad241.block, ad241.off + 1, none⟩ = some (.int .i64 ((rd_T29 l2 0).f1)) ∧ w'.cell? ⟨ad241.block, ad241.off + 2, none⟩ = some (.slice A241_2 ((rd_T29 l2 0).f2).length c241_2) ∧ w'.cell? ad241 = some (.int .i64 ((rd_T29 l2 0).f0)) ∧ w'.cell? ⟨ad241.block, ad241.off + 1, none⟩ = some (.int .i64 ((rd_T29 l2 0).f1)) ∧ w'.cell? ⟨ad241.block, ad241.off + 2, none⟩ = some (.slice A241_2 ((rd_T29 l2 0).f2).length c241_2) ∧ w'.cell? ad241 = some (.int .i64 ((rd_T29 l2 0).f0)) ∧ w'.cell? ⟨ad241.block, ad241.off + 1, none⟩ = some (.int .i64 ((rd_T29 l2 0).f1)) ∧ w'.cell? ⟨ad241.block, ad241.off + 2, none⟩ = some (.slice A241_2 ((rd_T29 l2 0).f2).length c241_2)) (ds := []) impl_touchingCells_1.d0 (by kernel_rfl) rfl rfl ⟨(bc_ HB.out hw241_0 :), (bc_ HB.out hw241_1 :), (bc_ HB.out hw241_2 :), (bc_ HB.out hw243_0 :), (bc_ HB.out hw243_1 :), (bc_ HB.out hw243_2 :), (bc_ HB.out hw244_0 :), (bc_ HB.out hw244_1 :), (bc_ HB.out hw244_2 :)⟩ (fun hHeld => ?_); refine with_tabW impl_touchingCells_1.tab1 impl_touchingCells_1.bits1 (fun HT_ HW_ => ?_)
 generalize w.drew = w7 at HB HR241_2 HR243_2 HR244_2 hx241_0 hx241_1 hx241_2 hx243_0 hx243_1 hx243_2 hx244_0 hx244_1 hx244_2 hHeld ⊢
 refine p1_ HT_.out 0 6 impl_touchingCells_1.d1 ?_
 refine p1_ HT_.out 1 7 impl_touchingCells_1.d2 ?_
 refine p1_ HT_.out 4 10 impl_touchingCells_1.d3 ?_
 refine p1_ HT_.out 7 13 impl_touchingCells_1.d4 ?_
 refine p1_ HT_.out 8 14 impl_touchingCells_1.d5 ?_
 refine take_ (i := 2) (N := some 8) (v := ?_) (a' := ?_) impl_touchingCells_1.d6 rfl rfl (take_ofW HT_.out HW_.out (by kernel_rfl)) (fun _ _ _ h => h) (Or.inl ⟨by rfl, ?_⟩) hHeld ?_ ?_
 rotate_left
 · rintro w' ⟨s0, s1, s2, s3, s4, s5, s6, s7, s8⟩
   go_simp
   with_reducible rfl
 rotate_left
 · simp only [Act.put, sA, sB, sC, i64_w, i32_w]
   rfl
 refine take_ (i := 5) (N := some 11) (v := ?_) (a' := ?_) impl_touchingCells_1.d7 rfl rfl (take_ofW HT_.out HW_.out (by kernel_rfl)) (fun _ _ _ h => h) (Or.inl ⟨by rfl, ?_⟩) hHeld ?_ ?_
 rotate_left
 · rintro w' ⟨s0, s1, s2, s3, s4, s5, s6, s7, s8⟩
   go_simp
   with_reducible rfl
 rotate_left
 · simp only [Act.put, sA, sB, sC, i64_w, i32_w]
   rfl
 refine take_ (i := 9) (N := some 15) (v := ?_) (a' := ?_) impl_touchingCells_1.d8 rfl rfl (take_ofW HT_.out HW_.out (by kernel_rfl)) (fun _ _ _ h => h) (Or.inl ⟨by rfl, ?_⟩) hHeld ?_ ?_
 rotate_left
 · rintro w' ⟨s0, s1, s2, s3, s4, s5, s6, s7, s8⟩
   go_simp
   with_reducible rfl
 rotate_left
 · simp only [Act.put, sA, sB, sC, i64_w, i32_w]
   rfl
 refine one_ (i := 3) (N := some 9) impl_touchingCells_1.d9 rfl rfl (one_of HT_.out (by kernel_rfl)) (by decide) (fun K hK => ?_)
 refine goes_ Try.func71 (by kernel_rfl) rfl #[.int .i64 a1, .int .i64 ((rd_T29 l2 0).f1)] (by rfl) rfl rfl (by (try simp only [List.map_toArray, List.map_cons, List.map_nil]); first | done | rfl | (simp only [List.length_drop, List.length_take]; rfl)) ?_
 with_reducible refine (impl_rest.calls a1 ((rd_T29 l2 0).f1) t242 _ A5.out).mono ?_
 rintro e w' ⟨rfl, ⟨nd, rfl⟩⟩
 refine ⟨_, rfl, ?_⟩
 refine hK.out _ _ ⟨(bc_ HB.out hw241_0 :), (bc_ HB.out hw241_1 :), (bc_ HB.out hw241_2 :), (bc_ HB.out hw243_0 :), (bc_ HB.out hw243_1 :), (bc_ HB.out hw243_2 :), (bc_ HB.out hw244_0 :), (bc_ HB.out hw244_1 :), (bc_ HB.out hw244_2 :)⟩ (fun hHeld => ?_)
 clear hK K
 refine norm_ (a' := ?_) ?_ ?_
 rotate_left
 · show Act.put _ (some 9) _ = _
   simp only [Act.put, sA, sB, sC, i64_w, i32_w]
   rfl
 refine p1_ HT_.out 6 12 impl_touchingCells_1.d10 ?_
 refine one_ (i := 10) (N := some 16) impl_touchingCells_1.d11 rfl rfl (one_of HT_.out (by kernel_rfl)) (by decide) (fun K hK => ?_)
 refine goes_ Try.func71 (by kernel_rfl) rfl #[.int .i64 a0, .int .i64 ((rd_T29 l2 0).f0)] (by rfl) rfl rfl (by (try simp only [List.map_toArray, List.map_cons, List.map_nil]); first | done | rfl | (simp only [List.length_drop, List.length_take]; rfl)) ?_
 with_reducible refine (impl_rest.calls a0 ((rd_T29 l2 0).f0) t245 _ A6.out).mono ?_
 rintro e w' ⟨rfl, ⟨nd, rfl⟩⟩
 refine ⟨_, rfl, ?_⟩
 refine hK.out _ _ ⟨(bc_ HB.out hw241_0 :), (bc_ HB.out hw241_1 :), (bc_ HB.out hw241_2 :), (bc_ HB.out hw243_0 :), (bc_ HB.out hw243_1 :), (bc_ HB.out hw243_2 :), (bc_ HB.out hw244_0 :), (bc_ HB.out hw244_1 :), (bc_ HB.out hw244_2 :)⟩ (fun hHeld => ?_)
 clear hK K
 refine norm_ (a' := ?_) ?_ ?_
 rotate_left
 · show Act.put _ (some 16) _ = _
   simp only [Act.put, sA, sB, sC, i64_w, i32_w]
   rfl
 refine p1_ HT_.out 11 17 impl_touchingCells_1.d12 ?_
 refine p1_ HT_.out 12 5 impl_touchingCells_1.d13 ?_
 refine done_ (done_of HT_.out (by kernel_rfl)) ?_
 try go_wp2
 go_ret
 exact ⟨by first | rfl | (simp [errW_none, errW_some] <;> rfl) | (simp [*, errW_none, errW_some] <;> rfl), by repeat (first | (with_reducible first | exact HB.out | apply below_alloc | apply pw_below_drewN | apply below_drew1) | exact HB.out)⟩
/-! ### impl_touchingCells: function 87 -/
def impl_touchingCells.f (a0_0 : Int) (a0_1 : Int) (l0_2 : List Int) (a1 : Int) : Option (Int × Int × Int × Int) := if a0_0 = 0 then (none) else ((impl_touchingCells_1.f (wrap64 ((Int.tmod a1 a0_0) + 1)) (wrap64 (Int.tdiv a1 a0_0)) [(⟨a0_0, a0_1, l0_2⟩ : S29)]).bind fun t248 => ((impl_touchingCells_1.f (wrap64 ((Int.tmod a1 a0_0) - 1)) (wrap64 (Int.tdiv a1 a0_0)) [(⟨a0_0, a0_1, l0_2⟩ : S29)]).bind fun t249 => ((impl_touchingCells_1.f (Int.tmod a1 a0_0) (wrap64 ((wrap64 (Int.tdiv a1 a0_0)) + 1)) [(⟨a0_0, a0_1, l0_2⟩ : S29)]).bind fun t250 => ((impl_touchingCells_1.f (Int.tmod a1 a0_0) (wrap64 ((wrap64 (Int.tdiv a1 a0_0)) - 1)) [(⟨a0_0, a0_1, l0_2⟩ : S29)]).bind fun t251 => (some (t248, t249, t250, t251))))))
open List renaming setIfInBounds_toArray → sA, set_cons_zero → sB, set_cons_succ → sC
open Go.Proofs.YtnidibnhojedoaaW.PrintWords.Aside0 renaming mk → mkA
open Go.Proofs.YtnidibnhojedoaaX (dt_ bc_ p0_ p1_ bl_ cb_ bs0_ bs1_ bs2_ bs3_ bs4_ bs5_ bs6_ bs7_ bs8_ bs9_ bs10_ bs11_ bs12_)
set_option maxHeartbeats 8000000 in
set_option maxRecDepth 100000 in
theorem impl_touchingCells.calls (a0_0 : Int) (a0_1 : Int) (A0_2 : Option Addr) (c0_2 : Nat) (l0_2 : List Int) (a1 : Int) (r1 : Int) (r2 : Int) (r3 : Int) (r4 : Int) (w : World) (hr0_2 : Kd.C (Kd.int .i64) w A0_2 l0_2.length l0_2) (hc0_2 : l0_2.length ≤ c0_2) (h : impl_touchingCells.f a0_0 a0_1 l0_2 a1 = some (r1, r2, r3, r4)) :
 Calls Try.prog 87 #[.agg #[.int .i64 a0_0, .int .i64 a0_1, .slice A0_2 l0_2.length c0_2], .int .i64 a1] w fun e w' => e = .returned (.agg #[.int .i64 r1, .int .i64 r2, .int .i64 r3, .int .i64 r4]) ∧ Below w.heap.size w w' := by
 have hu29 := Try.underlying29
 have hu95 := Try.underlying95
 have HR0_2 := mkA hr0_2
 have HC0_2 := mkA hc0_2
 clear hr0_2 hc0_2
 have HB := mkA (Below.refl w.heap.size w)
 have H : (if a0_0 = 0 then (none) else ((impl_touchingCells_1.f (wrap64 ((Int.tmod a1 a0_0) + 1)) (wrap64 (Int.tdiv a1 a0_0)) [(⟨a0_0, a0_1, l0_2⟩ : S29)]).bind fun t248 => ((impl_touchingCells_1.f (wrap64 ((Int.tmod a1 a0_0) - 1)) (wrap64 (Int.tdiv a1 a0_0)) [(⟨a0_0, a0_1, l0_2⟩ : S29)]).bind fun t249 => ((impl_touchingCells_1.f (Int.tmod a1 a0_0) (wrap64 ((wrap64 (Int.tdiv a1 a0_0)) + 1)) [(⟨a0_0, a0_1, l0_2⟩ : S29)]).bind fun t250 => ((impl_touchingCells_1.f (Int.tmod a1 a0_0) (wrap64 ((wrap64 (Int.tdiv a1 a0_0)) - 1)) [(⟨a0_0, a0_1, l0_2⟩ : S29)]).bind fun t251 => (some (t248, t249, t250, t251))))))) = some (r1, r2, r3, r4) := h
 clear h
 by_cases c3 : a0_0 = 0
 · rw [if_pos c3] at H
   exact absurd H (by simp)
 · rw [if_neg c3] at H
   have c3b0 : (a0_0 == 0) = false := beq_eq_false_iff_ne.mpr c3
   have c3b1 : (a0_0 != 0) = true := bne_iff_ne.mpr c3
   replace H := Option.bind_eq_some_iff.mp H
   obtain ⟨t248, A40, H⟩ := H
   replace H : ((impl_touchingCells_1.f (wrap64 ((Int.tmod a1 a0_0) - 1)) (wrap64 (Int.tdiv a1 a0_0)) [(⟨a0_0, a0_1, l0_2⟩ : S29)]).bind fun t249 => ((impl_touchingCells_1.f (Int.tmod a1 a0_0) (wrap64 ((wrap64 (Int.tdiv a1 a0_0)) + 1)) [(⟨a0_0, a0_1, l0_2⟩ : S29)]).bind fun t250 => ((impl_touchingCells_1.f (Int.tmod a1 a0_0) (wrap64 ((wrap64 (Int.tdiv a1 a0_0)) - 1)) [(⟨a0_0, a0_1, l0_2⟩ : S29)]).bind fun t251 => (some (t248, t249, t250, t251))))) = some (r1, r2, r3, r4) := H
   have A4 := mkA A40
   clear A40
   replace H := Option.bind_eq_some_iff.mp H
   obtain ⟨t249, A50, H⟩ := H
   replace H : ((impl_touchingCells_1.f (Int.tmod a1 a0_0) (wrap64 ((wrap64 (Int.tdiv a1 a0_0)) + 1)) [(⟨a0_0, a0_1, l0_2⟩ : S29)]).bind fun t250 => ((impl_touchingCells_1.f (Int.tmod a1 a0_0) (wrap64 ((wrap64 (Int.tdiv a1 a0_0)) - 1)) [(⟨a0_0, a0_1, l0_2⟩ : S29)]).bind fun t251 => (some (t248, t249, t250, t251)))) = some (r1, r2, r3, r4) := H
   have A5 := mkA A50
   clear A50
   replace H := Option.bind_eq_some_iff.mp H
   obtain ⟨t250, A60, H⟩ := H
   replace H : ((impl_touchingCells_1.f (Int.tmod a1 a0_0) (wrap64 ((wrap64 (Int.tdiv a1 a0_0)) - 1)) [(⟨a0_0, a0_1, l0_2⟩ : S29)]).bind fun t251 => (some (t248, t249, t250, t251))) = some (r1, r2, r3, r4) := H
   have A6 := mkA A60
   clear A60
   replace H := Option.bind_eq_some_iff.mp H
   obtain ⟨t251, A70, H⟩ := H
   replace H : (some (t248, t249, t250, t251)) = some (r1, r2, r3, r4) := H
   have A7 := mkA A70
   clear A70
   simp only [Option.some.injEq, Prod.mk.injEq] at H
   obtain ⟨rfl, rfl, rfl, rfl⟩ := H
   go_enter Try.func87, Try.ntmps87
   go_wp2_with (first | ((with_reducible refine gate_dst (N := 2) rfl ?_); refine box_event ?hg (N := 2) ?hd (cs := #[.int .i64 a0_0, .int .i64 a0_1, .slice A0_2 l0_2.length c0_2]) (t := 29) ?hr ?_; (case hd => rfl); (case hg => rfl); (case hr => first | (go_simp; done) | (go_simp; rfl)); intro gb246 hg w8 hbox hb; have n0_ := mkA (below_step (bs0_ HB.out) hb); have n1_ := mkA (hbox); have n2_ := mkA ((by rw [hg]; exact (below_size (bs0_ HB.out)) : w.heap.size ≤ gb246)); have n3_ := mkA ((by rw [hg]; exact (below_size (bs0_ HB.out)) : w.heap.size ≤ gb246)); clear HB; have HB := n0_; have BK246 := n1_; have GW246 := n2_; have GE246 := n3_; clear n0_ n1_ n2_ n3_; clear hb hbox hg) | ((with_reducible refine gate_dst (N := 4) rfl ?_); refine box_event ?hg (N := 4) ?hd (cs := #[.int .i64 0, .int .i64 0, .int .i64 0, .int .i64 0]) (t := 95) ?hr ?_; (case hd => rfl); (case hg => rfl); (case hr => first | (go_simp; done) | (go_simp; rfl)); intro gb247 hg w9 hbox hb; have n0_ := mkA (blk_below (g := gb246) (o := .cells #[.int .i64 a0_0, .int .i64 a0_1, .slice A0_2 l0_2.length c0_2] 29 (0, 0)) (bl_ BK246.out) hb); have n1_ := mkA (below_step (bs1_ HB.out GE246.out) hb); have n2_ := mkA (hbox); have n3_ := mkA ((by rw [hg]; exact (below_size (bs1_ HB.out GE246.out)) : w.heap.size ≤ gb247)); have n4_ := mkA ((by rw [hg]; exact (below_size (bs1_ HB.out GE246.out)) : w.heap.size ≤ gb247)); have n5_ := mkA ((by rw [hg]; exact Nat.ne_of_lt (blk_lt (g := gb246) (o := .cells #[.int .i64 a0_0, .int .i64 a0_1, .slice A0_2 l0_2.length c0_2] 29 (0, 0)) (bl_ BK246.out)) : gb246 ≠ gb247)); have n6_ := mkA ((by rw [hg]; exact Nat.ne_of_gt (blk_lt (g := gb246) (o := .cells #[.int .i64 a0_0, .int .i64 a0_1, .slice A0_2 l0_2.length c0_2] 29 (0, 0)) (bl_ BK246.out)) : gb247 ≠ gb246)); clear BK246; clear HB; have BK246 := n0_; have HB := n1_; have BK247 := n2_; have GW247 := n3_; have GE247 := n4_; have NB246_247 := n5_; have NB247_246 := n6_; clear n0_ n1_ n2_ n3_ n4_ n5_ n6_; clear hb hbox hg; have hnb10 := NB246_247.out; have hnc10 := NB247_246.out; have hcz11_0 : w9.cell? ⟨gb246, 0, none⟩ = some (.int .i64 a0_0) := (blk_cell BK246.out 0).trans rfl; have hcz11_1 : w9.cell? ⟨gb246, 1, none⟩ = some (.int .i64 a0_1) := (blk_cell BK246.out 1).trans rfl; have hcz11_2 : w9.cell? ⟨gb246, 2, none⟩ = some (.slice A0_2 l0_2.length c0_2) := (blk_cell BK246.out 2).trans rfl; have hfz11_0 := blk_frozen BK246.out 0; have hfz11_1 := blk_frozen BK246.out 1; have hfz11_2 := blk_frozen BK246.out 2) | (go_at_call 98; (with_reducible refine (impl_touchingCells_1.calls (wrap64 ((Int.tmod a1 a0_0) + 1)) (wrap64 (Int.tdiv a1 a0_0)) _ [(⟨a0_0, a0_1, l0_2⟩ : S29)] t248 _ ?side1 A4.out).mono ?_); (case side1 => exact Go.Proofs.YtnidibnhojedoaaX.rp_box (t := 29) (fr := (0, 0)) (bl_ BK246.out) (k29_mk _ (⟨a0_0, a0_1, l0_2⟩ : S29) (by exact HC0_2.out) (by repeat (first | exact (Kd.C_below HR0_2.out HB.out) | (with_reducible refine Kd.C_alloc ?_ _) | (with_reducible refine Kd.C_drewN ?_ _) | (with_reducible refine Kd.C_drew ?_))))); rintro e w12 ⟨rfl, hb⟩; have n0_ := mkA (blk_below (g := gb246) (o := .cells #[.int .i64 a0_0, .int .i64 a0_1, .slice A0_2 l0_2.length c0_2] 29 (0, 0)) (bl_ BK246.out) hb); have n1_ := mkA (blk_below (g := gb247) (o := .cells #[.int .i64 0, .int .i64 0, .int .i64 0, .int .i64 0] 95 (0, 0)) (bl_ BK247.out) hb); have n2_ := mkA (below_step (bs2_ HB.out GE246.out GE247.out) hb); clear BK246; clear BK247; clear HB; have BK246 := n0_; have BK247 := n1_; have HB := n2_; clear n0_ n1_ n2_; (try clear hb); (try clear hb2); (try clear hk); (try clear hi)) | (go_at_call 98; (with_reducible refine (impl_touchingCells_1.calls (wrap64 ((Int.tmod a1 a0_0) - 1)) (wrap64 (Int.tdiv a1 a0_0)) _ [(⟨a0_0, a0_1, l0_2⟩ : S29)] t249 _ ?side1 A5.out).mono ?_); (case side1 => exact Go.Proofs.YtnidibnhojedoaaX.rp_box (t := 29) (fr := (0, 0)) (bl_ BK246.out) (k29_mk _ (⟨a0_0, a0_1, l0_2⟩ : S29) (by exact HC0_2.out) (by repeat (first | exact (Kd.C_below HR0_2.out HB.out) | (with_reducible refine Kd.C_alloc ?_ _) | (with_reducible refine Kd.C_drewN ?_ _) | (with_reducible refine Kd.C_drew ?_))))); rintro e w13 ⟨rfl, hb⟩; have n0_ := mkA (blk_below (g := gb246) (o := .cells #[.int .i64 a0_0, .int .i64 a0_1, .slice A0_2 l0_2.length c0_2] 29 (0, 0)) (bl_ BK246.out) hb); have n1_ := mkA (blk_below (g := gb247) (o := .cells #[.int .i64 0, .int .i64 0, .int .i64 0, .int .i64 0] 95 (0, 0)) (bl_ BK247.out) hb); have n2_ := mkA (below_step (bs2_ HB.out GE246.out GE247.out) hb); clear BK246; clear BK247; clear HB; have BK246 := n0_; have BK247 := n1_; have HB := n2_; clear n0_ n1_ n2_; (try clear hb); (try clear hb2); (try clear hk); (try clear hi)) | (go_at_call 98; (with_reducible refine (impl_touchingCells_1.calls (Int.tmod a1 a0_0) (wrap64 ((wrap64 (Int.tdiv a1 a0_0)) + 1)) _ [(⟨a0_0, a0_1, l0_2⟩ : S29)] t250 _ ?side1 A6.out).mono ?_); (case side1 => exact Go.Proofs.YtnidibnhojedoaaX.rp_box (t := 29) (fr := (0, 0)) (bl_ BK246.out) (k29_mk _ (⟨a0_0, a0_1, l0_2⟩ : S29) (by exact HC0_2.out) (by repeat (first | exact (Kd.C_below HR0_2.out HB.out) | (with_reducible refine Kd.C_alloc ?_ _) | (with_reducible refine Kd.C_drewN ?_ _) | (with_reducible refine Kd.C_drew ?_))))); rintro e w14 ⟨rfl, hb⟩; have n0_ := mkA (blk_below (g := gb246) (o := .cells #[.int .i64 a0_0, .int .i64 a0_1, .slice A0_2 l0_2.length c0_2] 29 (0, 0)) (bl_ BK246.out) hb); have n1_ := mkA (blk_below (g := gb247) (o := .cells #[.int .i64 0, .int .i64 0, .int .i64 0, .int .i64 0] 95 (0, 0)) (bl_ BK247.out) hb); have n2_ := mkA (below_step (bs2_ HB.out GE246.out GE247.out) hb); clear BK246; clear BK247; clear HB; have BK246 := n0_; have BK247 := n1_; have HB := n2_; clear n0_ n1_ n2_; (try clear hb); (try clear hb2); (try clear hk); (try clear hi)) | (go_at_call 98; (with_reducible refine (impl_touchingCells_1.calls (Int.tmod a1 a0_0) (wrap64 ((wrap64 (Int.tdiv a1 a0_0)) - 1)) _ [(⟨a0_0, a0_1, l0_2⟩ : S29)] t251 _ ?side1 A7.out).mono ?_); (case side1 => exact Go.Proofs.YtnidibnhojedoaaX.rp_box (t := 29) (fr := (0, 0)) (bl_ BK246.out) (k29_mk _ (⟨a0_0, a0_1, l0_2⟩ : S29) (by exact HC0_2.out) (by repeat (first | exact (Kd.C_below HR0_2.out HB.out) | (with_reducible refine Kd.C_alloc ?_ _) | (with_reducible refine Kd.C_drewN ?_ _) | (with_reducible refine Kd.C_drew ?_))))); rintro e w15 ⟨rfl, hb⟩; have n0_ := mkA (blk_below (g := gb246) (o := .cells #[.int .i64 a0_0, .int .i64 a0_1, .slice A0_2 l0_2.length c0_2] 29 (0, 0)) (bl_ BK246.out) hb); have n1_ := mkA (blk_below (g := gb247) (o := .cells #[.int .i64 0, .int .i64 0, .int .i64 0, .int .i64 0] 95 (0, 0)) (bl_ BK247.out) hb); have n2_ := mkA (below_step (bs2_ HB.out GE246.out GE247.out) hb); clear BK246; clear BK247; clear HB; have BK246 := n0_; have BK247 := n1_; have HB := n2_; clear n0_ n1_ n2_; (try clear hb); (try clear hb2); (try clear hk); (try clear hi); have hcz16_0 : w15.cell? ⟨gb247, 0, none⟩ = some (.int .i64 0) := (blk_cell BK247.out 0).trans rfl; have hcz16_1 : w15.cell? ⟨gb247, 1, none⟩ = some (.int .i64 0) := (blk_cell BK247.out 1).trans rfl; have hcz16_2 : w15.cell? ⟨gb247, 2, none⟩ = some (.int .i64 0) := (blk_cell BK247.out 2).trans rfl; have hcz16_3 : w15.cell? ⟨gb247, 3, none⟩ = some (.int .i64 0) := (blk_cell BK247.out 3).trans rfl; have hfz16_0 := blk_frozen BK247.out 0; have hfz16_1 := blk_frozen BK247.out 1; have hfz16_2 := blk_frozen BK247.out 2; have hfz16_3 := blk_frozen BK247.out 3))
   repeat (go_quiet (first | ((with_reducible refine gate_dst (N := 2) rfl ?_); refine box_event ?hg (N := 2) ?hd (cs := #[.int .i64 a0_0, .int .i64 a0_1, .slice A0_2 l0_2.length c0_2]) (t := 29) ?hr ?_; (case hd => rfl); (case hg => rfl); (case hr => first | (go_simp; done) | (go_simp; rfl)); intro gb246 hg w8 hbox hb; have n0_ := mkA (below_step (bs0_ HB.out) hb); have n1_ := mkA (hbox); have n2_ := mkA ((by rw [hg]; exact (below_size (bs0_ HB.out)) : w.heap.size ≤ gb246)); have n3_ := mkA ((by rw [hg]; exact (below_size (bs0_ HB.out)) : w.heap.size ≤ gb246)); clear HB; have HB := n0_; have BK246 := n1_; have GW246 := n2_; have GE246 := n3_; clear n0_ n1_ n2_ n3_; clear hb hbox hg) | ((with_reducible refine gate_dst (N := 4) rfl ?_); refine box_event ?hg (N := 4) ?hd (cs := #[.int .i64 0, .int .i64 0, .int .i64 0, .int .i64 0]) (t := 95) ?hr ?_; (case hd => rfl); (case hg => rfl); (case hr => first | (go_simp; done) | (go_simp; rfl)); intro gb247 hg w9 hbox hb; have n0_ := mkA (blk_below (g := gb246) (o := .cells #[.int .i64 a0_0, .int .i64 a0_1, .slice A0_2 l0_2.length c0_2] 29 (0, 0)) (bl_ BK246.out) hb); have n1_ := mkA (below_step (bs1_ HB.out GE246.out) hb); have n2_ := mkA (hbox); have n3_ := mkA ((by rw [hg]; exact (below_size (bs1_ HB.out GE246.out)) : w.heap.size ≤ gb247)); have n4_ := mkA ((by rw [hg]; exact (below_size (bs1_ HB.out GE246.out)) : w.heap.size ≤ gb247)); have n5_ := mkA ((by rw [hg]; exact Nat.ne_of_lt (blk_lt (g := gb246) (o := .cells #[.int .i64 a0_0, .int .i64 a0_1, .slice A0_2 l0_2.length c0_2] 29 (0, 0)) (bl_ BK246.out)) : gb246 ≠ gb247)); have n6_ := mkA ((by rw [hg]; exact Nat.ne_of_gt (blk_lt (g := gb246) (o := .cells #[.int .i64 a0_0, .int .i64 a0_1, .slice A0_2 l0_2.length c0_2] 29 (0, 0)) (bl_ BK246.out)) : gb247 ≠ gb246)); clear BK246; clear HB; have BK246 := n0_; have HB := n1_; have BK247 := n2_; have GW247 := n3_; have GE247 := n4_; have NB246_247 := n5_; have NB247_246 := n6_; clear n0_ n1_ n2_ n3_ n4_ n5_ n6_; clear hb hbox hg; have hnb10 := NB246_247.out; have hnc10 := NB247_246.out; have hcz11_0 : w9.cell? ⟨gb246, 0, none⟩ = some (.int .i64 a0_0) := (blk_cell BK246.out 0).trans rfl; have hcz11_1 : w9.cell? ⟨gb246, 1, none⟩ = some (.int .i64 a0_1) := (blk_cell BK246.out 1).trans rfl; have hcz11_2 : w9.cell? ⟨gb246, 2, none⟩ = some (.slice A0_2 l0_2.length c0_2) := (blk_cell BK246.out 2).trans rfl; have hfz11_0 := blk_frozen BK246.out 0; have hfz11_1 := blk_frozen BK246.out 1; have hfz11_2 := blk_frozen BK246.out 2) | (go_at_call 98; (with_reducible refine (impl_touchingCells_1.calls (wrap64 ((Int.tmod a1 a0_0) + 1)) (wrap64 (Int.tdiv a1 a0_0)) _ [(⟨a0_0, a0_1, l0_2⟩ : S29)] t248 _ ?side1 A4.out).mono ?_); (case side1 => exact Go.Proofs.YtnidibnhojedoaaX.rp_box (t := 29) (fr := (0, 0)) (bl_ BK246.out) (k29_mk _ (⟨a0_0, a0_1, l0_2⟩ : S29) (by exact HC0_2.out) (by repeat (first | exact (Kd.C_below HR0_2.out HB.out) | (with_reducible refine Kd.C_alloc ?_ _) | (with_reducible refine Kd.C_drewN ?_ _) | (with_reducible refine Kd.C_drew ?_))))); rintro e w12 ⟨rfl, hb⟩; have n0_ := mkA (blk_below (g := gb246) (o := .cells #[.int .i64 a0_0, .int .i64 a0_1, .slice A0_2 l0_2.length c0_2] 29 (0, 0)) (bl_ BK246.out) hb); have n1_ := mkA (blk_below (g := gb247) (o := .cells #[.int .i64 0, .int .i64 0, .int .i64 0, .int .i64 0] 95 (0, 0)) (bl_ BK247.out) hb); have n2_ := mkA (below_step (bs2_ HB.out GE246.out GE247.out) hb); clear BK246; clear BK247; clear HB; have BK246 := n0_; have BK247 := n1_; have HB := n2_; clear n0_ n1_ n2_; (try clear hb); (try clear hb2); (try clear hk); (try clear hi)) | (go_at_call 98; (with_reducible refine (impl_touchingCells_1.calls (wrap64 ((Int.tmod a1 a0_0) - 1)) (wrap64 (Int.tdiv a1 a0_0)) _ [(⟨a0_0, a0_1, l0_2⟩ : S29)] t249 _ ?side1 A5.out).mono ?_); (case side1 => exact Go.Proofs.YtnidibnhojedoaaX.rp_box (t := 29) (fr := (0, 0)) (bl_ BK246.out) (k29_mk _ (⟨a0_0, a0_1, l0_2⟩ : S29) (by exact HC0_2.out) (by repeat (first | exact (Kd.C_below HR0_2.out HB.out) | (with_reducible refine Kd.C_alloc ?_ _) | (with_reducible refine Kd.C_drewN ?_ _) | (with_reducible refine Kd.C_drew ?_))))); rintro e w13 ⟨rfl, hb⟩; have n0_ := mkA (blk_below (g := gb246) (o := .cells #[.int .i64 a0_0, .int .i64 a0_1, .slice A0_2 l0_2.length c0_2] 29 (0, 0)) (bl_ BK246.out) hb); have n1_ := mkA (blk_below (g := gb247) (o := .cells #[.int .i64 0, .int .i64 0, .int .i64 0, .int .i64 0] 95 (0, 0)) (bl_ BK247.out) hb); have n2_ := mkA (below_step (bs2_ HB.out GE246.out GE247.out) hb); clear BK246; clear BK247; clear HB; have BK246 := n0_; have BK247 := n1_; have HB := n2_; clear n0_ n1_ n2_; (try clear hb); (try clear hb2); (try clear hk); (try clear hi)) | (go_at_call 98; (with_reducible refine (impl_touchingCells_1.calls (Int.tmod a1 a0_0) (wrap64 ((wrap64 (Int.tdiv a1 a0_0)) + 1)) _ [(⟨a0_0, a0_1, l0_2⟩ : S29)] t250 _ ?side1 A6.out).mono ?_); (case side1 => exact Go.Proofs.YtnidibnhojedoaaX.rp_box (t := 29) (fr := (0, 0)) (bl_ BK246.out) (k29_mk _ (⟨a0_0, a0_1, l0_2⟩ : S29) (by exact HC0_2.out) (by repeat (first | exact (Kd.C_below HR0_2.out HB.out) | (with_reducible refine Kd.C_alloc ?_ _) | (with_reducible refine Kd.C_drewN ?_ _) | (with_reducible refine Kd.C_drew ?_))))); rintro e w14 ⟨rfl, hb⟩; have n0_ := mkA (blk_below (g := gb246) (o := .cells #[.int .i64 a0_0, .int .i64 a0_1, .slice A0_2 l0_2.length c0_2] 29 (0, 0)) (bl_ BK246.out) hb); have n1_ := mkA (blk_below (g := gb247) (o := .cells #[.int .i64 0, .int .i64 0, .int .i64 0, .int .i64 0] 95 (0, 0)) (bl_ BK247.out) hb); have n2_ := mkA (below_step (bs2_ HB.out GE246.out GE247.out) hb); clear BK246; clear BK247; clear HB; have BK246 := n0_; have BK247 := n1_; have HB := n2_; clear n0_ n1_ n2_; (try clear hb); (try clear hb2); (try clear hk); (try clear hi)) | (go_at_call 98; (with_reducible refine (impl_touchingCells_1.calls (Int.tmod a1 a0_0) (wrap64 ((wrap64 (Int.tdiv a1 a0_0)) - 1)) _ [(⟨a0_0, a0_1, l0_2⟩ : S29)] t251 _ ?side1 A7.out).mono ?_); (case side1 => exact Go.Proofs.YtnidibnhojedoaaX.rp_box (t := 29) (fr := (0, 0)) (bl_ BK246.out) (k29_mk _ (⟨a0_0, a0_1, l0_2⟩ : S29) (by exact HC0_2.out) (by repeat (first | exact (Kd.C_below HR0_2.out HB.out) | (with_reducible refine Kd.C_alloc ?_ _) | (with_reducible refine Kd.C_drewN ?_ _) | (with_reducible refine Kd.C_drew ?_))))); rintro e w15 ⟨rfl, hb⟩; have n0_ := mkA (blk_below (g := gb246) (o := .cells #[.int .i64 a0_0, .int .i64 a0_1, .slice A0_2 l0_2.length c0_2] 29 (0, 0)) (bl_ BK246.out) hb); have n1_ := mkA (blk_below (g := gb247) (o := .cells #[.int .i64 0, .int .i64 0, .int .i64 0, .int .i64 0] 95 (0, 0)) (bl_ BK247.out) hb); have n2_ := mkA (below_step (bs2_ HB.out GE246.out GE247.out) hb); clear BK246; clear BK247; clear HB; have BK246 := n0_; have BK247 := n1_; have HB := n2_; clear n0_ n1_ n2_; (try clear hb); (try clear hb2); (try clear hk); (try clear hi); have hcz16_0 : w15.cell? ⟨gb247, 0, none⟩ = some (.int .i64 0) := (blk_cell BK247.out 0).trans rfl; have hcz16_1 : w15.cell? ⟨gb247, 1, none⟩ = some (.int .i64 0) := (blk_cell BK247.out 1).trans rfl; have hcz16_2 : w15.cell? ⟨gb247, 2, none⟩ = some (.int .i64 0) := (blk_cell BK247.out 2).trans rfl; have hcz16_3 : w15.cell? ⟨gb247, 3, none⟩ = some (.int .i64 0) := (blk_cell BK247.out 3).trans rfl; have hfz16_0 := blk_frozen BK247.out 0; have hfz16_1 := blk_frozen BK247.out 1; have hfz16_2 := blk_frozen BK247.out 2; have hfz16_3 := blk_frozen BK247.out 3)); try go_wp2_with (first | ((with_reducible refine gate_dst (N := 2) rfl ?_); refine box_event ?hg (N := 2) ?hd (cs := #[.int .i64 a0_0, .int .i64 a0_1, .slice A0_2 l0_2.length c0_2]) (t := 29) ?hr ?_; (case hd => rfl); (case hg => rfl); (case hr => first | (go_simp; done) | (go_simp; rfl)); intro gb246 hg w8 hbox hb; have n0_ := mkA (below_step (bs0_ HB.out) hb); have n1_ := mkA (hbox); have n2_ := mkA ((by rw [hg]; exact (below_size (bs0_ HB.out)) : w.heap.size ≤ gb246)); have n3_ := mkA ((by rw [hg]; exact (below_size (bs0_ HB.out)) : w.heap.size ≤ gb246)); clear HB; have HB := n0_; have BK246 := n1_; have GW246 := n2_; have GE246 := n3_; clear n0_ n1_ n2_ n3_; clear hb hbox hg) | ((with_reducible refine gate_dst (N := 4) rfl ?_); refine box_event ?hg (N := 4) ?hd (cs := #[.int .i64 0, .int .i64 0, .int .i64 0, .int .i64 0]) (t := 95) ?hr ?_; (case hd => rfl); (case hg => rfl); (case hr => first | (go_simp; done) | (go_simp; rfl)); intro gb247 hg w9 hbox hb; have n0_ := mkA (blk_below (g := gb246) (o := .cells #[.int .i64 a0_0, .int .i64 a0_1, .slice A0_2 l0_2.length c0_2] 29 (0, 0)) (bl_ BK246.out) hb); have n1_ := mkA (below_step (bs1_ HB.out GE246.out) hb); have n2_ := mkA (hbox); have n3_ := mkA ((by rw [hg]; exact (below_size (bs1_ HB.out GE246.out)) : w.heap.size ≤ gb247)); have n4_ := mkA ((by rw [hg]; exact (below_size (bs1_ HB.out GE246.out)) : w.heap.size ≤ gb247)); have n5_ := mkA ((by rw [hg]; exact Nat.ne_of_lt (blk_lt (g := gb246) (o := .cells #[.int .i64 a0_0, .int .i64 a0_1, .slice A0_2 l0_2.length c0_2] 29 (0, 0)) (bl_ BK246.out)) : gb246 ≠ gb247)); have n6_ := mkA ((by rw [hg]; exact Nat.ne_of_gt (blk_lt (g := gb246) (o := .cells #[.int .i64 a0_0, .int .i64 a0_1, .slice A0_2 l0_2.length c0_2] 29 (0, 0)) (bl_ BK246.out)) : gb247 ≠ gb246)); clear BK246; clear HB; have BK246 := n0_; have HB := n1_; have BK247 := n2_; have GW247 := n3_; have GE247 := n4_; have NB246_247 := n5_; have NB247_246 := n6_; clear n0_ n1_ n2_ n3_ n4_ n5_ n6_; clear hb hbox hg; have hnb10 := NB246_247.out; have hnc10 := NB247_246.out; have hcz11_0 : w9.cell? ⟨gb246, 0, none⟩ = some (.int .i64 a0_0) := (blk_cell BK246.out 0).trans rfl; have hcz11_1 : w9.cell? ⟨gb246, 1, none⟩ = some (.int .i64 a0_1) := (blk_cell BK246.out 1).trans rfl; have hcz11_2 : w9.cell? ⟨gb246, 2, none⟩ = some (.slice A0_2 l0_2.length c0_2) := (blk_cell BK246.out 2).trans rfl; have hfz11_0 := blk_frozen BK246.out 0; have hfz11_1 := blk_frozen BK246.out 1; have hfz11_2 := blk_frozen BK246.out 2) | (go_at_call 98; (with_reducible refine (impl_touchingCells_1.calls (wrap64 ((Int.tmod a1 a0_0) + 1)) (wrap64 (Int.tdiv a1 a0_0)) _ [(⟨a0_0, a0_1, l0_2⟩ : S29)] t248 _ ?side1 A4.out).mono ?_); (case side1 => exact Go.Proofs.YtnidibnhojedoaaX.rp_box (t := 29) (fr := (0, 0)) (bl_ BK246.out) (k29_mk _ (⟨a0_0, a0_1, l0_2⟩ : S29) (by exact HC0_2.out) (by repeat (first | exact (Kd.C_below HR0_2.out HB.out) | (with_reducible refine Kd.C_alloc ?_ _) | (with_reducible refine Kd.C_drewN ?_ _) | (with_reducible refine Kd.C_drew ?_))))); rintro e w12 ⟨rfl, hb⟩; have n0_ := mkA (blk_below (g := gb246) (o := .cells #[.int .i64 a0_0, .int .i64 a0_1, .slice A0_2 l0_2.length c0_2] 29 (0, 0)) (bl_ BK246.out) hb); have n1_ := mkA (blk_below (g := gb247) (o := .cells #[.int .i64 0, .int .i64 0, .int .i64 0, .int .i64 0] 95 (0, 0)) (bl_ BK247.out) hb); have n2_ := mkA (below_step (bs2_ HB.out GE246.out GE247.out) hb); clear BK246; clear BK247; clear HB; have BK246 := n0_; have BK247 := n1_; have HB := n2_; clear n0_ n1_ n2_; (try clear hb); (try clear hb2); (try clear hk); (try clear hi)) | (go_at_call 98; (with_reducible refine (impl_touchingCells_1.calls (wrap64 ((Int.tmod a1 a0_0) - 1)) (wrap64 (Int.tdiv a1 a0_0)) _ [(⟨a0_0, a0_1, l0_2⟩ : S29)] t249 _ ?side1 A5.out).mono ?_); (case side1 => exact Go.Proofs.YtnidibnhojedoaaX.rp_box (t := 29) (fr := (0, 0)) (bl_ BK246.out) (k29_mk _ (⟨a0_0, a0_1, l0_2⟩ : S29) (by exact HC0_2.out) (by repeat (first | exact (Kd.C_below HR0_2.out HB.out) | (with_reducible refine Kd.C_alloc ?_ _) | (with_reducible refine Kd.C_drewN ?_ _) | (with_reducible refine Kd.C_drew ?_))))); rintro e w13 ⟨rfl, hb⟩; have n0_ := mkA (blk_below (g := gb246) (o := .cells #[.int .i64 a0_0, .int .i64 a0_1, .slice A0_2 l0_2.length c0_2] 29 (0, 0)) (bl_ BK246.out) hb); have n1_ := mkA (blk_below (g := gb247) (o := .cells #[.int .i64 0, .int .i64 0, .int .i64 0, .int .i64 0] 95 (0, 0)) (bl_ BK247.out) hb); have n2_ := mkA (below_step (bs2_ HB.out GE246.out GE247.out) hb); clear BK246; clear BK247; clear HB; have BK246 := n0_; have BK247 := n1_; have HB := n2_; clear n0_ n1_ n2_; (try clear hb); (try clear hb2); (try clear hk); (try clear hi)) | (go_at_call 98; (with_reducible refine (impl_touchingCells_1.calls (Int.tmod a1 a0_0) (wrap64 ((wrap64 (Int.tdiv a1 a0_0)) + 1)) _ [(⟨a0_0, a0_1, l0_2⟩ : S29)] t250 _ ?side1 A6.out).mono ?_); (case side1 => exact Go.Proofs.YtnidibnhojedoaaX.rp_box (t := 29) (fr := (0, 0)) (bl_ BK246.out) (k29_mk _ (⟨a0_0, a0_1, l0_2⟩ : S29) (by exact HC0_2.out) (by repeat (first | exact (Kd.C_below HR0_2.out HB.out) | (with_reducible refine Kd.C_alloc ?_ _) | (with_reducible refine Kd.C_drewN ?_ _) | (with_reducible refine Kd.C_drew ?_))))); rintro e w14 ⟨rfl, hb⟩; have n0_ := mkA (blk_below (g := gb246) (o := .cells #[.int .i64 a0_0, .int .i64 a0_1, .slice A0_2 l0_2.length c0_2] 29 (0, 0)) (bl_ BK246.out) hb); have n1_ := mkA (blk_below (g := gb247) (o := .cells #[.int .i64 0, .int .i64 0, .int .i64 0, .int .i64 0] 95 (0, 0)) (bl_ BK247.out) hb); have n2_ := mkA (below_step (bs2_ HB.out GE246.out GE247.out) hb); clear BK246; clear BK247; clear HB; have BK246 := n0_; have BK247 := n1_; have HB := n2_; clear n0_ n1_ n2_; (try clear hb); (try clear hb2); (try clear hk); (try clear hi)) | (go_at_call 98; (with_reducible refine (impl_touchingCells_1.calls (Int.tmod a1 a0_0) (wrap64 ((wrap64 (Int.tdiv a1 a0_0)) - 1)) _ [(⟨a0_0, a0_1, l0_2⟩ : S29)] t251 _ ?side1 A7.out).mono ?_); (case side1 => exact Go.Proofs.YtnidibnhojedoaaX.rp_box (t := 29) (fr := (0, 0)) (bl_ BK246.out) (k29_mk _ (⟨a0_0, a0_1, l0_2⟩ : S29) (by exact HC0_2.out) (by repeat (first | exact (Kd.C_below HR0_2.out HB.out) | (with_reducible refine Kd.C_alloc ?_ _) | (with_reducible refine Kd.C_drewN ?_ _) | (with_reducible refine Kd.C_drew ?_))))); rintro e w15 ⟨rfl, hb⟩; have n0_ := mkA (blk_below (g := gb246) (o := .cells #[.int .i64 a0_0, .int .i64 a0_1, .slice A0_2 l0_2.length c0_2] 29 (0, 0)) (bl_ BK246.out) hb); have n1_ := mkA (blk_below (g := gb247) (o := .cells #[.int .i64 0, .int .i64 0, .int .i64 0, .int .i64 0] 95 (0, 0)) (bl_ BK247.out) hb); have n2_ := mkA (below_step (bs2_ HB.out GE246.out GE247.out) hb); clear BK246; clear BK247; clear HB; have BK246 := n0_; have BK247 := n1_; have HB := n2_; clear n0_ n1_ n2_; (try clear hb); (try clear hb2); (try clear hk); (try clear hi); have hcz16_0 : w15.cell? ⟨gb247, 0, none⟩ = some (.int .i64 0) := (blk_cell BK247.out 0).trans rfl; have hcz16_1 : w15.cell? ⟨gb247, 1, none⟩ = some (.int .i64 0) := (blk_cell BK247.out 1).trans rfl; have hcz16_2 : w15.cell? ⟨gb247, 2, none⟩ = some (.int .i64 0) := (blk_cell BK247.out 2).trans rfl; have hcz16_3 : w15.cell? ⟨gb247, 3, none⟩ = some (.int .i64 0) := (blk_cell BK247.out 3).trans rfl; have hfz16_0 := blk_frozen BK247.out 0; have hfz16_1 := blk_frozen BK247.out 1; have hfz16_2 := blk_frozen BK247.out 2; have hfz16_3 := blk_frozen BK247.out 3)))
   refine bodyPost_ret (results_cell_row rfl _ _ gb247 95 #[.int .i64 t248, .int .i64 t249, .int .i64 t250, .int .i64 t251] (0, 0) _ rfl (by (with_reducible repeat (first | refine blk_drewN ?_ _ | refine blk_drew ?_ | refine blk_alloc ?_ _)); refine blk_put (cs := #[.int .i64 t248, .int .i64 t249, .int .i64 t250, .int .i64 0]) ?_ 3 _ rfl; (with_reducible repeat (first | refine blk_drewN ?_ _ | refine blk_drew ?_ | refine blk_alloc ?_ _)); refine blk_put (cs := #[.int .i64 t248, .int .i64 t249, .int .i64 0, .int .i64 0]) ?_ 2 _ rfl; (with_reducible repeat (first | refine blk_drewN ?_ _ | refine blk_drew ?_ | refine blk_alloc ?_ _)); refine blk_put (cs := #[.int .i64 t248, .int .i64 0, .int .i64 0, .int .i64 0]) ?_ 1 _ rfl; (with_reducible repeat (first | refine blk_drewN ?_ _ | refine blk_drew ?_ | refine blk_alloc ?_ _)); refine blk_put (cs := #[.int .i64 0, .int .i64 0, .int .i64 0, .int .i64 0]) ?_ 0 _ rfl; (with_reducible repeat (first | refine blk_drewN ?_ _ | refine blk_drew ?_ | refine blk_alloc ?_ _)); exact BK247.out) Try.underlying95 rfl (by kernel_rfl)) rfl ?_
   exact ⟨by first | rfl | (simp [errW_none, errW_some] <;> rfl) | (simp [*, errW_none, errW_some] <;> rfl), by repeat (first | (with_reducible first | exact HB.out | apply below_alloc | apply pw_below_drewN | apply below_drew1 | refine below_set ?_ GE246.out | refine below_set ?_ GE247.out) | exact HB.out)⟩

end Go.Proofs.Ytnidibnhojedoaa.GFnExactComposeMotions

-- Written by the session's own program (gen.py) out of the translation's print. Lean checks it.
import Derived.Test.YtakagkflgkoiiaaQ
import Derived.Test.YtakagkflgkoiiaaGFnExactFirstUncoveredx0
import Derived.Test.YtakagkflgkoiiaaGFnExactFirstUncoveredx6
import Derived.Test.YtakagkflgkoiiaaGFnExactFirstUncoveredx7
import Derived.Test.YtakagkflgkoiiaaGFnExactFirstUncoveredx9
namespace Go.Proofs.Ytakagkflgkoiiaa.GFnExactFirstUncovered
open Go.RowKit Go.Proofs.YtakagkflgkoiiaaW.PrintWords Go.Proofs.YtakagkflgkoiiaaW.PrintLast Go.Proofs.YtakagkflgkoiiaaW.PrintMore
open List renaming setIfInBounds_toArray → sA, set_cons_zero → sB, set_cons_succ → sC
open Go.Proofs.YtakagkflgkoiiaaW.PrintWords.Aside0 renaming mk → mkA
open Go.Proofs.YtakagkflgkoiiaaX (dt_ bc_ p0_ p1_ bl_ cb_ bs0_ bs1_ bs2_ bs3_ bs4_ bs5_ bs6_ bs7_ bs8_ bs9_ bs10_ bs11_ bs12_)
open Go.Proofs.YtakagkflgkoiiaaQ
attribute [local go_sem] max2_int min2_int max_two min_two max_three min_three max_four min_four 
set_option linter.unusedVariables false
set_option linter.unusedSimpArgs false

/-! ### spec_l19Turned: function 95 -/
mutual
def spec_l19Turned.l0 : Nat → Int → List (S105) → Int → List (S53) → Option ((List (S105)))
  | 0, _, _, _, _ => none
  | k + 1, x1, x5, x6, x960 => if 0 < (x960.length : Int) then (if x6 < (((rd_T53 x960 0).f1).length : Int) then (if 0 ≤ x6 then ((spec_l02Turned.f k ((rd_T105 ((rd_T53 x960 0).f1) x6).f0) ((rd_T105 ((rd_T53 x960 0).f1) x6).f1) x1).bind fun bt230 => (if x5.length < 8796093022208 then (spec_l19Turned.l0 k x1 (x5 ++ [(⟨bt230.1, bt230.2⟩ : S105)]) (wrap64 (x6 + 1)) x960) else (none))) else (none)) else ((spec_l03Bounds.f k x5).bind fun bt235 => (spec_l19Turned.l1 k x5 (([] : List (S105))) 0 bt235.1 bt235.2.1))) else (none)
def spec_l19Turned.l1 : Nat → List (S105) → List (S105) → Int → Int → Int → Option ((List (S105)))
  | 0, _, _, _, _, _ => none
  | k + 1, x5, x9, x10, x240000, x240001 => if x10 < (x5.length : Int) then (if 0 ≤ x10 then (spec_l19Turned.l2 k x5 x9 x10 (x9.length : Int) x240000 x240001 (wrap64 (((rd_T105 x5 x10).f0) - x240000)) (wrap64 (((rd_T105 x5 x10).f1) - x240001))) else (none)) else (some x9)
def spec_l19Turned.l2 : Nat → List (S105) → List (S105) → Int → Int → Int → Int → Int → Int → Option ((List (S105)))
  | 0, _, _, _, _, _, _, _, _ => none
  | k + 1, x5, x9, x10, x12, x240000, x240001, x247000, x247001 => if x12 > 0 then (if 0 ≤ (wrap64 (x12 - 1)) then (if (wrap64 (x12 - 1)) < (x9.length : Int) then ((spec_l19Before.f x247000 x247001 ((rd_T105 x9 (wrap64 (x12 - 1))).f0) ((rd_T105 x9 (wrap64 (x12 - 1))).f1)).bind fun t248 => (if t248 = true then (spec_l19Turned.l2 k x5 x9 x10 (wrap64 (x12 - 1)) x240000 x240001 x247000 x247001) else ((some (([] : List (S105)) : List (S105))).bind fun y249 => (if 0 ≤ x12 then (if x12 ≤ (x9.length : Int) then ((some (x9.take (x12 : Int).toNat : List (S105))).bind fun y252 => (if y249.length + y252.length < 8796093022208 then ((some (y249 ++ y252 : List (S105))).bind fun y256 => (if y256.length < 8796093022208 then ((some (y256 ++ [(⟨x247000, x247001⟩ : S105)] : List (S105))).bind fun y259 => ((some (x9.drop (x12 : Int).toNat : List (S105))).bind fun y262 => (if y259.length + y262.length < 8796093022208 then (spec_l19Turned.l1 k x5 (y259 ++ y262) (wrap64 (x10 + 1)) x240000 x240001) else (none)))) else (none))) else (none))) else (none)) else (none))))) else (none)) else (none)) else ((some (([] : List (S105)) : List (S105))).bind fun y269 => (if 0 ≤ x12 then (if x12 ≤ (x9.length : Int) then ((some (x9.take (x12 : Int).toNat : List (S105))).bind fun y272 => (if y269.length + y272.length < 8796093022208 then ((some (y269 ++ y272 : List (S105))).bind fun y276 => (if y276.length < 8796093022208 then ((some (y276 ++ [(⟨x247000, x247001⟩ : S105)] : List (S105))).bind fun y279 => ((some (x9.drop (x12 : Int).toNat : List (S105))).bind fun y282 => (if y279.length + y282.length < 8796093022208 then (spec_l19Turned.l1 k x5 (y279 ++ y282) (wrap64 (x10 + 1)) x240000 x240001) else (none)))) else (none))) else (none))) else (none)) else (none)))
end
def spec_l19Turned.f (k : Nat) (l0 : List (S53)) (a1 : Int) : Option ((List (S105))) := spec_l19Turned.l0 k a1 (([] : List (S105))) 0 l0
def spec_l19Turned.T11 : Bool × List (List Nat × List Nat) := (true, [([], []), ([], []), ([0, 1], [0, 1]), ([2], [2]), ([3], [3]), ([], []), ([5], [5]), ([4, 6], [4, 6]), ([], []), ([], []), ([8, 9], [8, 9]), ([10], [10]), ([11], [11]), ([], []), ([13], [13]), ([12, 14], [12, 14]), ([7, 15], [7, 15]), ([], []), ([17, 16, 0, 1, 2, 3, 4, 5, 6, 7, 8, 9, 10, 11, 12, 13, 14, 15, 16, 17], [16, 17])])
def spec_l19Turned.B11 : List Nat := [0, 0, 3, 7, 15, 0, 32, 127, 0, 0, 768, 1792, 3840, 0, 8192, 32512, 65535, 0, 262143]
theorem spec_l19Turned.tab11 : rtab .any (opsOf Try.f95 11) = spec_l19Turned.T11 := by kernel_rfl
theorem spec_l19Turned.bits11 : waitsOk spec_l19Turned.T11.2 spec_l19Turned.B11 = true := by kernel_rfl
def spec_l19Turned.T13 : Bool × List (List Nat × List Nat) := (true, [([], []), ([0], [0]), ([1], [1]), ([2], [2]), ([2], [2]), ([2], [2]), ([5, 2], [2, 5]), ([4, 6, 2], [2, 4, 6]), ([7, 2], [2, 7]), ([3, 8, 2, 2], [2, 3, 8]), ([2, 9], [2, 9])])
def spec_l19Turned.B13 : List Nat := [0, 1, 3, 7, 7, 7, 39, 119, 247, 511, 1023]
theorem spec_l19Turned.tab13 : rtab .any (opsOf Try.f95 13) = spec_l19Turned.T13 := by kernel_rfl
theorem spec_l19Turned.bits13 : waitsOk spec_l19Turned.T13.2 spec_l19Turned.B13 = true := by kernel_rfl
set_option maxHeartbeats 8000000 in
set_option maxRecDepth 100000 in
theorem spec_l19Turned.calls (k : Nat) (A0 : Option Addr) (l0 : List (S53)) (a1 : Int) (r : List (S105)) (w : World) (hr0 : Kd.C k53 w A0 l0.length l0) (h : spec_l19Turned.f k l0 a1 = some r) :
 Calls Try.prog 95 #[.pointer A0, .int .i64 a1] w fun e w' => ∃ v0_ : Value, e = .returned (v0_) ∧ Kd.R k105 105 w' w.heap.size (fun _ => True) v0_ r ∧ Below w.heap.size w w' := by
 have hu105 := Try.underlying105
 have HR0 := mkA hr0
 clear hr0
 have HB := mkA (Below.refl w.heap.size w)
 unfold spec_l19Turned.f at h
 have H := h
 clear h
 obtain ⟨y224, hy224⟩ := gy_ (([] : List (S105)) : List (S105))
 replace H : (spec_l19Turned.l0 k a1 y224 0 l0) = some r := hs_ H hy224
 have Ny224 := mkA hy224
 clear hy224
 have H' := mkA H
 clear H
 go_enter Try.func95, Try.ntmps95
 go_wp2_with (first | ((with_reducible refine gt_ 14 ?_); refine Kd.R_lit k105 _ 105 ?hg (N := 14) ?hd (xs := ([] : List (S105))) (inner := []) (ok := fun _ => True) (okp := fun _ => True) ?hr ?hp (fun _ hk => hk) trivial (Below.refl _ _) (Nat.le_refl _) (by simp) ?_; (case hd => rfl); (case hg => rfl); (case hr => first | (go_simp; done) | (go_simp; rfl)); (case hp => exact (Reps.none _ _)); intro v225 w3 ho4 hb hg_ hnew_; clear hg_ hnew_; (first | rw [← Ny224.out] at ho4 | (simp only [Int.reduceToNat] at ho4; rw [← Ny224.out] at ho4)); have HO226 := mkA (Kd.R_lower ho4 (below_size (bs0_ HB.out))); replace HB := mkA (below_step (bs0_ HB.out) hb); clear hb ho4))
 go_loopg [5, 6] k (fun kq v5 v6 w' => ∃ (x5_1 : List (S105)) (x6_1 : Int), v6 = .int .i64 x6_1 ∧ Aside0 (spec_l19Turned.l0 kq a1 x5_1 x6_1 l0 = some r) ∧ Aside0 (kq ≤ k) ∧ Aside0 (Kd.R k105 105 w' w.heap.size (fun _ => True) v5 x5_1) ∧ Aside0 (Below w.heap.size w w'))
 case atStart => exact ⟨(y224), (0), rf_, H', ⟨Nat.le_refl _⟩, ⟨r_ HO226.out⟩, ⟨bs0_ HB.out⟩⟩
 case round =>
  clear H'
  obtain ⟨x5_1, x6_1, rfl, HA, HK1, HO_5, HB⟩ := hrel
  cases gk with
  | zero => exact absurd HA.out (by simp [spec_l19Turned.l0])
  | succ k1 =>
   have H := HA.out
   clear HA
   simp only [spec_l19Turned.l0] at H
   revert H
   refine ng_ fun c5 => ?_
   intro H
   have c5b0 := decide_eq_true c5
   have c5b1 : decide (0 < l0.length) = true := decide_eq_true (by omega)
   clear c5
   by_cases c6 : x6_1 < (((rd_T53 l0 0).f1).length : Int)
   · rw [if_pos c6] at H
     have c6b0 := decide_eq_true c6
     clear c6
     revert H
     refine ng_ fun c7 => ob_ fun t_ A8 => ?_
     intro H
     have c7b0 := decide_eq_true c7
     clear c7
     obtain ⟨t230, t231⟩ := t_
     try dsimp only at H
     revert H
     refine ng_ fun c9 => ?_
     intro H
     have LMc9 := mkA c9
     clear c9
     obtain ⟨y232, hy232⟩ := gy_ (x5_1 ++ [(⟨t230, t231⟩ : S105)] : List (S105))
     rw [← hy232] at H
     (try with_reducible replace H := bso_ H)
     have Ny232 := mkA hy232
     clear hy232
     have H' := mkA H
     clear H
     obtain ⟨ad227, A227_1, c227_1, e227, hx227_0, hx227_1, hx227_2, hx227_3, hl227_1, hi227_1⟩ := at0_T53 HR0.out dt_
     cases e227
     have HR227_1 := mkA hi227_1
     have HC227_1 := mkA hl227_1
     clear hi227_1 hl227_1
     obtain ⟨hx227_0, hx227_1, hx227_2, hx227_3⟩ := b4_ HB.out hx227_0 hx227_1 hx227_2 hx227_3
     have p227 : (0 ≤ (0 : Int)) = True := eq_true (by omega)
     have q227 : (0 < (l0.length : Int)) = True := eq_true dt_
     have qi227 := qn_ q227
     obtain ⟨ad228, A228_1, c228_1, e228, hx228_0, hx228_1, hx228_2, hx228_3, hl228_1, hi228_1⟩ := at0_T53 HR0.out dt_
     obtain rfl : ad227 = ad228 := (by injection e228)
     have HR228_1 := mkA hi228_1
     have HC228_1 := mkA hl228_1
     clear hi228_1 hl228_1
     obtain ⟨hx228_0, hx228_1, hx228_2, hx228_3⟩ := b4_ HB.out hx228_0 hx228_1 hx228_2 hx228_3
     have p228 : (0 ≤ (0 : Int)) = True := eq_true (by omega)
     have q228 : (0 < (l0.length : Int)) = True := eq_true dt_
     have qi228 := qn_ q228
     have ea_ := Option.some.inj (hx227_1.symm.trans hx228_1)
     injection ea_ with ea_ en_ ec_
     subst ea_
     subst ec_
     clear en_
     obtain ⟨ad229, e229, hx229_0, hx229_1⟩ := at_T105 HR228_1.out x6_1 dt_ dt_
     cases e229
     obtain ⟨hx229_0, hx229_1⟩ := b2_ HB.out hx229_0 hx229_1
     have p229 : (0 ≤ (x6_1 : Int)) = True := eq_true dt_
     have q229 : (x6_1 < (((rd_T53 l0 0).f1).length : Int)) = True := eq_true dt_
     go_wp2_with (first | ((with_reducible refine gk_ 110 ?_); refine gl_ (some 33) Try.func110 #[.agg #[.int .i64 ((rd_T105 ((rd_T53 l0 0).f1) x6_1).f0), .int .i64 ((rd_T105 ((rd_T53 l0 0).f1) x6_1).f1)], .int .i64 a1] ?_; (with_reducible refine (spec_l02Turned.calls k1 ((rd_T105 ((rd_T53 l0 0).f1) x6_1).f0) ((rd_T105 ((rd_T53 l0 0).f1) x6_1).f1) a1 t230 t231 _ A8.out).mono ?_); rintro e w10 ⟨rfl, hb⟩; refine ⟨_, rfl, ?_⟩; replace HO_5 := mkA (Kd.R_below (r_ HO_5.out) hb); replace HB := mkA (below_step (bs0_ HB.out) hb); (try clear hb); (try clear hb2); (try clear hk); (try clear hi)) | ((with_reducible refine gate_builtin (b := .append) (xs := #[.tmp 24, .tmp 34]) rfl ?_); at_builtin; refine Kd.R_append k105 (w0 := w) w.heap.size rfl (.tmp 24) (.tmp 34) 51 105 (.agg #[(.int .i64 0), (.int .i64 0)]) 16 rfl Try.underlying51 info105 rfl (by decide) (by omega) u5 x5_1 (⟨t230, t231⟩ : S105) [.int .i64 t230, .int .i64 t231] (fun _ => True) (fun _ => False) rfl rfl ?aP (fun _ hk => hk.elim) ?aF ?aO ?aB ?aS ?aL ?_; (case aP => exact k105_mkM _ _ _ (⟨t230, t231⟩ : S105)); (case aB => exact (bs0_ HB.out)); (case aF => exact (fun _ _ => trivial)); (case aO => exact (r_ HO_5.out)); (case aS => exact (below_size (bs0_ HB.out))); (case aL => have := LMc9.out; omega); intro v233 w11 ho hb hg hat; rw [← Ny232.out] at ho; replace HB := mkA (hb); have HO234 := mkA (ho); clear HO_5; clear ho hb hg hat))
     go_roundg k1
     case measure => have := HK1.out; omega
     case rel => exact ⟨(y232), (wrap64 (x6_1 + 1)), rf_, H', ⟨om_ HK1.out⟩, ⟨r_ HO234.out⟩, ⟨bs0_ HB.out⟩⟩
   · rw [if_neg c6] at H
     have c6b0 := decide_eq_false c6
     clear c6
     revert H
     refine ob_ fun t_ A12 => ?_
     intro H
     obtain ⟨t235, t236, t237, t238⟩ := t_
     try dsimp only at H
     obtain ⟨y241, hy241⟩ := gy_ (([] : List (S105)) : List (S105))
     replace H : (spec_l19Turned.l1 k1 x5_1 y241 0 t235 t236) = some r := hs_ H hy241
     have Ny241 := mkA hy241
     clear hy241
     have H' := mkA H
     clear H
     obtain ⟨ad227, A227_1, c227_1, e227, hx227_0, hx227_1, hx227_2, hx227_3, hl227_1, hi227_1⟩ := at0_T53 HR0.out dt_
     cases e227
     have HR227_1 := mkA hi227_1
     have HC227_1 := mkA hl227_1
     clear hi227_1 hl227_1
     obtain ⟨hx227_0, hx227_1, hx227_2, hx227_3⟩ := b4_ HB.out hx227_0 hx227_1 hx227_2 hx227_3
     have p227 : (0 ≤ (0 : Int)) = True := eq_true (by omega)
     have q227 : (0 < (l0.length : Int)) = True := eq_true dt_
     have qi227 := qn_ q227
     obtain ⟨Ao13, co13, eo13⟩ := Kd.R_slice HO_5.out
     subst eo13
     go_wp2_with (first | ((with_reducible refine gk_ 93 ?_); refine gl_ (some 38) Try.func93 #[.slice Ao13 x5_1.length co13] ?_; (with_reducible refine (spec_l03Bounds.calls k1 _ _ x5_1 t235 t236 t237 t238 _ ?side1 ?side2 A12.out).mono ?_); (case side1 => repeat (first | exact (Kd.R_reads' HO_5.out).2.2 | (with_reducible refine Kd.C_alloc ?_ _) | (with_reducible refine Kd.C_drewN ?_ _) | (with_reducible refine Kd.C_drew ?_))); (case side2 => exact (Kd.R_reads' HO_5.out).2.1); rintro e w14 ⟨rfl, hb⟩; refine ⟨_, rfl, ?_⟩; replace HO_5 := mkA (Kd.R_below (r_ HO_5.out) hb); replace HB := mkA (below_step (bs0_ HB.out) hb); (try clear hb); (try clear hb2); (try clear hk); (try clear hi)) | ((with_reducible refine gt_ 7 ?_); refine bx_ 7 #[.int .i64 0, .int .i64 0] 105 fun gb239 hg w15 hbox hb => ?_; replace HO_5 := mkA (Kd.R_below (Kd.R_elderB (r_ HO_5.out) gb239 (Nat.le_of_eq hg.symm)) hb); have BK239 := mkA (hbox); have GW239 := gs_ hg (bs0_ HB.out); have GE239 := GW239; replace HB := mkA (below_step (bs0_ HB.out) hb); clear hb hbox hg) | ((with_reducible refine gt_ 8 ?_); refine bx_ 8 #[.int .i64 0, .int .i64 0] 105 fun gb240 hg w16 hbox hb => ?_; replace HO_5 := mkA (Kd.R_below (Kd.R_elderB (r_ HO_5.out) gb240 (Nat.le_of_eq hg.symm)) hb); have BK240 := mkA (hbox); have GW240 := gs_ hg (bs1_ HB.out GE239.out); have GE240 := GW240; replace HB := mkA (below_step (bs1_ HB.out GE239.out) hb); have NB239_240 := nl_ hg (bl_ BK239.out); have NB240_239 := nr_ hg (bl_ BK239.out); replace BK239 := mkA (blk_below (bl_ BK239.out) hb); clear hb hbox hg; have hnb17 := NB239_240.out; have hnc17 := NB240_239.out; obtain ⟨hcz18_0, hcz18_1, hfz18_0, hfz18_1⟩ := z2_ BK239.out; obtain ⟨hcz19_0, hcz19_1, hfz19_0, hfz19_1⟩ := z2_ BK240.out) | ((with_reducible refine gt_ 41 ?_); refine Kd.R_lit k105 _ 105 ?hg (N := 41) ?hd (xs := ([] : List (S105))) (inner := []) (ok := fun _ => True) (okp := fun _ => True) ?hr ?hp (fun _ hk => hk) trivial (Below.refl _ _) (Nat.le_refl _) (by simp) ?_; (case hd => rfl); (case hg => rfl); (case hr => first | (go_simp; done) | (go_simp; rfl)); (case hp => exact (Reps.none _ _)); intro v242 w20 ho21 hb hg_ hnew_; clear hg_ hnew_; (first | rw [← Ny241.out] at ho21 | (simp only [Int.reduceToNat] at ho21; rw [← Ny241.out] at ho21)); have HO243 := mkA (Kd.R_lower (Kd.R_newB (Kd.R_newB (Kd.R_new' ho21 (Kd.R_lt (by refine r_ ?_; exact (Kd.R_mono (Kd.R_mono (Kd.R_far (p := ⟨gb240, 1, none⟩) (Kd.R_far (p := ⟨gb240, 0, none⟩) (Kd.R_far (p := ⟨gb239, 1, none⟩) (Kd.R_far (p := ⟨gb239, 0, none⟩) (Kd.R_mono (Kd.R_mono HO_5.out (fun k_ hk => (⟨hk, hk.1.2⟩ : _ ∧ k_ ≠ gb239))) (fun k_ hk => (⟨hk, hk.1.2⟩ : _ ∧ k_ ≠ gb240))) (fun _ hk => hk.1.2) (.int .i64 t235)) (fun _ hk => hk.1.2) (.int .i64 t236)) (fun _ hk => hk.2) (.int .i64 t237)) (fun _ hk => hk.2) (.int .i64 t238)) (fun _ h_ => h_.1)) (fun _ h_ => h_.1))))) (g := gb239) (o := .cells #[.int .i64 t235, .int .i64 t236] 105 (0, 0)) (by refine bl_ ?_; refine blk_far ?_ NB239_240.out _; refine bl_ ?_; refine blk_far ?_ NB239_240.out _; refine bl_ ?_; refine blk_put (cs := #[.int .i64 t235, .int .i64 0]) ?_ 1 _ rfl; refine bl_ ?_; refine blk_put (cs := #[.int .i64 0, .int .i64 0]) ?_ 0 _ rfl; refine bl_ ?_; exact BK239.out)) (g := gb240) (o := .cells #[.int .i64 t237, .int .i64 t238] 105 (0, 0)) (by refine bl_ ?_; refine blk_put (cs := #[.int .i64 t237, .int .i64 0]) ?_ 1 _ rfl; refine bl_ ?_; refine blk_put (cs := #[.int .i64 0, .int .i64 0]) ?_ 0 _ rfl; refine bl_ ?_; refine blk_far ?_ NB240_239.out _; refine bl_ ?_; refine blk_far ?_ NB240_239.out _; refine bl_ ?_; exact BK240.out)) (below_size (bs2_ HB.out GE239.out GE240.out))); replace HO_5 := mkA (Kd.R_elder' (by refine r_ ?_; exact (Kd.R_mono (Kd.R_mono (Kd.R_far (p := ⟨gb240, 1, none⟩) (Kd.R_far (p := ⟨gb240, 0, none⟩) (Kd.R_far (p := ⟨gb239, 1, none⟩) (Kd.R_far (p := ⟨gb239, 0, none⟩) (Kd.R_mono (Kd.R_mono HO_5.out (fun k_ hk => (⟨hk, hk.1.2⟩ : _ ∧ k_ ≠ gb239))) (fun k_ hk => (⟨hk, hk.1.2⟩ : _ ∧ k_ ≠ gb240))) (fun _ hk => hk.1.2) (.int .i64 t235)) (fun _ hk => hk.1.2) (.int .i64 t236)) (fun _ hk => hk.2) (.int .i64 t237)) (fun _ hk => hk.2) (.int .i64 t238)) (fun _ h_ => h_.1)) (fun _ h_ => h_.1))) (Kd.R_base ho21) hb); replace BK239 := mkA (blk_below (g := gb239) (o := .cells #[.int .i64 t235, .int .i64 t236] 105 (0, 0)) (by refine bl_ ?_; refine blk_far ?_ NB239_240.out _; refine bl_ ?_; refine blk_far ?_ NB239_240.out _; refine bl_ ?_; refine blk_put (cs := #[.int .i64 t235, .int .i64 0]) ?_ 1 _ rfl; refine bl_ ?_; refine blk_put (cs := #[.int .i64 0, .int .i64 0]) ?_ 0 _ rfl; refine bl_ ?_; exact BK239.out) hb); replace BK240 := mkA (blk_below (g := gb240) (o := .cells #[.int .i64 t237, .int .i64 t238] 105 (0, 0)) (by refine bl_ ?_; refine blk_put (cs := #[.int .i64 t237, .int .i64 0]) ?_ 1 _ rfl; refine bl_ ?_; refine blk_put (cs := #[.int .i64 0, .int .i64 0]) ?_ 0 _ rfl; refine bl_ ?_; refine blk_far ?_ NB240_239.out _; refine bl_ ?_; refine blk_far ?_ NB240_239.out _; refine bl_ ?_; exact BK240.out) hb); replace HB := mkA (below_step (bs2_ HB.out GE239.out GE240.out) hb); clear hb ho21))
     go_loopg [9, 10] k1 (fun kq v9 v10 w' => ∃ (x9_2 : List (S105)) (x10_2 : Int), v10 = .int .i64 x10_2 ∧ Aside0 (spec_l19Turned.l1 kq x5_1 x9_2 x10_2 t235 t236 = some r) ∧ Aside0 (kq ≤ k1) ∧ Aside0 (Kd.R k105 105 w' w.heap.size (fun k_ => some k_ ≠ (v9 : Value).ownBlock ∧ k_ ≠ gb239 ∧ k_ ≠ gb240) (.slice Ao13 x5_1.length co13) x5_1) ∧ Aside0 (Kd.R k105 105 w' w.heap.size (fun k_ => some k_ ≠ ((.slice Ao13 x5_1.length co13) : Value).ownBlock ∧ k_ ≠ gb239 ∧ k_ ≠ gb240) v9 x9_2) ∧ Aside0 (w'.heap[gb239]? = some (.cells #[.int .i64 t235, .int .i64 t236] 105 (0, 0))) ∧ Aside0 (w'.heap[gb240]? = some (.cells #[.int .i64 t237, .int .i64 t238] 105 (0, 0))) ∧ Aside0 (Below w.heap.size w w'))
     case atStart => exact ⟨(y241), (0), rf_, H', ⟨Nat.le_refl _⟩, ⟨by refine r_ ?_; exact Kd.R_mono HO_5.out (fun _ hk => ⟨hk.2, ⟨hk.1.1.2, hk.1.2⟩⟩)⟩, ⟨by refine r_ ?_; exact Kd.R_mono HO243.out (fun _ hk => ⟨hk.1.1.2, ⟨hk.1.2, hk.2⟩⟩)⟩, ⟨bl_ BK239.out⟩, ⟨bl_ BK240.out⟩, ⟨bs2_ HB.out GE239.out GE240.out⟩⟩
     case round =>
      clear H'
      try clear c5 c5b0 c5b1 c6 c6b0 c7 c7b0 c9
      try clear hcz18_0 hcz18_1 hcz19_0 hcz19_1
      try clear hfz18_0 hfz18_1 hfz19_0 hfz19_1
      try clear hx227_0 hx227_1 hx227_2 hx227_3 hx228_0 hx228_1 hx228_2 hx228_3 hx229_0 hx229_1
      try clear p227 p228 p229
      try clear q227 q228 q229
      obtain ⟨x9_2, x10_2, rfl, HA, HK2, HO_5, HO_9, BK239, BK240, HB⟩ := hrel
      cases gk with
      | zero => exact absurd HA.out (by simp [spec_l19Turned.l1])
      | succ k2 =>
       have H := HA.out
       clear HA
       simp only [spec_l19Turned.l1] at H
       by_cases c22 : x10_2 < (x5_1.length : Int)
       rotate_left
       · rw [if_neg c22] at H
         have c22b0 := decide_eq_false c22
         clear c22
         obtain rfl := Option.some.inj H
         go_wp2
         go_ret
         exact ⟨_, re_, by refine r_ ?_; exact Kd.R_mono HO_9.out (fun _ hk => trivial), bs2_ HB.out GE239.out GE240.out⟩
       rw [if_pos c22] at H
       have c22b0 := decide_eq_true c22
       clear c22
       revert H
       refine ng_ fun c23 => ?_
       intro H
       have c23b0 := decide_eq_true c23
       clear c23
       have H' := mkA H
       clear H
       try go_wp2
       replace HO_5 := mkA (Kd.R_drew HO_5.out)
       replace HO_9 := mkA (Kd.R_drew HO_9.out)
       replace BK239 := mkA (blk_drew BK239.out)
       replace BK240 := mkA (blk_drew BK240.out)
       replace HB := mkA (below_drew1 HB.out)
       obtain ⟨ad244, e244, hx244_0, hx244_1⟩ := at_T105 (Kd.R_reads' HO_5.out).2.2 x10_2 dt_ dt_
       cases e244
       have p244 : (0 ≤ (x10_2 : Int)) = True := eq_true dt_
       have q244 : (x10_2 < (x5_1.length : Int)) = True := eq_true dt_
       obtain ⟨ad245, e245, hx245_0, hx245_1⟩ := at_T105 (Kd.R_reads' HO_5.out).2.2 x10_2 dt_ dt_
       obtain rfl : ad244 = ad245 := (by injection e245)
       have p245 : (0 ≤ (x10_2 : Int)) = True := eq_true dt_
       have q245 : (x10_2 < (x5_1.length : Int)) = True := eq_true dt_
       refine st_ 19 (fun w' => w'.cell? ⟨gb239, 0, none⟩ = some (.int .i64 t235) ∧ w'.cell? ⟨gb239, 1, none⟩ = some (.int .i64 t236) ∧ C_ hx244_0 w' ∧ C_ hx244_1 w' ∧ C_ hx245_0 w' ∧ C_ hx245_1 w') [] spec_l19Turned.tab11 spec_l19Turned.bits11 sp_ fun hHeld HT_ HW_ => ?_
       generalize wr.drew = w24 at HO_5 HO_9 BK239 BK240 HB hx244_0 hx244_1 hx245_0 hx245_1 hHeld ⊢
       refine a1_ 0 48 (h := a1_ 1 49 (h := a1_ 2 50 (h := a1_ 3 51 (h := a1_ 5 53 (h := a1_ 8 56 (h := a1_ 9 57 (h := a1_ 10 58 (h := a1_ 11 59 (h := a1_ 13 61 (h := tk_ 4 52 (h := tk_ 6 54 (h := a1_ 7 55 (h := tk_ 12 60 (h := tk_ 14 62 (h := a1_ 15 63 (h := a1_ 16 64 (h := ?_)))))))))))))))))
       refine on_ 17 11 fun K hK => ?_
       refine box_step ?hg (N := 11) ?hd (cs := #[.int .i64 0, .int .i64 0]) (t := 105) ?hr ?_; (case hd => rfl); (case hg => rfl); (case hr => first | (go_simp; done) | (go_simp; rfl))
       intro gb246 hg w25 hbox hb
       have HS2_ := (hb.cell (World.block_lt_of_cell? _ _ (hHeld.2.2.1))).trans (hHeld.2.2.1)
       have HS3_ := (hb.cell (World.block_lt_of_cell? _ _ (hHeld.2.2.2.1))).trans (hHeld.2.2.2.1)
       have HS4_ := (hb.cell (World.block_lt_of_cell? _ _ (hHeld.2.2.2.2.1))).trans (hHeld.2.2.2.2.1)
       have HS5_ := (hb.cell (World.block_lt_of_cell? _ _ (hHeld.2.2.2.2.2))).trans (hHeld.2.2.2.2.2)
       replace HO_5 := mkA (Kd.R_below (Kd.R_elderB (r_ HO_5.out) gb246 (Nat.le_of_eq hg.symm)) hb)
       replace HO_9 := mkA (Kd.R_below (Kd.R_elderB (r_ HO_9.out) gb246 (Nat.le_of_eq hg.symm)) hb)
       have BK246 := mkA (hbox)
       have GW246 := gs_ hg (bs2_ HB.out GE239.out GE240.out)
       have GE246 := GW246
       replace HB := mkA (below_step (bs2_ HB.out GE239.out GE240.out) hb)
       have NB239_246 := nl_ hg (bl_ BK239.out)
       have NB246_239 := nr_ hg (bl_ BK239.out)
       replace BK239 := mkA (blk_below (bl_ BK239.out) hb)
       have NB240_246 := nl_ hg (bl_ BK240.out)
       have NB246_240 := nr_ hg (bl_ BK240.out)
       replace BK240 := mkA (blk_below (bl_ BK240.out) hb)
       clear hb hbox hg
       refine hK.out _ _ ⟨(blk_cell BK239.out 0).trans rfl, (blk_cell BK239.out 1).trans rfl, HS2_, HS3_, HS4_, HS5_⟩ (fun hHeld => ?_)
       clear hK K
       refine nm_ 11 ?_
       refine one_ (i := 18) (N := none) (fA 19 524287) rfl rfl (one_of HT_.out (by kernel_rfl)) (by decide) (fun K hK => ?_)
       have hs26 : w25.cell? ⟨gb246, 0, none⟩ = some (.int .i64 0) := (blk_cell BK246.out 0).trans rfl
       have hfs26 := blk_frozen BK246.out 0
       have hns26_0 := NB239_246.out
       have hns26_1 := NB240_246.out
       have hms26_0 := NB246_239.out
       have hms26_1 := NB246_240.out
       have hs27 : w25.cell? ⟨gb246, 1, none⟩ = some (.int .i64 0) := (blk_cell BK246.out 1).trans rfl
       have hfs27 := blk_frozen BK246.out 1
       have hns27_0 := NB239_246.out
       have hns27_1 := NB240_246.out
       have hms27_0 := NB246_239.out
       have hms27_1 := NB246_240.out
       refine skip_ (w1 := ?_) (by rfl) rfl ?_ ?_
       rotate_left
       · go_simp
         rfl
       refine hK.out _ _ ⟨((cell_far (p := ⟨gb246, _, none⟩) NB239_246.out _).trans (((cell_far (p := ⟨gb246, _, none⟩) NB239_246.out _).trans (hHeld.1)))), ((cell_far (p := ⟨gb246, _, none⟩) NB239_246.out _).trans (((cell_far (p := ⟨gb246, _, none⟩) NB239_246.out _).trans (hHeld.2.1)))), ((cell_far (p := ⟨gb246, _, none⟩) (by first | exact Kd.own_blk (Kd.R_away HO_5.out (fun _ hk => hk.2)) | (rw [add_block]; exact Kd.own_blk (Kd.R_away HO_5.out (fun _ hk => hk.2))) | (show (Addr.add _ _).block ≠ _; rw [add_block]; exact Kd.own_blk (Kd.R_away HO_5.out (fun _ hk => hk.2))) | (dsimp only; exact Kd.own_blk (Kd.R_away HO_5.out (fun _ hk => hk.2)))) _).trans (((cell_far (p := ⟨gb246, _, none⟩) (by first | exact Kd.own_blk (Kd.R_away HO_5.out (fun _ hk => hk.2)) | (rw [add_block]; exact Kd.own_blk (Kd.R_away HO_5.out (fun _ hk => hk.2))) | (show (Addr.add _ _).block ≠ _; rw [add_block]; exact Kd.own_blk (Kd.R_away HO_5.out (fun _ hk => hk.2))) | (dsimp only; exact Kd.own_blk (Kd.R_away HO_5.out (fun _ hk => hk.2)))) _).trans (hHeld.2.2.1)))), ((cell_far (p := ⟨gb246, _, none⟩) (by first | exact Kd.own_blk (Kd.R_away HO_5.out (fun _ hk => hk.2)) | (rw [add_block]; exact Kd.own_blk (Kd.R_away HO_5.out (fun _ hk => hk.2))) | (show (Addr.add _ _).block ≠ _; rw [add_block]; exact Kd.own_blk (Kd.R_away HO_5.out (fun _ hk => hk.2))) | (dsimp only; exact Kd.own_blk (Kd.R_away HO_5.out (fun _ hk => hk.2)))) _).trans (((cell_far (p := ⟨gb246, _, none⟩) (by first | exact Kd.own_blk (Kd.R_away HO_5.out (fun _ hk => hk.2)) | (rw [add_block]; exact Kd.own_blk (Kd.R_away HO_5.out (fun _ hk => hk.2))) | (show (Addr.add _ _).block ≠ _; rw [add_block]; exact Kd.own_blk (Kd.R_away HO_5.out (fun _ hk => hk.2))) | (dsimp only; exact Kd.own_blk (Kd.R_away HO_5.out (fun _ hk => hk.2)))) _).trans (hHeld.2.2.2.1)))), ((cell_far (p := ⟨gb246, _, none⟩) (by first | exact Kd.own_blk (Kd.R_away HO_5.out (fun _ hk => hk.2)) | (rw [add_block]; exact Kd.own_blk (Kd.R_away HO_5.out (fun _ hk => hk.2))) | (show (Addr.add _ _).block ≠ _; rw [add_block]; exact Kd.own_blk (Kd.R_away HO_5.out (fun _ hk => hk.2))) | (dsimp only; exact Kd.own_blk (Kd.R_away HO_5.out (fun _ hk => hk.2)))) _).trans (((cell_far (p := ⟨gb246, _, none⟩) (by first | exact Kd.own_blk (Kd.R_away HO_5.out (fun _ hk => hk.2)) | (rw [add_block]; exact Kd.own_blk (Kd.R_away HO_5.out (fun _ hk => hk.2))) | (show (Addr.add _ _).block ≠ _; rw [add_block]; exact Kd.own_blk (Kd.R_away HO_5.out (fun _ hk => hk.2))) | (dsimp only; exact Kd.own_blk (Kd.R_away HO_5.out (fun _ hk => hk.2)))) _).trans (hHeld.2.2.2.2.1)))), ((cell_far (p := ⟨gb246, _, none⟩) (by first | exact Kd.own_blk (Kd.R_away HO_5.out (fun _ hk => hk.2)) | (rw [add_block]; exact Kd.own_blk (Kd.R_away HO_5.out (fun _ hk => hk.2))) | (show (Addr.add _ _).block ≠ _; rw [add_block]; exact Kd.own_blk (Kd.R_away HO_5.out (fun _ hk => hk.2))) | (dsimp only; exact Kd.own_blk (Kd.R_away HO_5.out (fun _ hk => hk.2)))) _).trans (((cell_far (p := ⟨gb246, _, none⟩) (by first | exact Kd.own_blk (Kd.R_away HO_5.out (fun _ hk => hk.2)) | (rw [add_block]; exact Kd.own_blk (Kd.R_away HO_5.out (fun _ hk => hk.2))) | (show (Addr.add _ _).block ≠ _; rw [add_block]; exact Kd.own_blk (Kd.R_away HO_5.out (fun _ hk => hk.2))) | (dsimp only; exact Kd.own_blk (Kd.R_away HO_5.out (fun _ hk => hk.2)))) _).trans (hHeld.2.2.2.2.2))))⟩ (fun hHeld => ?_)
       clear hK K
       refine dn_ ?_
       obtain ⟨Ao28, co28, eo28⟩ := Kd.R_slice HO_9.out
       subst eo28
       try go_wp2
       go_loopg [12] k2 (fun kq v12 w' => ∃ (x12_3 : Int), v12 = .int .i64 x12_3 ∧ Aside0 (spec_l19Turned.l2 kq x5_1 x9_2 x10_2 x12_3 t235 t236 (wrap64 (((rd_T105 x5_1 x10_2).f0) - t235)) (wrap64 (((rd_T105 x5_1 x10_2).f1) - t236)) = some r) ∧ Aside0 (kq ≤ k2) ∧ Aside0 (Kd.R k105 105 w' w.heap.size (fun k_ => some k_ ≠ ((.slice Ao28 x9_2.length co28) : Value).ownBlock ∧ k_ ≠ gb239 ∧ k_ ≠ gb240 ∧ k_ ≠ gb246) (.slice (some ad244) x5_1.length co13) x5_1) ∧ Aside0 (Kd.R k105 105 w' w.heap.size (fun k_ => some k_ ≠ ((.slice (some ad244) x5_1.length co13) : Value).ownBlock ∧ k_ ≠ gb239 ∧ k_ ≠ gb240 ∧ k_ ≠ gb246) (.slice Ao28 x9_2.length co28) x9_2) ∧ Aside0 (w'.heap[gb239]? = some (.cells #[.int .i64 t235, .int .i64 t236] 105 (0, 0))) ∧ Aside0 (w'.heap[gb240]? = some (.cells #[.int .i64 t237, .int .i64 t238] 105 (0, 0))) ∧ Aside0 (w'.heap[gb246]? = some (.cells #[.int .i64 (wrap64 (((rd_T105 x5_1 x10_2).f0) - t235)), .int .i64 (wrap64 (((rd_T105 x5_1 x10_2).f1) - t236))] 105 (0, 0))) ∧ Aside0 (Below w.heap.size w w'))
       case atStart => exact ⟨((x9_2.length : Int)), rf_, H', ⟨Nat.le_refl _⟩, ⟨by refine r_ ?_; exact Kd.R_mono (Kd.R_far (p := ⟨gb246, 1, none⟩) (Kd.R_far (p := ⟨gb246, 0, none⟩) (Kd.R_mono HO_5.out (fun k_ hk => (⟨hk, hk.2⟩ : _ ∧ k_ ≠ gb246))) (fun _ hk => hk.2) (.int .i64 (wrap64 (((rd_T105 x5_1 x10_2).f0) - t235)))) (fun _ hk => hk.2) (.int .i64 (wrap64 (((rd_T105 x5_1 x10_2).f1) - t236)))) (fun _ hk => ⟨hk.1.1.1, ⟨hk.1.1.2.1, ⟨hk.1.1.2.2, hk.1.2⟩⟩⟩)⟩, ⟨by refine r_ ?_; exact Kd.R_mono (Kd.R_far (p := ⟨gb246, 1, none⟩) (Kd.R_far (p := ⟨gb246, 0, none⟩) (Kd.R_mono HO_9.out (fun k_ hk => (⟨hk, hk.2⟩ : _ ∧ k_ ≠ gb246))) (fun _ hk => hk.2) (.int .i64 (wrap64 (((rd_T105 x5_1 x10_2).f0) - t235)))) (fun _ hk => hk.2) (.int .i64 (wrap64 (((rd_T105 x5_1 x10_2).f1) - t236)))) (fun _ hk => ⟨hk.1.1.1, ⟨hk.1.1.2.1, ⟨hk.1.1.2.2, hk.1.2⟩⟩⟩)⟩, ⟨by refine bl_ ?_; refine blk_far ?_ NB239_246.out _; refine bl_ ?_; refine blk_far ?_ NB239_246.out _; refine bl_ ?_; exact BK239.out⟩, ⟨by refine bl_ ?_; refine blk_far ?_ NB240_246.out _; refine bl_ ?_; refine blk_far ?_ NB240_246.out _; refine bl_ ?_; exact BK240.out⟩, ⟨by refine bl_ ?_; refine blk_put (cs := #[.int .i64 (wrap64 (((rd_T105 x5_1 x10_2).f0) - t235)), .int .i64 0]) ?_ 1 _ rfl; refine bl_ ?_; refine blk_put (cs := #[.int .i64 0, .int .i64 0]) ?_ 0 _ rfl; refine bl_ ?_; exact BK246.out⟩, ⟨bs3_ HB.out GE239.out GE240.out GE246.out⟩⟩
       case round =>
        clear H'
        try clear c5 c5b0 c5b1 c6 c6b0 c7 c7b0 c9 c22 c22b0 c23 c23b0
        try clear hcz18_0 hcz18_1 hcz19_0 hcz19_1
        try clear hfz18_0 hfz18_1 hfz19_0 hfz19_1
        try clear hx227_0 hx227_1 hx227_2 hx227_3 hx228_0 hx228_1 hx228_2 hx228_3 hx229_0 hx229_1 hx244_0 hx244_1 hx245_0 hx245_1
        try clear p227 p228 p229 p244 p245
        try clear q227 q228 q229 q244 q245
        obtain ⟨x12_3, rfl, HA, HK3, HO_5, HO_9, BK239, BK240, BK246, HB⟩ := hrel
        cases gk with
        | zero => exact absurd HA.out (by simp [spec_l19Turned.l2])
        | succ k3 =>
         have H := HA.out
         clear HA
         simp only [spec_l19Turned.l2] at H
         by_cases c29 : x12_3 > 0
         rotate_left
         · rw [if_neg c29] at H
           have c29b0 := decide_eq_false c29
           clear c29
           obtain ⟨y269, hy269⟩ := gy_ (([] : List (S105)) : List (S105))
           replace H : (if 0 ≤ x12_3 then (if x12_3 ≤ (x9_2.length : Int) then ((some (x9_2.take (x12_3 : Int).toNat : List (S105))).bind fun y272 => (if y269.length + y272.length < 8796093022208 then ((some (y269 ++ y272 : List (S105))).bind fun y276 => (if y276.length < 8796093022208 then ((some (y276 ++ [(⟨(wrap64 (((rd_T105 x5_1 x10_2).f0) - t235)), (wrap64 (((rd_T105 x5_1 x10_2).f1) - t236))⟩ : S105)] : List (S105))).bind fun y279 => ((some (x9_2.drop (x12_3 : Int).toNat : List (S105))).bind fun y282 => (if y279.length + y282.length < 8796093022208 then (spec_l19Turned.l1 k3 x5_1 (y279 ++ y282) (wrap64 (x10_2 + 1)) t235 t236) else (none)))) else (none))) else (none))) else (none)) else (none)) = some r := hs_ H hy269
           have Ny269 := mkA hy269
           clear hy269
           revert H
           refine ng_ fun c56 => ng_ fun c57 => ?_
           intro H
           have c56b0 := eq_true c56
           have c56b1 := decide_eq_true c56
           clear c56
           have c57b0 := eq_true c57
           have c57b1 := decide_eq_true c57
           clear c57
           obtain ⟨y272, hy272⟩ := gy_ (x9_2.take (x12_3 : Int).toNat : List (S105))
           rw [← hy272] at H
           (try with_reducible replace H := bso_ H)
           have Ny272 := mkA hy272
           clear hy272
           revert H
           refine ng_ fun c58 => ?_
           intro H
           have LMc58 := mkA c58
           clear c58
           obtain ⟨y276, hy276⟩ := gy_ (y269 ++ y272 : List (S105))
           rw [← hy276] at H
           (try with_reducible replace H := bso_ H)
           have Ny276 := mkA hy276
           clear hy276
           revert H
           refine ng_ fun c59 => ?_
           intro H
           have LMc59 := mkA c59
           clear c59
           obtain ⟨y279, hy279⟩ := gy_ (y276 ++ [(⟨(wrap64 (((rd_T105 x5_1 x10_2).f0) - t235)), (wrap64 (((rd_T105 x5_1 x10_2).f1) - t236))⟩ : S105)] : List (S105))
           rw [← hy279] at H
           (try with_reducible replace H := bso_ H)
           have Ny279 := mkA hy279
           clear hy279
           have c60b0 := eq_true (dt_ : 0 ≤ x12_3)
           have c61b0 := eq_true (dt_ : x12_3 ≤ (x9_2.length : Int))
           obtain ⟨y282, hy282⟩ := gy_ (x9_2.drop (x12_3 : Int).toNat : List (S105))
           rw [← hy282] at H
           (try with_reducible replace H := bso_ H)
           have Ny282 := mkA hy282
           clear hy282
           revert H
           refine ng_ fun c62 => ?_
           intro H
           have LMc62 := mkA c62
           clear c62
           obtain ⟨y286, hy286⟩ := gy_ (y279 ++ y282 : List (S105))
           rw [← hy286] at H
           (try with_reducible replace H := bso_ H)
           have Ny286 := mkA hy286
           clear hy286
           have H' := mkA H
           clear H
           try go_wp2
           replace HO_5 := mkA (Kd.R_drew HO_5.out)
           replace HO_9 := mkA (Kd.R_drew HO_9.out)
           replace BK239 := mkA (blk_drew BK239.out)
           replace BK240 := mkA (blk_drew BK240.out)
           replace BK246 := mkA (blk_drew BK246.out)
           replace HB := mkA (below_drew1 HB.out)
           refine st_ 11 (fun w' => True) [] spec_l19Turned.tab13 spec_l19Turned.bits13 trivial fun hHeld HT_ HW_ => ?_
           generalize wr.drew = w63 at HO_5 HO_9 BK239 BK240 BK246 HB hHeld ⊢
           refine a1_ 0 67 (h := a1_ 1 68 (h := a1_ 2 69 (h := a0_ 3 70 (h := a0_ 4 71 (h := a0_ 5 72 (h := a0_ 6 73 (h := a0_ 7 74 (h := a0_ 8 75 (h := a0_ 9 76 (h := a1_ 10 77 (h := ?_)))))))))))
           refine dn_ ?_
           try go_wp2_with (first | ((with_reducible refine gt_ 80 ?_); refine Kd.R_lit k105 _ 105 ?hg (N := 80) ?hd (xs := ([] : List (S105))) (inner := []) (ok := fun _ => True) (okp := fun _ => True) ?hr ?hp (fun _ hk => hk) trivial (Below.refl _ _) (Nat.le_refl _) (by simp) ?_; (case hd => rfl); (case hg => rfl); (case hr => first | (go_simp; done) | (go_simp; rfl)); (case hp => exact (Reps.none _ _)); intro v270 w64 ho65 hb hg_ hnew_; clear hg_ hnew_; (first | rw [← Ny269.out] at ho65 | (simp only [Int.reduceToNat] at ho65; rw [← Ny269.out] at ho65)); have HO271 := mkA (Kd.R_lower (Kd.R_newB (Kd.R_newB (Kd.R_newB (Kd.R_new' (Kd.R_new' ho65 (Kd.R_lt (r_ HO_5.out))) (Kd.R_lt (r_ HO_9.out))) (g := gb239) (o := .cells #[.int .i64 t235, .int .i64 t236] 105 (0, 0)) (bl_ BK239.out)) (g := gb240) (o := .cells #[.int .i64 t237, .int .i64 t238] 105 (0, 0)) (bl_ BK240.out)) (g := gb246) (o := .cells #[.int .i64 (wrap64 (((rd_T105 x5_1 x10_2).f0) - t235)), .int .i64 (wrap64 (((rd_T105 x5_1 x10_2).f1) - t236))] 105 (0, 0)) (bl_ BK246.out)) (below_size (bs3_ HB.out GE239.out GE240.out GE246.out))); replace HO_5 := mkA (Kd.R_elder' (r_ HO_5.out) (Kd.R_base ho65) hb); replace HO_9 := mkA (Kd.R_elder' (r_ HO_9.out) (Kd.R_base ho65) hb); replace BK239 := mkA (blk_below (bl_ BK239.out) hb); replace BK240 := mkA (blk_below (bl_ BK240.out) hb); replace BK246 := mkA (blk_below (bl_ BK246.out) hb); replace HB := mkA (below_step (bs3_ HB.out GE239.out GE240.out GE246.out) hb); clear hb ho65; have q66 : (x12_3 : Int) ≤ ((x9_2.length : Int) : Int) := dt_; obtain ⟨i066, hi066, _, hsz66, _⟩ := info_parts info105; have hroom66 : x9_2.length ≤ co28 := (Kd.R_reads' HO_9.out).2.1; have hC66 : Kd.C k105 _ Ao28 x9_2.length x9_2 := (Kd.R_reads' HO_9.out).2.2; have hcut66 := cut_to (P := Try.prog) 51 105 .i64 Try.underlying51 hi066 Ao28 x9_2.length co28 x12_3 (dt_) q66 hroom66; have hr66 := Kd.C_take (m := (x12_3 : Int).toNat) hC66 (by omega); have hy66 : y272.length = (x12_3 : Int).toNat := (by rw [Ny272.out, List.length_take]; omega); rw [← Ny272.out] at hr66; rw [← hy66] at hcut66; have HR275 := mkA hr66; have HC275 := mkA (show y272.length ≤ co28 from by omega); clear hr66 hC66 hroom66 hi066 hsz66; have KY66 := mkA hy66; clear hy66; have KL66 := mkA (show (x12_3 : Int).toNat ≤ x9_2.length from by omega); replace q66 := eq_true q66) | ((with_reducible refine gate_builtin (b := .append) (xs := #[.tmp 80, .tmp 83]) rfl ?_); at_builtin; refine Kd.R_append_rows k105 (w0 := w) w.heap.size rfl (.tmp 80) (.tmp 83) 51 105 (.agg #[(.int .i64 0), (.int .i64 0)]) 16 rfl Try.underlying51 info105 rfl (by decide) (by omega) v270 y269 y272 _ _ _ (fun k_ => some k_ ≠ (.slice (some ad244) x5_1.length co13 : Value).ownBlock ∧ some k_ ≠ (.slice Ao28 x9_2.length co28 : Value).ownBlock ∧ k_ ≠ gb239 ∧ k_ ≠ gb240 ∧ k_ ≠ gb246) (fun _ => False) rfl rfl ?aO ?aR (fun _ _ h => h) (fun _ h => h.elim) ?aF ?aB ?aS ?aL ?_; (case aR => repeat (first | exact (by repeat (first | (with_reducible exact HR275.out) | (with_reducible refine Kd.C_alloc ?_ _) | (with_reducible refine Kd.C_drewN ?_ _) | (with_reducible refine Kd.C_drew ?_) | exact HR275.out)) | (with_reducible refine Kd.C_alloc ?_ _) | (with_reducible refine Kd.C_drewN ?_ _) | (with_reducible refine Kd.C_drew ?_))); (case aB => exact (bs3_ HB.out GE239.out GE240.out GE246.out)); (case aF => exact (fun k_ hk => ⟨Kd.fresh' (Kd.R_lt (r_ HO_5.out)) k_ hk, Kd.fresh' (Kd.R_lt (r_ HO_9.out)) k_ hk, Kd.freshB (g := gb239) (o := .cells #[.int .i64 t235, .int .i64 t236] 105 (0, 0)) (bl_ BK239.out) k_ hk, Kd.freshB (g := gb240) (o := .cells #[.int .i64 t237, .int .i64 t238] 105 (0, 0)) (bl_ BK240.out) k_ hk, Kd.freshB (g := gb246) (o := .cells #[.int .i64 (wrap64 (((rd_T105 x5_1 x10_2).f0) - t235)), .int .i64 (wrap64 (((rd_T105 x5_1 x10_2).f1) - t236))] 105 (0, 0)) (bl_ BK246.out) k_ hk⟩)); (case aO => exact (by refine r_ ?_; exact Kd.R_mono HO271.out (fun _ hk => ⟨hk.1.1.1.1.2, ⟨hk.1.1.1.2, ⟨hk.1.1.2, ⟨hk.1.2, hk.2⟩⟩⟩⟩))); (case aS => exact (below_size (bs3_ HB.out GE239.out GE240.out GE246.out))); (case aL => have := LMc58.out; omega); intro v277 w67 ho hb hg hat; rw [← Ny276.out] at ho; replace HO_5 := mkA (Kd.R_after (ok := (fun k_ => some k_ ≠ (.slice Ao28 x9_2.length co28 : Value).ownBlock ∧ k_ ≠ gb239 ∧ k_ ≠ gb240 ∧ k_ ≠ gb246)) (r_ HO_5.out) hg hat); replace BK239 := mkA (blk_grown (g := gb239) (o := .cells #[.int .i64 t235, .int .i64 t236] 105 (0, 0)) (bl_ BK239.out) hg (Kd.R_away HO271.out (fun _ hk => hk.1.1.2))); replace BK240 := mkA (blk_grown (g := gb240) (o := .cells #[.int .i64 t237, .int .i64 t238] 105 (0, 0)) (bl_ BK240.out) hg (Kd.R_away HO271.out (fun _ hk => hk.1.2))); replace BK246 := mkA (blk_grown (g := gb246) (o := .cells #[.int .i64 (wrap64 (((rd_T105 x5_1 x10_2).f0) - t235)), .int .i64 (wrap64 (((rd_T105 x5_1 x10_2).f1) - t236))] 105 (0, 0)) (bl_ BK246.out) hg (Kd.R_away HO271.out (fun _ hk => hk.2))); replace HB := mkA (hb); replace HR275 := mkA ((show Kd.C k105 w67 Ao28 y272.length y272 from by rw [Ny272.out]; exact Kd.C_take (m := (x12_3 : Int).toNat) ((Kd.R_reads' (Kd.R_after (ok := (fun k_ => some k_ ≠ (.slice (some ad244) x5_1.length co13 : Value).ownBlock ∧ k_ ≠ gb239 ∧ k_ ≠ gb240 ∧ k_ ≠ gb246)) (r_ HO_9.out) hg hat)).2.2) KL66.out)); replace HO_9 := mkA (Kd.R_after (ok := (fun k_ => some k_ ≠ (.slice (some ad244) x5_1.length co13 : Value).ownBlock ∧ k_ ≠ gb239 ∧ k_ ≠ gb240 ∧ k_ ≠ gb246)) (r_ HO_9.out) hg hat); have HO278 := mkA (ho); clear HO271; clear ho hb hg hat; have hnb68 := NB246_239.out; have hnc68 := NB239_246.out; have hnb69 := NB246_240.out; have hnc69 := NB240_246.out; obtain ⟨hcz70_0, hcz70_1, hfz70_0, hfz70_1⟩ := z2_ BK246.out) | ((with_reducible refine gate_builtin (b := .append) (xs := #[.tmp 85, .tmp 87]) rfl ?_); at_builtin; refine Kd.R_append k105 (w0 := w) w.heap.size rfl (.tmp 85) (.tmp 87) 51 105 (.agg #[(.int .i64 0), (.int .i64 0)]) 16 rfl Try.underlying51 info105 rfl (by decide) (by omega) v277 y276 (⟨(wrap64 (((rd_T105 x5_1 x10_2).f0) - t235)), (wrap64 (((rd_T105 x5_1 x10_2).f1) - t236))⟩ : S105) [.int .i64 (wrap64 (((rd_T105 x5_1 x10_2).f0) - t235)), .int .i64 (wrap64 (((rd_T105 x5_1 x10_2).f1) - t236))] (fun k_ => some k_ ≠ (.slice (some ad244) x5_1.length co13 : Value).ownBlock ∧ some k_ ≠ (.slice Ao28 x9_2.length co28 : Value).ownBlock ∧ k_ ≠ gb239 ∧ k_ ≠ gb240 ∧ k_ ≠ gb246) (fun _ => False) rfl rfl ?aP (fun _ hk => hk.elim) ?aF ?aO ?aB ?aS ?aL ?_; (case aP => exact k105_mkM _ _ _ (⟨(wrap64 (((rd_T105 x5_1 x10_2).f0) - t235)), (wrap64 (((rd_T105 x5_1 x10_2).f1) - t236))⟩ : S105)); (case aB => exact (bs3_ HB.out GE239.out GE240.out GE246.out)); (case aF => exact (fun k_ hk => ⟨Kd.fresh' (Kd.R_lt (r_ HO_5.out)) k_ hk, Kd.fresh' (Kd.R_lt (r_ HO_9.out)) k_ hk, Kd.freshB (g := gb239) (o := .cells #[.int .i64 t235, .int .i64 t236] 105 (0, 0)) (bl_ BK239.out) k_ hk, Kd.freshB (g := gb240) (o := .cells #[.int .i64 t237, .int .i64 t238] 105 (0, 0)) (bl_ BK240.out) k_ hk, Kd.freshB (g := gb246) (o := .cells #[.int .i64 (wrap64 (((rd_T105 x5_1 x10_2).f0) - t235)), .int .i64 (wrap64 (((rd_T105 x5_1 x10_2).f1) - t236))] 105 (0, 0)) (bl_ BK246.out) k_ hk⟩)); (case aO => exact (r_ HO278.out)); (case aS => exact (below_size (bs3_ HB.out GE239.out GE240.out GE246.out))); (case aL => have := LMc59.out; omega); intro v280 w71 ho hb hg hat; rw [← Ny279.out] at ho; replace HO_5 := mkA (Kd.R_after (ok := (fun k_ => some k_ ≠ (.slice Ao28 x9_2.length co28 : Value).ownBlock ∧ k_ ≠ gb239 ∧ k_ ≠ gb240 ∧ k_ ≠ gb246)) (r_ HO_5.out) hg hat); replace BK239 := mkA (blk_grown (g := gb239) (o := .cells #[.int .i64 t235, .int .i64 t236] 105 (0, 0)) (bl_ BK239.out) hg (Kd.R_away HO278.out (fun _ hk => hk.2.2.1))); replace BK240 := mkA (blk_grown (g := gb240) (o := .cells #[.int .i64 t237, .int .i64 t238] 105 (0, 0)) (bl_ BK240.out) hg (Kd.R_away HO278.out (fun _ hk => hk.2.2.2.1))); replace BK246 := mkA (blk_grown (g := gb246) (o := .cells #[.int .i64 (wrap64 (((rd_T105 x5_1 x10_2).f0) - t235)), .int .i64 (wrap64 (((rd_T105 x5_1 x10_2).f1) - t236))] 105 (0, 0)) (bl_ BK246.out) hg (Kd.R_away HO278.out (fun _ hk => hk.2.2.2.2))); replace HB := mkA (hb); replace HR275 := mkA ((show Kd.C k105 w71 Ao28 y272.length y272 from by rw [Ny272.out]; exact Kd.C_take (m := (x12_3 : Int).toNat) ((Kd.R_reads' (Kd.R_after (ok := (fun k_ => some k_ ≠ (.slice (some ad244) x5_1.length co13 : Value).ownBlock ∧ k_ ≠ gb239 ∧ k_ ≠ gb240 ∧ k_ ≠ gb246)) (r_ HO_9.out) hg hat)).2.2) KL66.out)); replace HO_9 := mkA (Kd.R_after (ok := (fun k_ => some k_ ≠ (.slice (some ad244) x5_1.length co13 : Value).ownBlock ∧ k_ ≠ gb239 ∧ k_ ≠ gb240 ∧ k_ ≠ gb246)) (r_ HO_9.out) hg hat); have HO281 := mkA (ho); clear HO278; clear ho hb hg hat; have q72 : (x12_3 : Int) ≤ ((x9_2.length : Int) : Int) := dt_; obtain ⟨i072, hi072, _, hsz72, _⟩ := info_parts info105; have hroom72 : x9_2.length ≤ co28 := (Kd.R_reads' HO_9.out).2.1; have hC72 : Kd.C k105 _ Ao28 x9_2.length x9_2 := (Kd.R_reads' HO_9.out).2.2; have q072 : (0 : Int) ≤ (x12_3 : Int) := dt_; have hcut72 := cut_from (P := Try.prog) 51 105 .i64 Try.underlying51 hi072 2 hsz72 Ao28 x9_2.length co28 x12_3 q072 q72; have hr72 := Kd.C_drop (m := (x12_3 : Int).toNat) (c := co28) hC72 (by omega) hroom72; obtain ⟨A72, hA72⟩ : ∃ A1, A1 = (if co28 = (x12_3 : Int).toNat then Ao28 else (Ao28 : Option Addr).map (·.add ((x12_3 : Int).toNat * 2))) := ⟨_, rfl⟩; obtain ⟨c72, hc72⟩ : ∃ c1, c1 = co28 - (x12_3 : Int).toNat := ⟨_, rfl⟩; have hy72 : y282.length = x9_2.length - (x12_3 : Int).toNat := (by rw [Ny282.out, List.length_drop] <;> omega); rw [show (x9_2).drop (x12_3 : Int).toNat = y282 from Ny282.out.symm] at hr72; replace hr72 : Kd.C k105 _ A72 y282.length y282 := (by rw [hA72]; exact hr72); rw [← hy72, ← hA72, ← hc72] at hcut72; have HR285 := mkA hr72; have HC285 := mkA (show y282.length ≤ c72 from by rw [hy72, hc72]; exact Nat.sub_le_sub_right hroom72 _); clear hr72 hC72 hroom72 hi072 hsz72 hc72; have KY72 := mkA hy72; have KA72 := mkA hA72; clear hy72 hA72; have KL72 := mkA (show (x12_3 : Int).toNat ≤ x9_2.length from by omega); replace q72 := eq_true q72) | ((with_reducible refine gate_builtin (b := .append) (xs := #[.tmp 89, .tmp 92]) rfl ?_); at_builtin; refine Kd.R_append_rows k105 (w0 := w) w.heap.size rfl (.tmp 89) (.tmp 92) 51 105 (.agg #[(.int .i64 0), (.int .i64 0)]) 16 rfl Try.underlying51 info105 rfl (by decide) (by omega) v280 y279 y282 _ _ _ (fun k_ => some k_ ≠ (.slice (some ad244) x5_1.length co13 : Value).ownBlock ∧ some k_ ≠ (.slice Ao28 x9_2.length co28 : Value).ownBlock ∧ k_ ≠ gb239 ∧ k_ ≠ gb240 ∧ k_ ≠ gb246) (fun _ => False) rfl rfl ?aO ?aR (fun _ _ h => h) (fun _ h => h.elim) ?aF ?aB ?aS ?aL ?_; (case aR => repeat (first | exact (by repeat (first | (with_reducible exact HR285.out) | (with_reducible refine Kd.C_alloc ?_ _) | (with_reducible refine Kd.C_drewN ?_ _) | (with_reducible refine Kd.C_drew ?_) | exact HR285.out)) | (with_reducible refine Kd.C_alloc ?_ _) | (with_reducible refine Kd.C_drewN ?_ _) | (with_reducible refine Kd.C_drew ?_))); (case aB => exact (bs3_ HB.out GE239.out GE240.out GE246.out)); (case aF => exact (fun k_ hk => ⟨Kd.fresh' (Kd.R_lt (r_ HO_5.out)) k_ hk, Kd.fresh' (Kd.R_lt (r_ HO_9.out)) k_ hk, Kd.freshB (g := gb239) (o := .cells #[.int .i64 t235, .int .i64 t236] 105 (0, 0)) (bl_ BK239.out) k_ hk, Kd.freshB (g := gb240) (o := .cells #[.int .i64 t237, .int .i64 t238] 105 (0, 0)) (bl_ BK240.out) k_ hk, Kd.freshB (g := gb246) (o := .cells #[.int .i64 (wrap64 (((rd_T105 x5_1 x10_2).f0) - t235)), .int .i64 (wrap64 (((rd_T105 x5_1 x10_2).f1) - t236))] 105 (0, 0)) (bl_ BK246.out) k_ hk⟩)); (case aO => exact (r_ HO281.out)); (case aS => exact (below_size (bs3_ HB.out GE239.out GE240.out GE246.out))); (case aL => have := LMc62.out; omega); intro v287 w73 ho hb hg hat; rw [← Ny286.out] at ho; replace HO_5 := mkA (Kd.R_after (ok := (fun k_ => some k_ ≠ (.slice Ao28 x9_2.length co28 : Value).ownBlock ∧ k_ ≠ gb239 ∧ k_ ≠ gb240 ∧ k_ ≠ gb246)) (r_ HO_5.out) hg hat); replace BK239 := mkA (blk_grown (g := gb239) (o := .cells #[.int .i64 t235, .int .i64 t236] 105 (0, 0)) (bl_ BK239.out) hg (Kd.R_away HO281.out (fun _ hk => hk.2.2.1))); replace BK240 := mkA (blk_grown (g := gb240) (o := .cells #[.int .i64 t237, .int .i64 t238] 105 (0, 0)) (bl_ BK240.out) hg (Kd.R_away HO281.out (fun _ hk => hk.2.2.2.1))); replace BK246 := mkA (blk_grown (g := gb246) (o := .cells #[.int .i64 (wrap64 (((rd_T105 x5_1 x10_2).f0) - t235)), .int .i64 (wrap64 (((rd_T105 x5_1 x10_2).f1) - t236))] 105 (0, 0)) (bl_ BK246.out) hg (Kd.R_away HO281.out (fun _ hk => hk.2.2.2.2))); replace HB := mkA (hb); replace HR275 := mkA ((show Kd.C k105 w73 Ao28 y272.length y272 from by rw [Ny272.out]; exact Kd.C_take (m := (x12_3 : Int).toNat) ((Kd.R_reads' (Kd.R_after (ok := (fun k_ => some k_ ≠ (.slice (some ad244) x5_1.length co13 : Value).ownBlock ∧ k_ ≠ gb239 ∧ k_ ≠ gb240 ∧ k_ ≠ gb246)) (r_ HO_9.out) hg hat)).2.2) KL66.out)); replace HR285 := mkA ((show Kd.C k105 w73 A72 y282.length y282 from by rw [Ny282.out, KA72.out]; exact Kd.C_drop (m := (x12_3 : Int).toNat) (c := co28) ((Kd.R_reads' (Kd.R_after (ok := (fun k_ => some k_ ≠ (.slice (some ad244) x5_1.length co13 : Value).ownBlock ∧ k_ ≠ gb239 ∧ k_ ≠ gb240 ∧ k_ ≠ gb246)) (r_ HO_9.out) hg hat)).2.2) KL72.out ((Kd.R_reads' (Kd.R_after (ok := (fun k_ => some k_ ≠ (.slice (some ad244) x5_1.length co13 : Value).ownBlock ∧ k_ ≠ gb239 ∧ k_ ≠ gb240 ∧ k_ ≠ gb246)) (r_ HO_9.out) hg hat)).2.1))); replace HO_9 := mkA (Kd.R_after (ok := (fun k_ => some k_ ≠ (.slice (some ad244) x5_1.length co13 : Value).ownBlock ∧ k_ ≠ gb239 ∧ k_ ≠ gb240 ∧ k_ ≠ gb246)) (r_ HO_9.out) hg hat); have HO288 := mkA (ho); clear HO281; clear ho hb hg hat))
           go_roundg k3
           case measure => have := HK1.out; have := HK2.out; have := HK3.out; omega
           case rel => exact ⟨(y286), (wrap64 (x10_2 + 1)), rf_, H', ⟨on3_ HK1.out HK2.out HK3.out⟩, ⟨by refine r_ ?_; exact Kd.R_mono HO_5.out (fun _ hk => ⟨hk.2, ⟨hk.1.2.1, hk.1.2.2.1⟩⟩)⟩, ⟨by refine r_ ?_; exact Kd.R_mono HO288.out (fun _ hk => ⟨hk.1, ⟨hk.2.2.1, hk.2.2.2.1⟩⟩)⟩, ⟨bl_ BK239.out⟩, ⟨bl_ BK240.out⟩, ⟨bs3_ HB.out GE239.out GE240.out GE246.out⟩⟩
         rw [if_pos c29] at H
         have c29b0 := decide_eq_true c29
         clear c29
         obtain ⟨ji30, hji30⟩ : ∃ j_ : Int, (wrap64 (x12_3 - 1)) = j_ := ⟨_, rfl⟩
         replace H : (if 0 ≤ (ji30) then (if (ji30) < (x9_2.length : Int) then ((spec_l19Before.f (wrap64 (((rd_T105 x5_1 x10_2).f0) - t235)) (wrap64 (((rd_T105 x5_1 x10_2).f1) - t236)) ((rd_T105 x9_2 (ji30)).f0) ((rd_T105 x9_2 (ji30)).f1)).bind fun t248 => (if t248 = true then (spec_l19Turned.l2 k3 x5_1 x9_2 x10_2 ji30 t235 t236 (wrap64 (((rd_T105 x5_1 x10_2).f0) - t235)) (wrap64 (((rd_T105 x5_1 x10_2).f1) - t236))) else ((some (([] : List (S105)) : List (S105))).bind fun y249 => (if 0 ≤ x12_3 then (if x12_3 ≤ (x9_2.length : Int) then ((some (x9_2.take (x12_3 : Int).toNat : List (S105))).bind fun y252 => (if y249.length + y252.length < 8796093022208 then ((some (y249 ++ y252 : List (S105))).bind fun y256 => (if y256.length < 8796093022208 then ((some (y256 ++ [(⟨(wrap64 (((rd_T105 x5_1 x10_2).f0) - t235)), (wrap64 (((rd_T105 x5_1 x10_2).f1) - t236))⟩ : S105)] : List (S105))).bind fun y259 => ((some (x9_2.drop (x12_3 : Int).toNat : List (S105))).bind fun y262 => (if y259.length + y262.length < 8796093022208 then (spec_l19Turned.l1 k3 x5_1 (y259 ++ y262) (wrap64 (x10_2 + 1)) t235 t236) else (none)))) else (none))) else (none))) else (none)) else (none))))) else (none)) else (none)) = some r := by first | (rw [hji30] at H; exact H) | (simp only [hji30] at H ⊢; exact H)
         have hji30w : (IntKind.i64.wrap (x12_3 - 1)) = ji30 := (i64_w _).trans hji30
         revert H
         refine ng_ fun c31 => ng_ fun c32 => ob_ fun t248 A33 => ?_
         intro H
         have c31b0 := decide_eq_true c31
         clear c31
         have c32b0 := decide_eq_true c32
         clear c32
         by_cases c34 : t248 = true
         · subst c34
           rw [if_pos rfl] at H
           have H' := mkA H
           clear H
           try go_wp2
           replace HO_5 := mkA (Kd.R_drew HO_5.out)
           replace HO_9 := mkA (Kd.R_drew HO_9.out)
           replace BK239 := mkA (blk_drew BK239.out)
           replace BK240 := mkA (blk_drew BK240.out)
           replace BK246 := mkA (blk_drew BK246.out)
           replace HB := mkA (below_drew1 HB.out)
           obtain ⟨ad247, e247, hx247_0, hx247_1⟩ := at_T105 (Kd.R_reads' HO_9.out).2.2 (ji30) dt_ dt_
           cases e247
           have p247 : (0 ≤ ((ji30) : Int)) = True := eq_true dt_
           have q247 : ((ji30) < (x9_2.length : Int)) = True := eq_true dt_
           refine st_ 11 (fun w' => w'.cell? ⟨gb246, 0, none⟩ = some (.int .i64 (wrap64 (((rd_T105 x5_1 x10_2).f0) - t235))) ∧ w'.cell? ⟨gb246, 1, none⟩ = some (.int .i64 (wrap64 (((rd_T105 x5_1 x10_2).f1) - t236))) ∧ C_ hx247_0 w' ∧ C_ hx247_1 w') [] spec_l19Turned.tab13 spec_l19Turned.bits13 sp_ fun hHeld HT_ HW_ => ?_
           generalize wr.drew = w35 at HO_5 HO_9 BK239 BK240 BK246 HB hx247_0 hx247_1 hHeld ⊢
           refine a1_ 0 67 (h := a1_ 1 68 (h := a1_ 2 69 (h := a1_ 4 71 (h := a1_ 5 72 (h := a1_ 6 73 (h := a1_ 7 74 (h := tk_ 3 70 (h := tk_ 8 75 (h := ?_)))))))))
           refine on_ 9 76 fun K hK => ?_
           refine goes_ Try.func92 (by kernel_rfl) rfl #[.agg #[.int .i64 (wrap64 (((rd_T105 x5_1 x10_2).f0) - t235)), .int .i64 (wrap64 (((rd_T105 x5_1 x10_2).f1) - t236))], .agg #[.int .i64 ((rd_T105 x9_2 (ji30)).f0), .int .i64 ((rd_T105 x9_2 (ji30)).f1)]] (by rfl) rfl rfl (by (try simp only [List.map_toArray, List.map_cons, List.map_nil]); first | done | (simp only [hji30]; rfl) | rfl | (simp only [List.length_drop, List.length_take]; rfl)) ?_
           with_reducible refine (spec_l19Before.calls (wrap64 (((rd_T105 x5_1 x10_2).f0) - t235)) (wrap64 (((rd_T105 x5_1 x10_2).f1) - t236)) ((rd_T105 x9_2 (ji30)).f0) ((rd_T105 x9_2 (ji30)).f1) true _ A33.out).mono ?_
           rintro e w36 ⟨rfl, hb⟩
           have HS2_ := (hb.cell (World.block_lt_of_cell? _ _ (hHeld.2.2.1))).trans (hHeld.2.2.1)
           have HS3_ := (hb.cell (World.block_lt_of_cell? _ _ (hHeld.2.2.2))).trans (hHeld.2.2.2)
           refine ⟨_, rfl, ?_⟩
           replace HO_5 := mkA (Kd.R_below (r_ HO_5.out) hb)
           replace HO_9 := mkA (Kd.R_below (r_ HO_9.out) hb)
           replace BK239 := mkA (blk_below (bl_ BK239.out) hb)
           replace BK240 := mkA (blk_below (bl_ BK240.out) hb)
           replace BK246 := mkA (blk_below (bl_ BK246.out) hb)
           replace HB := mkA (below_step (bs3_ HB.out GE239.out GE240.out GE246.out) hb)
           (try clear hb)
           (try clear hb2)
           (try clear hk)
           (try clear hi)
           refine hK.out _ _ ⟨(blk_cell BK246.out 0).trans rfl, (blk_cell BK246.out 1).trans rfl, HS2_, HS3_⟩ (fun hHeld => ?_)
           clear hK K
           refine nm_ 76 ?_
           refine a1_ 10 77 (h := ?_)
           refine dn_ ?_
           try go_wp2
           go_roundg k3
           case measure => have := HK1.out; have := HK2.out; have := HK3.out; omega
           case rel => exact ⟨(ji30), (by first | rfl | (simp; done) | (simp only [← hji30] <;> (first | rfl | simp)) | (simp [*]; done)), H', ⟨on3_ HK1.out HK2.out HK3.out⟩, ⟨r_ HO_5.out⟩, ⟨r_ HO_9.out⟩, ⟨bl_ BK239.out⟩, ⟨bl_ BK240.out⟩, ⟨bl_ BK246.out⟩, ⟨bs3_ HB.out GE239.out GE240.out GE246.out⟩⟩
         · replace c34 := Bool.eq_false_iff.mpr c34
           subst c34
           rw [if_neg Bool.false_ne_true] at H
           obtain ⟨y249, hy249⟩ := gy_ (([] : List (S105)) : List (S105))
           replace H : (if 0 ≤ x12_3 then (if x12_3 ≤ (x9_2.length : Int) then ((some (x9_2.take (x12_3 : Int).toNat : List (S105))).bind fun y252 => (if y249.length + y252.length < 8796093022208 then ((some (y249 ++ y252 : List (S105))).bind fun y256 => (if y256.length < 8796093022208 then ((some (y256 ++ [(⟨(wrap64 (((rd_T105 x5_1 x10_2).f0) - t235)), (wrap64 (((rd_T105 x5_1 x10_2).f1) - t236))⟩ : S105)] : List (S105))).bind fun y259 => ((some (x9_2.drop (x12_3 : Int).toNat : List (S105))).bind fun y262 => (if y259.length + y262.length < 8796093022208 then (spec_l19Turned.l1 k3 x5_1 (y259 ++ y262) (wrap64 (x10_2 + 1)) t235 t236) else (none)))) else (none))) else (none))) else (none)) else (none)) = some r := hs_ H hy249
           have Ny249 := mkA hy249
           clear hy249
           revert H
           refine ng_ fun c37 => ng_ fun c38 => ?_
           intro H
           have c37b0 := eq_true c37
           have c37b1 := decide_eq_true c37
           clear c37
           have c38b0 := eq_true c38
           have c38b1 := decide_eq_true c38
           clear c38
           obtain ⟨y252, hy252⟩ := gy_ (x9_2.take (x12_3 : Int).toNat : List (S105))
           rw [← hy252] at H
           (try with_reducible replace H := bso_ H)
           have Ny252 := mkA hy252
           clear hy252
           revert H
           refine ng_ fun c39 => ?_
           intro H
           have LMc39 := mkA c39
           clear c39
           obtain ⟨y256, hy256⟩ := gy_ (y249 ++ y252 : List (S105))
           rw [← hy256] at H
           (try with_reducible replace H := bso_ H)
           have Ny256 := mkA hy256
           clear hy256
           revert H
           refine ng_ fun c40 => ?_
           intro H
           have LMc40 := mkA c40
           clear c40
           obtain ⟨y259, hy259⟩ := gy_ (y256 ++ [(⟨(wrap64 (((rd_T105 x5_1 x10_2).f0) - t235)), (wrap64 (((rd_T105 x5_1 x10_2).f1) - t236))⟩ : S105)] : List (S105))
           rw [← hy259] at H
           (try with_reducible replace H := bso_ H)
           have Ny259 := mkA hy259
           clear hy259
           have c41b0 := eq_true (dt_ : 0 ≤ x12_3)
           have c42b0 := eq_true (dt_ : x12_3 ≤ (x9_2.length : Int))
           obtain ⟨y262, hy262⟩ := gy_ (x9_2.drop (x12_3 : Int).toNat : List (S105))
           rw [← hy262] at H
           (try with_reducible replace H := bso_ H)
           have Ny262 := mkA hy262
           clear hy262
           revert H
           refine ng_ fun c43 => ?_
           intro H
           have LMc43 := mkA c43
           clear c43
           obtain ⟨y266, hy266⟩ := gy_ (y259 ++ y262 : List (S105))
           rw [← hy266] at H
           (try with_reducible replace H := bso_ H)
           have Ny266 := mkA hy266
           clear hy266
           have H' := mkA H
           clear H
           try go_wp2
           replace HO_5 := mkA (Kd.R_drew HO_5.out)
           replace HO_9 := mkA (Kd.R_drew HO_9.out)
           replace BK239 := mkA (blk_drew BK239.out)
           replace BK240 := mkA (blk_drew BK240.out)
           replace BK246 := mkA (blk_drew BK246.out)
           replace HB := mkA (below_drew1 HB.out)
           obtain ⟨ad247, e247, hx247_0, hx247_1⟩ := at_T105 (Kd.R_reads' HO_9.out).2.2 (ji30) dt_ dt_
           cases e247
           have p247 : (0 ≤ ((ji30) : Int)) = True := eq_true dt_
           have q247 : ((ji30) < (x9_2.length : Int)) = True := eq_true dt_
           refine st_ 11 (fun w' => w'.cell? ⟨gb246, 0, none⟩ = some (.int .i64 (wrap64 (((rd_T105 x5_1 x10_2).f0) - t235))) ∧ w'.cell? ⟨gb246, 1, none⟩ = some (.int .i64 (wrap64 (((rd_T105 x5_1 x10_2).f1) - t236))) ∧ C_ hx247_0 w' ∧ C_ hx247_1 w') [] spec_l19Turned.tab13 spec_l19Turned.bits13 sp_ fun hHeld HT_ HW_ => ?_
           generalize wr.drew = w44 at HO_5 HO_9 BK239 BK240 BK246 HB hx247_0 hx247_1 hHeld ⊢
           refine a1_ 0 67 (h := a1_ 1 68 (h := a1_ 2 69 (h := a1_ 4 71 (h := a1_ 5 72 (h := a1_ 6 73 (h := a1_ 7 74 (h := tk_ 3 70 (h := tk_ 8 75 (h := ?_)))))))))
           refine on_ 9 76 fun K hK => ?_
           refine goes_ Try.func92 (by kernel_rfl) rfl #[.agg #[.int .i64 (wrap64 (((rd_T105 x5_1 x10_2).f0) - t235)), .int .i64 (wrap64 (((rd_T105 x5_1 x10_2).f1) - t236))], .agg #[.int .i64 ((rd_T105 x9_2 (ji30)).f0), .int .i64 ((rd_T105 x9_2 (ji30)).f1)]] (by rfl) rfl rfl (by (try simp only [List.map_toArray, List.map_cons, List.map_nil]); first | done | (simp only [hji30]; rfl) | rfl | (simp only [List.length_drop, List.length_take]; rfl)) ?_
           with_reducible refine (spec_l19Before.calls (wrap64 (((rd_T105 x5_1 x10_2).f0) - t235)) (wrap64 (((rd_T105 x5_1 x10_2).f1) - t236)) ((rd_T105 x9_2 (ji30)).f0) ((rd_T105 x9_2 (ji30)).f1) false _ A33.out).mono ?_
           rintro e w45 ⟨rfl, hb⟩
           have HS2_ := (hb.cell (World.block_lt_of_cell? _ _ (hHeld.2.2.1))).trans (hHeld.2.2.1)
           have HS3_ := (hb.cell (World.block_lt_of_cell? _ _ (hHeld.2.2.2))).trans (hHeld.2.2.2)
           refine ⟨_, rfl, ?_⟩
           replace HO_5 := mkA (Kd.R_below (r_ HO_5.out) hb)
           replace HO_9 := mkA (Kd.R_below (r_ HO_9.out) hb)
           replace BK239 := mkA (blk_below (bl_ BK239.out) hb)
           replace BK240 := mkA (blk_below (bl_ BK240.out) hb)
           replace BK246 := mkA (blk_below (bl_ BK246.out) hb)
           replace HB := mkA (below_step (bs3_ HB.out GE239.out GE240.out GE246.out) hb)
           (try clear hb)
           (try clear hb2)
           (try clear hk)
           (try clear hi)
           refine hK.out _ _ ⟨(blk_cell BK246.out 0).trans rfl, (blk_cell BK246.out 1).trans rfl, HS2_, HS3_⟩ (fun hHeld => ?_)
           clear hK K
           refine nm_ 76 ?_
           refine a1_ 10 77 (h := ?_)
           refine dn_ ?_
           try go_wp2_with (first | ((with_reducible refine gt_ 80 ?_); refine Kd.R_lit k105 _ 105 ?hg (N := 80) ?hd (xs := ([] : List (S105))) (inner := []) (ok := fun _ => True) (okp := fun _ => True) ?hr ?hp (fun _ hk => hk) trivial (Below.refl _ _) (Nat.le_refl _) (by simp) ?_; (case hd => rfl); (case hg => rfl); (case hr => first | (go_simp; done) | (go_simp; rfl)); (case hp => exact (Reps.none _ _)); intro v250 w46 ho47 hb hg_ hnew_; clear hg_ hnew_; (first | rw [← Ny249.out] at ho47 | (simp only [Int.reduceToNat] at ho47; rw [← Ny249.out] at ho47)); have HO251 := mkA (Kd.R_lower (Kd.R_newB (Kd.R_newB (Kd.R_newB (Kd.R_new' (Kd.R_new' ho47 (Kd.R_lt (r_ HO_5.out))) (Kd.R_lt (r_ HO_9.out))) (g := gb239) (o := .cells #[.int .i64 t235, .int .i64 t236] 105 (0, 0)) (bl_ BK239.out)) (g := gb240) (o := .cells #[.int .i64 t237, .int .i64 t238] 105 (0, 0)) (bl_ BK240.out)) (g := gb246) (o := .cells #[.int .i64 (wrap64 (((rd_T105 x5_1 x10_2).f0) - t235)), .int .i64 (wrap64 (((rd_T105 x5_1 x10_2).f1) - t236))] 105 (0, 0)) (bl_ BK246.out)) (below_size (bs3_ HB.out GE239.out GE240.out GE246.out))); replace HO_5 := mkA (Kd.R_elder' (r_ HO_5.out) (Kd.R_base ho47) hb); replace HO_9 := mkA (Kd.R_elder' (r_ HO_9.out) (Kd.R_base ho47) hb); replace BK239 := mkA (blk_below (bl_ BK239.out) hb); replace BK240 := mkA (blk_below (bl_ BK240.out) hb); replace BK246 := mkA (blk_below (bl_ BK246.out) hb); replace HB := mkA (below_step (bs3_ HB.out GE239.out GE240.out GE246.out) hb); clear hb ho47; have q48 : (x12_3 : Int) ≤ ((x9_2.length : Int) : Int) := dt_; obtain ⟨i048, hi048, _, hsz48, _⟩ := info_parts info105; have hroom48 : x9_2.length ≤ co28 := (Kd.R_reads' HO_9.out).2.1; have hC48 : Kd.C k105 _ (some ad247) x9_2.length x9_2 := (Kd.R_reads' HO_9.out).2.2; have hcut48 := cut_to (P := Try.prog) 51 105 .i64 Try.underlying51 hi048 (some ad247) x9_2.length co28 x12_3 (dt_) q48 hroom48; have hr48 := Kd.C_take (m := (x12_3 : Int).toNat) hC48 (by omega); have hy48 : y252.length = (x12_3 : Int).toNat := (by rw [Ny252.out, List.length_take]; omega); rw [← Ny252.out] at hr48; rw [← hy48] at hcut48; have HR255 := mkA hr48; have HC255 := mkA (show y252.length ≤ co28 from by omega); clear hr48 hC48 hroom48 hi048 hsz48; have KY48 := mkA hy48; clear hy48; have KL48 := mkA (show (x12_3 : Int).toNat ≤ x9_2.length from by omega); replace q48 := eq_true q48) | ((with_reducible refine gate_builtin (b := .append) (xs := #[.tmp 80, .tmp 83]) rfl ?_); at_builtin; refine Kd.R_append_rows k105 (w0 := w) w.heap.size rfl (.tmp 80) (.tmp 83) 51 105 (.agg #[(.int .i64 0), (.int .i64 0)]) 16 rfl Try.underlying51 info105 rfl (by decide) (by omega) v250 y249 y252 _ _ _ (fun k_ => some k_ ≠ (.slice (some ad244) x5_1.length co13 : Value).ownBlock ∧ some k_ ≠ (.slice (some ad247) x9_2.length co28 : Value).ownBlock ∧ k_ ≠ gb239 ∧ k_ ≠ gb240 ∧ k_ ≠ gb246) (fun _ => False) rfl rfl ?aO ?aR (fun _ _ h => h) (fun _ h => h.elim) ?aF ?aB ?aS ?aL ?_; (case aR => repeat (first | exact (by repeat (first | (with_reducible exact HR255.out) | (with_reducible refine Kd.C_alloc ?_ _) | (with_reducible refine Kd.C_drewN ?_ _) | (with_reducible refine Kd.C_drew ?_) | exact HR255.out)) | (with_reducible refine Kd.C_alloc ?_ _) | (with_reducible refine Kd.C_drewN ?_ _) | (with_reducible refine Kd.C_drew ?_))); (case aB => exact (bs3_ HB.out GE239.out GE240.out GE246.out)); (case aF => exact (fun k_ hk => ⟨Kd.fresh' (Kd.R_lt (r_ HO_5.out)) k_ hk, Kd.fresh' (Kd.R_lt (r_ HO_9.out)) k_ hk, Kd.freshB (g := gb239) (o := .cells #[.int .i64 t235, .int .i64 t236] 105 (0, 0)) (bl_ BK239.out) k_ hk, Kd.freshB (g := gb240) (o := .cells #[.int .i64 t237, .int .i64 t238] 105 (0, 0)) (bl_ BK240.out) k_ hk, Kd.freshB (g := gb246) (o := .cells #[.int .i64 (wrap64 (((rd_T105 x5_1 x10_2).f0) - t235)), .int .i64 (wrap64 (((rd_T105 x5_1 x10_2).f1) - t236))] 105 (0, 0)) (bl_ BK246.out) k_ hk⟩)); (case aO => exact (by refine r_ ?_; exact Kd.R_mono HO251.out (fun _ hk => ⟨hk.1.1.1.1.2, ⟨hk.1.1.1.2, ⟨hk.1.1.2, ⟨hk.1.2, hk.2⟩⟩⟩⟩))); (case aS => exact (below_size (bs3_ HB.out GE239.out GE240.out GE246.out))); (case aL => have := LMc39.out; omega); intro v257 w49 ho hb hg hat; rw [← Ny256.out] at ho; replace HO_5 := mkA (Kd.R_after (ok := (fun k_ => some k_ ≠ (.slice (some ad247) x9_2.length co28 : Value).ownBlock ∧ k_ ≠ gb239 ∧ k_ ≠ gb240 ∧ k_ ≠ gb246)) (r_ HO_5.out) hg hat); replace BK239 := mkA (blk_grown (g := gb239) (o := .cells #[.int .i64 t235, .int .i64 t236] 105 (0, 0)) (bl_ BK239.out) hg (Kd.R_away HO251.out (fun _ hk => hk.1.1.2))); replace BK240 := mkA (blk_grown (g := gb240) (o := .cells #[.int .i64 t237, .int .i64 t238] 105 (0, 0)) (bl_ BK240.out) hg (Kd.R_away HO251.out (fun _ hk => hk.1.2))); replace BK246 := mkA (blk_grown (g := gb246) (o := .cells #[.int .i64 (wrap64 (((rd_T105 x5_1 x10_2).f0) - t235)), .int .i64 (wrap64 (((rd_T105 x5_1 x10_2).f1) - t236))] 105 (0, 0)) (bl_ BK246.out) hg (Kd.R_away HO251.out (fun _ hk => hk.2))); replace HB := mkA (hb); replace HR255 := mkA ((show Kd.C k105 w49 (some ad247) y252.length y252 from by rw [Ny252.out]; exact Kd.C_take (m := (x12_3 : Int).toNat) ((Kd.R_reads' (Kd.R_after (ok := (fun k_ => some k_ ≠ (.slice (some ad244) x5_1.length co13 : Value).ownBlock ∧ k_ ≠ gb239 ∧ k_ ≠ gb240 ∧ k_ ≠ gb246)) (r_ HO_9.out) hg hat)).2.2) KL48.out)); replace HO_9 := mkA (Kd.R_after (ok := (fun k_ => some k_ ≠ (.slice (some ad244) x5_1.length co13 : Value).ownBlock ∧ k_ ≠ gb239 ∧ k_ ≠ gb240 ∧ k_ ≠ gb246)) (r_ HO_9.out) hg hat); have HO258 := mkA (ho); clear HO251; clear ho hb hg hat; have hnb50 := NB246_239.out; have hnc50 := NB239_246.out; have hnb51 := NB246_240.out; have hnc51 := NB240_246.out; obtain ⟨hcz52_0, hcz52_1, hfz52_0, hfz52_1⟩ := z2_ BK246.out) | ((with_reducible refine gate_builtin (b := .append) (xs := #[.tmp 85, .tmp 87]) rfl ?_); at_builtin; refine Kd.R_append k105 (w0 := w) w.heap.size rfl (.tmp 85) (.tmp 87) 51 105 (.agg #[(.int .i64 0), (.int .i64 0)]) 16 rfl Try.underlying51 info105 rfl (by decide) (by omega) v257 y256 (⟨(wrap64 (((rd_T105 x5_1 x10_2).f0) - t235)), (wrap64 (((rd_T105 x5_1 x10_2).f1) - t236))⟩ : S105) [.int .i64 (wrap64 (((rd_T105 x5_1 x10_2).f0) - t235)), .int .i64 (wrap64 (((rd_T105 x5_1 x10_2).f1) - t236))] (fun k_ => some k_ ≠ (.slice (some ad244) x5_1.length co13 : Value).ownBlock ∧ some k_ ≠ (.slice (some ad247) x9_2.length co28 : Value).ownBlock ∧ k_ ≠ gb239 ∧ k_ ≠ gb240 ∧ k_ ≠ gb246) (fun _ => False) rfl rfl ?aP (fun _ hk => hk.elim) ?aF ?aO ?aB ?aS ?aL ?_; (case aP => exact k105_mkM _ _ _ (⟨(wrap64 (((rd_T105 x5_1 x10_2).f0) - t235)), (wrap64 (((rd_T105 x5_1 x10_2).f1) - t236))⟩ : S105)); (case aB => exact (bs3_ HB.out GE239.out GE240.out GE246.out)); (case aF => exact (fun k_ hk => ⟨Kd.fresh' (Kd.R_lt (r_ HO_5.out)) k_ hk, Kd.fresh' (Kd.R_lt (r_ HO_9.out)) k_ hk, Kd.freshB (g := gb239) (o := .cells #[.int .i64 t235, .int .i64 t236] 105 (0, 0)) (bl_ BK239.out) k_ hk, Kd.freshB (g := gb240) (o := .cells #[.int .i64 t237, .int .i64 t238] 105 (0, 0)) (bl_ BK240.out) k_ hk, Kd.freshB (g := gb246) (o := .cells #[.int .i64 (wrap64 (((rd_T105 x5_1 x10_2).f0) - t235)), .int .i64 (wrap64 (((rd_T105 x5_1 x10_2).f1) - t236))] 105 (0, 0)) (bl_ BK246.out) k_ hk⟩)); (case aO => exact (r_ HO258.out)); (case aS => exact (below_size (bs3_ HB.out GE239.out GE240.out GE246.out))); (case aL => have := LMc40.out; omega); intro v260 w53 ho hb hg hat; rw [← Ny259.out] at ho; replace HO_5 := mkA (Kd.R_after (ok := (fun k_ => some k_ ≠ (.slice (some ad247) x9_2.length co28 : Value).ownBlock ∧ k_ ≠ gb239 ∧ k_ ≠ gb240 ∧ k_ ≠ gb246)) (r_ HO_5.out) hg hat); replace BK239 := mkA (blk_grown (g := gb239) (o := .cells #[.int .i64 t235, .int .i64 t236] 105 (0, 0)) (bl_ BK239.out) hg (Kd.R_away HO258.out (fun _ hk => hk.2.2.1))); replace BK240 := mkA (blk_grown (g := gb240) (o := .cells #[.int .i64 t237, .int .i64 t238] 105 (0, 0)) (bl_ BK240.out) hg (Kd.R_away HO258.out (fun _ hk => hk.2.2.2.1))); replace BK246 := mkA (blk_grown (g := gb246) (o := .cells #[.int .i64 (wrap64 (((rd_T105 x5_1 x10_2).f0) - t235)), .int .i64 (wrap64 (((rd_T105 x5_1 x10_2).f1) - t236))] 105 (0, 0)) (bl_ BK246.out) hg (Kd.R_away HO258.out (fun _ hk => hk.2.2.2.2))); replace HB := mkA (hb); replace HR255 := mkA ((show Kd.C k105 w53 (some ad247) y252.length y252 from by rw [Ny252.out]; exact Kd.C_take (m := (x12_3 : Int).toNat) ((Kd.R_reads' (Kd.R_after (ok := (fun k_ => some k_ ≠ (.slice (some ad244) x5_1.length co13 : Value).ownBlock ∧ k_ ≠ gb239 ∧ k_ ≠ gb240 ∧ k_ ≠ gb246)) (r_ HO_9.out) hg hat)).2.2) KL48.out)); replace HO_9 := mkA (Kd.R_after (ok := (fun k_ => some k_ ≠ (.slice (some ad244) x5_1.length co13 : Value).ownBlock ∧ k_ ≠ gb239 ∧ k_ ≠ gb240 ∧ k_ ≠ gb246)) (r_ HO_9.out) hg hat); have HO261 := mkA (ho); clear HO258; clear ho hb hg hat; have q54 : (x12_3 : Int) ≤ ((x9_2.length : Int) : Int) := dt_; obtain ⟨i054, hi054, _, hsz54, _⟩ := info_parts info105; have hroom54 : x9_2.length ≤ co28 := (Kd.R_reads' HO_9.out).2.1; have hC54 : Kd.C k105 _ (some ad247) x9_2.length x9_2 := (Kd.R_reads' HO_9.out).2.2; have q054 : (0 : Int) ≤ (x12_3 : Int) := dt_; have hcut54 := cut_from (P := Try.prog) 51 105 .i64 Try.underlying51 hi054 2 hsz54 (some ad247) x9_2.length co28 x12_3 q054 q54; have hr54 := Kd.C_drop (m := (x12_3 : Int).toNat) (c := co28) hC54 (by omega) hroom54; obtain ⟨A54, hA54⟩ : ∃ A1, A1 = (if co28 = (x12_3 : Int).toNat then (some ad247) else ((some ad247) : Option Addr).map (·.add ((x12_3 : Int).toNat * 2))) := ⟨_, rfl⟩; obtain ⟨c54, hc54⟩ : ∃ c1, c1 = co28 - (x12_3 : Int).toNat := ⟨_, rfl⟩; have hy54 : y262.length = x9_2.length - (x12_3 : Int).toNat := (by rw [Ny262.out, List.length_drop] <;> omega); rw [show (x9_2).drop (x12_3 : Int).toNat = y262 from Ny262.out.symm] at hr54; replace hr54 : Kd.C k105 _ A54 y262.length y262 := (by rw [hA54]; exact hr54); rw [← hy54, ← hA54, ← hc54] at hcut54; have HR265 := mkA hr54; have HC265 := mkA (show y262.length ≤ c54 from by rw [hy54, hc54]; exact Nat.sub_le_sub_right hroom54 _); clear hr54 hC54 hroom54 hi054 hsz54 hc54; have KY54 := mkA hy54; have KA54 := mkA hA54; clear hy54 hA54; have KL54 := mkA (show (x12_3 : Int).toNat ≤ x9_2.length from by omega); replace q54 := eq_true q54) | ((with_reducible refine gate_builtin (b := .append) (xs := #[.tmp 89, .tmp 92]) rfl ?_); at_builtin; refine Kd.R_append_rows k105 (w0 := w) w.heap.size rfl (.tmp 89) (.tmp 92) 51 105 (.agg #[(.int .i64 0), (.int .i64 0)]) 16 rfl Try.underlying51 info105 rfl (by decide) (by omega) v260 y259 y262 _ _ _ (fun k_ => some k_ ≠ (.slice (some ad244) x5_1.length co13 : Value).ownBlock ∧ some k_ ≠ (.slice (some ad247) x9_2.length co28 : Value).ownBlock ∧ k_ ≠ gb239 ∧ k_ ≠ gb240 ∧ k_ ≠ gb246) (fun _ => False) rfl rfl ?aO ?aR (fun _ _ h => h) (fun _ h => h.elim) ?aF ?aB ?aS ?aL ?_; (case aR => repeat (first | exact (by repeat (first | (with_reducible exact HR265.out) | (with_reducible refine Kd.C_alloc ?_ _) | (with_reducible refine Kd.C_drewN ?_ _) | (with_reducible refine Kd.C_drew ?_) | exact HR265.out)) | (with_reducible refine Kd.C_alloc ?_ _) | (with_reducible refine Kd.C_drewN ?_ _) | (with_reducible refine Kd.C_drew ?_))); (case aB => exact (bs3_ HB.out GE239.out GE240.out GE246.out)); (case aF => exact (fun k_ hk => ⟨Kd.fresh' (Kd.R_lt (r_ HO_5.out)) k_ hk, Kd.fresh' (Kd.R_lt (r_ HO_9.out)) k_ hk, Kd.freshB (g := gb239) (o := .cells #[.int .i64 t235, .int .i64 t236] 105 (0, 0)) (bl_ BK239.out) k_ hk, Kd.freshB (g := gb240) (o := .cells #[.int .i64 t237, .int .i64 t238] 105 (0, 0)) (bl_ BK240.out) k_ hk, Kd.freshB (g := gb246) (o := .cells #[.int .i64 (wrap64 (((rd_T105 x5_1 x10_2).f0) - t235)), .int .i64 (wrap64 (((rd_T105 x5_1 x10_2).f1) - t236))] 105 (0, 0)) (bl_ BK246.out) k_ hk⟩)); (case aO => exact (r_ HO261.out)); (case aS => exact (below_size (bs3_ HB.out GE239.out GE240.out GE246.out))); (case aL => have := LMc43.out; omega); intro v267 w55 ho hb hg hat; rw [← Ny266.out] at ho; replace HO_5 := mkA (Kd.R_after (ok := (fun k_ => some k_ ≠ (.slice (some ad247) x9_2.length co28 : Value).ownBlock ∧ k_ ≠ gb239 ∧ k_ ≠ gb240 ∧ k_ ≠ gb246)) (r_ HO_5.out) hg hat); replace BK239 := mkA (blk_grown (g := gb239) (o := .cells #[.int .i64 t235, .int .i64 t236] 105 (0, 0)) (bl_ BK239.out) hg (Kd.R_away HO261.out (fun _ hk => hk.2.2.1))); replace BK240 := mkA (blk_grown (g := gb240) (o := .cells #[.int .i64 t237, .int .i64 t238] 105 (0, 0)) (bl_ BK240.out) hg (Kd.R_away HO261.out (fun _ hk => hk.2.2.2.1))); replace BK246 := mkA (blk_grown (g := gb246) (o := .cells #[.int .i64 (wrap64 (((rd_T105 x5_1 x10_2).f0) - t235)), .int .i64 (wrap64 (((rd_T105 x5_1 x10_2).f1) - t236))] 105 (0, 0)) (bl_ BK246.out) hg (Kd.R_away HO261.out (fun _ hk => hk.2.2.2.2))); replace HB := mkA (hb); replace HR255 := mkA ((show Kd.C k105 w55 (some ad247) y252.length y252 from by rw [Ny252.out]; exact Kd.C_take (m := (x12_3 : Int).toNat) ((Kd.R_reads' (Kd.R_after (ok := (fun k_ => some k_ ≠ (.slice (some ad244) x5_1.length co13 : Value).ownBlock ∧ k_ ≠ gb239 ∧ k_ ≠ gb240 ∧ k_ ≠ gb246)) (r_ HO_9.out) hg hat)).2.2) KL48.out)); replace HR265 := mkA ((show Kd.C k105 w55 A54 y262.length y262 from by rw [Ny262.out, KA54.out]; exact Kd.C_drop (m := (x12_3 : Int).toNat) (c := co28) ((Kd.R_reads' (Kd.R_after (ok := (fun k_ => some k_ ≠ (.slice (some ad244) x5_1.length co13 : Value).ownBlock ∧ k_ ≠ gb239 ∧ k_ ≠ gb240 ∧ k_ ≠ gb246)) (r_ HO_9.out) hg hat)).2.2) KL54.out ((Kd.R_reads' (Kd.R_after (ok := (fun k_ => some k_ ≠ (.slice (some ad244) x5_1.length co13 : Value).ownBlock ∧ k_ ≠ gb239 ∧ k_ ≠ gb240 ∧ k_ ≠ gb246)) (r_ HO_9.out) hg hat)).2.1))); replace HO_9 := mkA (Kd.R_after (ok := (fun k_ => some k_ ≠ (.slice (some ad244) x5_1.length co13 : Value).ownBlock ∧ k_ ≠ gb239 ∧ k_ ≠ gb240 ∧ k_ ≠ gb246)) (r_ HO_9.out) hg hat); have HO268 := mkA (ho); clear HO261; clear ho hb hg hat))
           go_roundg k3
           case measure => have := HK1.out; have := HK2.out; have := HK3.out; omega
           case rel => exact ⟨(y266), (wrap64 (x10_2 + 1)), rf_, H', ⟨on3_ HK1.out HK2.out HK3.out⟩, ⟨by refine r_ ?_; exact Kd.R_mono HO_5.out (fun _ hk => ⟨hk.2, ⟨hk.1.2.1, hk.1.2.2.1⟩⟩)⟩, ⟨by refine r_ ?_; exact Kd.R_mono HO268.out (fun _ hk => ⟨hk.1, ⟨hk.2.2.1, hk.2.2.2.1⟩⟩)⟩, ⟨bl_ BK239.out⟩, ⟨bl_ BK240.out⟩, ⟨bs3_ HB.out GE239.out GE240.out GE246.out⟩⟩
end Go.Proofs.Ytakagkflgkoiiaa.GFnExactFirstUncovered

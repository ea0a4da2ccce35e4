-- Written by the session's own program (gen.py) out of the translation's print. Lean checks it.
import Derived.Test.YtakagkflgkoiiaaQ
import Derived.Test.YtakagkflgkoiiaaGFnExactIsCoverx0
import Derived.Test.YtakagkflgkoiiaaGFnExactIsCoverx7
import Derived.Test.YtakagkflgkoiiaaGFnExactIsCoverx8
import Derived.Test.YtakagkflgkoiiaaGFnExactIsCoverx11
namespace Go.Proofs.Ytakagkflgkoiiaa.GFnExactIsCover
open Go.RowKit Go.Proofs.YtakagkflgkoiiaaW.PrintWords Go.Proofs.YtakagkflgkoiiaaW.PrintLast Go.Proofs.YtakagkflgkoiiaaW.PrintMore
open List renaming setIfInBounds_toArray → sA, set_cons_zero → sB, set_cons_succ → sC
open Go.Proofs.YtakagkflgkoiiaaW.PrintWords.Aside0 renaming mk → mkA
open Go.Proofs.YtakagkflgkoiiaaX (dt_ bc_ p0_ p1_ bl_ cb_ bs0_ bs1_ bs2_ bs3_ bs4_ bs5_ bs6_ bs7_ bs8_ bs9_ bs10_ bs11_ bs12_)
open Go.Proofs.YtakagkflgkoiiaaQ
attribute [local go_sem] max2_int min2_int max_two min_two max_three min_three max_four min_four 
set_option linter.unusedVariables false
set_option linter.unusedSimpArgs false

/-! ### spec_l19Turned: function 95 -/
mutual
def spec_l19Turned.l0 : Nat → Int → List (S105) → Int → List (S53) → Option ((List (S105)))
  | 0, _, _, _, _ => none
  | k + 1, x1, x5, x6, x960 => if 0 < (x960.length : Int) then (if x6 < (((rd_T53 x960 0).f1).length : Int) then (if 0 ≤ x6 then ((spec_l02Turned.f k ((rd_T105 ((rd_T53 x960 0).f1) x6).f0) ((rd_T105 ((rd_T53 x960 0).f1) x6).f1) x1).bind fun bt247 => (if x5.length < 8796093022208 then (spec_l19Turned.l0 k x1 (x5 ++ [(⟨bt247.1, bt247.2⟩ : S105)]) (wrap64 (x6 + 1)) x960) else (none))) else (none)) else ((spec_l03Bounds.f k x5).bind fun bt252 => (spec_l19Turned.l1 k x5 (([] : List (S105))) 0 bt252.1 bt252.2.1))) else (none)
def spec_l19Turned.l1 : Nat → List (S105) → List (S105) → Int → Int → Int → Option ((List (S105)))
  | 0, _, _, _, _, _ => none
  | k + 1, x5, x9, x10, x257000, x257001 => if x10 < (x5.length : Int) then (if 0 ≤ x10 then (spec_l19Turned.l2 k x5 x9 x10 (x9.length : Int) x257000 x257001 (wrap64 (((rd_T105 x5 x10).f0) - x257000)) (wrap64 (((rd_T105 x5 x10).f1) - x257001))) else (none)) else (some x9)
def spec_l19Turned.l2 : Nat → List (S105) → List (S105) → Int → Int → Int → Int → Int → Int → Option ((List (S105)))
  | 0, _, _, _, _, _, _, _, _ => none
  | k + 1, x5, x9, x10, x12, x257000, x257001, x264000, x264001 => if x12 > 0 then (if 0 ≤ (wrap64 (x12 - 1)) then (if (wrap64 (x12 - 1)) < (x9.length : Int) then ((spec_l19Before.f x264000 x264001 ((rd_T105 x9 (wrap64 (x12 - 1))).f0) ((rd_T105 x9 (wrap64 (x12 - 1))).f1)).bind fun t265 => (if t265 = true then (spec_l19Turned.l2 k x5 x9 x10 (wrap64 (x12 - 1)) x257000 x257001 x264000 x264001) else ((some (([] : List (S105)) : List (S105))).bind fun y266 => (if 0 ≤ x12 then (if x12 ≤ (x9.length : Int) then ((some (x9.take (x12 : Int).toNat : List (S105))).bind fun y269 => (if y266.length + y269.length < 8796093022208 then ((some (y266 ++ y269 : List (S105))).bind fun y273 => (if y273.length < 8796093022208 then ((some (y273 ++ [(⟨x264000, x264001⟩ : S105)] : List (S105))).bind fun y276 => ((some (x9.drop (x12 : Int).toNat : List (S105))).bind fun y279 => (if y276.length + y279.length < 8796093022208 then (spec_l19Turned.l1 k x5 (y276 ++ y279) (wrap64 (x10 + 1)) x257000 x257001) else (none)))) else (none))) else (none))) else (none)) else (none))))) else (none)) else (none)) else ((some (([] : List (S105)) : List (S105))).bind fun y286 => (if 0 ≤ x12 then (if x12 ≤ (x9.length : Int) then ((some (x9.take (x12 : Int).toNat : List (S105))).bind fun y289 => (if y286.length + y289.length < 8796093022208 then ((some (y286 ++ y289 : List (S105))).bind fun y293 => (if y293.length < 8796093022208 then ((some (y293 ++ [(⟨x264000, x264001⟩ : S105)] : List (S105))).bind fun y296 => ((some (x9.drop (x12 : Int).toNat : List (S105))).bind fun y299 => (if y296.length + y299.length < 8796093022208 then (spec_l19Turned.l1 k x5 (y296 ++ y299) (wrap64 (x10 + 1)) x257000 x257001) else (none)))) else (none))) else (none))) else (none)) else (none)))
end
def spec_l19Turned.f (k : Nat) (l0 : List (S53)) (a1 : Int) : Option ((List (S105))) := spec_l19Turned.l0 k a1 (([] : List (S105))) 0 l0
def spec_l19Turned.T11 : Bool × List (List Nat × List Nat) := (true, [([], []), ([], []), ([0, 1], [0, 1]), ([2], [2]), ([3], [3]), ([], []), ([5], [5]), ([4, 6], [4, 6]), ([], []), ([], []), ([8, 9], [8, 9]), ([10], [10]), ([11], [11]), ([], []), ([13], [13]), ([12, 14], [12, 14]), ([7, 15], [7, 15]), ([], []), ([17, 16, 0, 1, 2, 3, 4, 5, 6, 7, 8, 9, 10, 11, 12, 13, 14, 15, 16, 17], [16, 17])])
def spec_l19Turned.B11 : List Nat := [0, 0, 3, 7, 15, 0, 32, 127, 0, 0, 768, 1792, 3840, 0, 8192, 32512, 65535, 0, 262143]
theorem spec_l19Turned.tab11 : rtab .any (opsOf Try.f95 11) = spec_l19Turned.T11 := by kernel_rfl
theorem spec_l19Turned.bits11 : waitsOk spec_l19Turned.T11.2 spec_l19Turned.B11 = true := by kernel_rfl
def spec_l19Turned.T13 : Bool × List (List Nat × List Nat) := (true, [([], []), ([0], [0]), ([1], [1]), ([2], [2]), ([2], [2]), ([2], [2]), ([5, 2], [2, 5]), ([4, 6, 2], [2, 4, 6]), ([7, 2], [2, 7]), ([3, 8, 2, 2], [2, 3, 8]), ([2, 9], [2, 9])])
def spec_l19Turned.B13 : List Nat := [0, 1, 3, 7, 7, 7, 39, 119, 247, 511, 1023]
theorem spec_l19Turned.tab13 : rtab .any (opsOf Try.f95 13) = spec_l19Turned.T13 := by kernel_rfl
theorem spec_l19Turned.bits13 : waitsOk spec_l19Turned.T13.2 spec_l19Turned.B13 = true := by kernel_rfl
set_option maxHeartbeats 8000000 in
set_option maxRecDepth 100000 in
theorem spec_l19Turned.calls (k : Nat) (A0 : Option Addr) (l0 : List (S53)) (a1 : Int) (r : List (S105)) (w : World) (hr0 : Kd.C k53 w A0 l0.length l0) (h : spec_l19Turned.f k l0 a1 = some r) :
 Calls Try.prog 95 #[.pointer A0, .int .i64 a1] w fun e w' => ∃ v0_ : Value, e = .returned (v0_) ∧ Kd.R k105 105 w' w.heap.size (fun _ => True) v0_ r ∧ Below w.heap.size w w' := by
 have hu105 := Try.underlying105
 have HR0 := mkA hr0
 clear hr0
 have HB := mkA (Below.refl w.heap.size w)
 unfold spec_l19Turned.f at h
 have H := h
 clear h
 obtain ⟨y241, hy241⟩ := gy_ (([] : List (S105)) : List (S105))
 replace H : (spec_l19Turned.l0 k a1 y241 0 l0) = some r := hs_ H hy241
 have Ny241 := mkA hy241
 clear hy241
 have H' := mkA H
 clear H
 go_enter Try.func95, Try.ntmps95
 go_wp2_with (first | ((with_reducible refine gt_ 14 ?_); refine Kd.R_lit k105 _ 105 ?hg (N := 14) ?hd (xs := ([] : List (S105))) (inner := []) (ok := fun _ => True) (okp := fun _ => True) ?hr ?hp (fun _ hk => hk) trivial (Below.refl _ _) (Nat.le_refl _) (by simp) ?_; (case hd => rfl); (case hg => rfl); (case hr => first | (go_simp; done) | (go_simp; rfl)); (case hp => exact (Reps.none _ _)); intro v242 w3 ho4 hb hg_ hnew_; clear hg_ hnew_; (first | rw [← Ny241.out] at ho4 | (simp only [Int.reduceToNat] at ho4; rw [← Ny241.out] at ho4)); have HO243 := mkA (Kd.R_lower ho4 (below_size (bs0_ HB.out))); replace HB := mkA (below_step (bs0_ HB.out) hb); clear hb ho4))
 go_loopg [5, 6] k (fun kq v5 v6 w' => ∃ (x5_1 : List (S105)) (x6_1 : Int), v6 = .int .i64 x6_1 ∧ Aside0 (spec_l19Turned.l0 kq a1 x5_1 x6_1 l0 = some r) ∧ Aside0 (kq ≤ k) ∧ Aside0 (Kd.R k105 105 w' w.heap.size (fun _ => True) v5 x5_1) ∧ Aside0 (Below w.heap.size w w'))
 case atStart => exact ⟨(y241), (0), rf_, H', ⟨Nat.le_refl _⟩, ⟨r_ HO243.out⟩, ⟨bs0_ HB.out⟩⟩
 case round =>
  clear H'
  obtain ⟨x5_1, x6_1, rfl, HA, HK1, HO_5, HB⟩ := hrel
  cases gk with
  | zero => exact absurd HA.out (by simp [spec_l19Turned.l0])
  | succ k1 =>
   have H := HA.out
   clear HA
   simp only [spec_l19Turned.l0] at H
   revert H
   refine ng_ fun c5 => ?_
   intro H
   have c5b0 := decide_eq_true c5
   have c5b1 : decide (0 < l0.length) = true := decide_eq_true (by omega)
   clear c5
   by_cases c6 : x6_1 < (((rd_T53 l0 0).f1).length : Int)
   · rw [if_pos c6] at H
     have c6b0 := decide_eq_true c6
     clear c6
     revert H
     refine ng_ fun c7 => ob_ fun t_ A8 => ?_
     intro H
     have c7b0 := decide_eq_true c7
     clear c7
     obtain ⟨t247, t248⟩ := t_
     try dsimp only at H
     revert H
     refine ng_ fun c9 => ?_
     intro H
     have LMc9 := mkA c9
     clear c9
     obtain ⟨y249, hy249⟩ := gy_ (x5_1 ++ [(⟨t247, t248⟩ : S105)] : List (S105))
     rw [← hy249] at H
     (try with_reducible replace H := bso_ H)
     have Ny249 := mkA hy249
     clear hy249
     have H' := mkA H
     clear H
     obtain ⟨ad244, A244_1, c244_1, e244, hx244_0, hx244_1, hx244_2, hx244_3, hl244_1, hi244_1⟩ := at0_T53 HR0.out dt_
     cases e244
     have HR244_1 := mkA hi244_1
     have HC244_1 := mkA hl244_1
     clear hi244_1 hl244_1
     obtain ⟨hx244_0, hx244_1, hx244_2, hx244_3⟩ := b4_ HB.out hx244_0 hx244_1 hx244_2 hx244_3
     have p244 : (0 ≤ (0 : Int)) = True := eq_true (by omega)
     have q244 : (0 < (l0.length : Int)) = True := eq_true dt_
     have qi244 := qn_ q244
     obtain ⟨ad245, A245_1, c245_1, e245, hx245_0, hx245_1, hx245_2, hx245_3, hl245_1, hi245_1⟩ := at0_T53 HR0.out dt_
     obtain rfl : ad244 = ad245 := (by injection e245)
     have HR245_1 := mkA hi245_1
     have HC245_1 := mkA hl245_1
     clear hi245_1 hl245_1
     obtain ⟨hx245_0, hx245_1, hx245_2, hx245_3⟩ := b4_ HB.out hx245_0 hx245_1 hx245_2 hx245_3
     have p245 : (0 ≤ (0 : Int)) = True := eq_true (by omega)
     have q245 : (0 < (l0.length : Int)) = True := eq_true dt_
     have qi245 := qn_ q245
     have ea_ := Option.some.inj (hx244_1.symm.trans hx245_1)
     injection ea_ with ea_ en_ ec_
     subst ea_
     subst ec_
     clear en_
     obtain ⟨ad246, e246, hx246_0, hx246_1⟩ := at_T105 HR245_1.out x6_1 dt_ dt_
     cases e246
     obtain ⟨hx246_0, hx246_1⟩ := b2_ HB.out hx246_0 hx246_1
     have p246 : (0 ≤ (x6_1 : Int)) = True := eq_true dt_
     have q246 : (x6_1 < (((rd_T53 l0 0).f1).length : Int)) = True := eq_true dt_
     go_wp2_with (first | ((with_reducible refine gk_ 110 ?_); refine gl_ (some 33) Try.func110 #[.agg #[.int .i64 ((rd_T105 ((rd_T53 l0 0).f1) x6_1).f0), .int .i64 ((rd_T105 ((rd_T53 l0 0).f1) x6_1).f1)], .int .i64 a1] ?_; (with_reducible refine (spec_l02Turned.calls k1 ((rd_T105 ((rd_T53 l0 0).f1) x6_1).f0) ((rd_T105 ((rd_T53 l0 0).f1) x6_1).f1) a1 t247 t248 _ A8.out).mono ?_); rintro e w10 ⟨rfl, hb⟩; refine ⟨_, rfl, ?_⟩; replace HO_5 := mkA (Kd.R_below (r_ HO_5.out) hb); replace HB := mkA (below_step (bs0_ HB.out) hb); (try clear hb); (try clear hb2); (try clear hk); (try clear hi)) | ((with_reducible refine gate_builtin (b := .append) (xs := #[.tmp 24, .tmp 34]) rfl ?_); at_builtin; refine Kd.R_append k105 (w0 := w) w.heap.size rfl (.tmp 24) (.tmp 34) 51 105 (.agg #[(.int .i64 0), (.int .i64 0)]) 16 rfl Try.underlying51 info105 rfl (by decide) (by omega) u5 x5_1 (⟨t247, t248⟩ : S105) [.int .i64 t247, .int .i64 t248] (fun _ => True) (fun _ => False) rfl rfl ?aP (fun _ hk => hk.elim) ?aF ?aO ?aB ?aS ?aL ?_; (case aP => exact k105_mkM _ _ _ (⟨t247, t248⟩ : S105)); (case aB => exact (bs0_ HB.out)); (case aF => exact (fun _ _ => trivial)); (case aO => exact (r_ HO_5.out)); (case aS => exact (below_size (bs0_ HB.out))); (case aL => have := LMc9.out; omega); intro v250 w11 ho hb hg hat; rw [← Ny249.out] at ho; replace HB := mkA (hb); have HO251 := mkA (ho); clear HO_5; clear ho hb hg hat))
     go_roundg k1
     case measure => have := HK1.out; omega
     case rel => exact ⟨(y249), (wrap64 (x6_1 + 1)), rf_, H', ⟨om_ HK1.out⟩, ⟨r_ HO251.out⟩, ⟨bs0_ HB.out⟩⟩
   · rw [if_neg c6] at H
     have c6b0 := decide_eq_false c6
     clear c6
     revert H
     refine ob_ fun t_ A12 => ?_
     intro H
     obtain ⟨t252, t253, t254, t255⟩ := t_
     try dsimp only at H
     obtain ⟨y258, hy258⟩ := gy_ (([] : List (S105)) : List (S105))
     replace H : (spec_l19Turned.l1 k1 x5_1 y258 0 t252 t253) = some r := hs_ H hy258
     have Ny258 := mkA hy258
     clear hy258
     have H' := mkA H
     clear H
     obtain ⟨ad244, A244_1, c244_1, e244, hx244_0, hx244_1, hx244_2, hx244_3, hl244_1, hi244_1⟩ := at0_T53 HR0.out dt_
     cases e244
     have HR244_1 := mkA hi244_1
     have HC244_1 := mkA hl244_1
     clear hi244_1 hl244_1
     obtain ⟨hx244_0, hx244_1, hx244_2, hx244_3⟩ := b4_ HB.out hx244_0 hx244_1 hx244_2 hx244_3
     have p244 : (0 ≤ (0 : Int)) = True := eq_true (by omega)
     have q244 : (0 < (l0.length : Int)) = True := eq_true dt_
     have qi244 := qn_ q244
     obtain ⟨Ao13, co13, eo13⟩ := Kd.R_slice HO_5.out
     subst eo13
     go_wp2_with (first | ((with_reducible refine gk_ 93 ?_); refine gl_ (some 38) Try.func93 #[.slice Ao13 x5_1.length co13] ?_; (with_reducible refine (spec_l03Bounds.calls k1 _ _ x5_1 t252 t253 t254 t255 _ ?side1 ?side2 A12.out).mono ?_); (case side1 => repeat (first | exact (Kd.R_reads' HO_5.out).2.2 | (with_reducible refine Kd.C_alloc ?_ _) | (with_reducible refine Kd.C_drewN ?_ _) | (with_reducible refine Kd.C_drew ?_))); (case side2 => exact (Kd.R_reads' HO_5.out).2.1); rintro e w14 ⟨rfl, hb⟩; refine ⟨_, rfl, ?_⟩; replace HO_5 := mkA (Kd.R_below (r_ HO_5.out) hb); replace HB := mkA (below_step (bs0_ HB.out) hb); (try clear hb); (try clear hb2); (try clear hk); (try clear hi)) | ((with_reducible refine gt_ 7 ?_); refine bx_ 7 #[.int .i64 0, .int .i64 0] 105 fun gb256 hg w15 hbox hb => ?_; replace HO_5 := mkA (Kd.R_below (Kd.R_elderB (r_ HO_5.out) gb256 (Nat.le_of_eq hg.symm)) hb); have BK256 := mkA (hbox); have GW256 := gs_ hg (bs0_ HB.out); have GE256 := GW256; replace HB := mkA (below_step (bs0_ HB.out) hb); clear hb hbox hg) | ((with_reducible refine gt_ 8 ?_); refine bx_ 8 #[.int .i64 0, .int .i64 0] 105 fun gb257 hg w16 hbox hb => ?_; replace HO_5 := mkA (Kd.R_below (Kd.R_elderB (r_ HO_5.out) gb257 (Nat.le_of_eq hg.symm)) hb); have BK257 := mkA (hbox); have GW257 := gs_ hg (bs1_ HB.out GE256.out); have GE257 := GW257; replace HB := mkA (below_step (bs1_ HB.out GE256.out) hb); have NB256_257 := nl_ hg (bl_ BK256.out); have NB257_256 := nr_ hg (bl_ BK256.out); replace BK256 := mkA (blk_below (bl_ BK256.out) hb); clear hb hbox hg; have hnb17 := NB256_257.out; have hnc17 := NB257_256.out; obtain ⟨hcz18_0, hcz18_1, hfz18_0, hfz18_1⟩ := z2_ BK256.out; obtain ⟨hcz19_0, hcz19_1, hfz19_0, hfz19_1⟩ := z2_ BK257.out) | ((with_reducible refine gt_ 41 ?_); refine Kd.R_lit k105 _ 105 ?hg (N := 41) ?hd (xs := ([] : List (S105))) (inner := []) (ok := fun _ => True) (okp := fun _ => True) ?hr ?hp (fun _ hk => hk) trivial (Below.refl _ _) (Nat.le_refl _) (by simp) ?_; (case hd => rfl); (case hg => rfl); (case hr => first | (go_simp; done) | (go_simp; rfl)); (case hp => exact (Reps.none _ _)); intro v259 w20 ho21 hb hg_ hnew_; clear hg_ hnew_; (first | rw [← Ny258.out] at ho21 | (simp only [Int.reduceToNat] at ho21; rw [← Ny258.out] at ho21)); have HO260 := mkA (Kd.R_lower (Kd.R_newB (Kd.R_newB (Kd.R_new' ho21 (Kd.R_lt (by refine r_ ?_; exact (Kd.R_mono (Kd.R_mono (Kd.R_far (p := ⟨gb257, 1, none⟩) (Kd.R_far (p := ⟨gb257, 0, none⟩) (Kd.R_far (p := ⟨gb256, 1, none⟩) (Kd.R_far (p := ⟨gb256, 0, none⟩) (Kd.R_mono (Kd.R_mono HO_5.out (fun k_ hk => (⟨hk, hk.1.2⟩ : _ ∧ k_ ≠ gb256))) (fun k_ hk => (⟨hk, hk.1.2⟩ : _ ∧ k_ ≠ gb257))) (fun _ hk => hk.1.2) (.int .i64 t252)) (fun _ hk => hk.1.2) (.int .i64 t253)) (fun _ hk => hk.2) (.int .i64 t254)) (fun _ hk => hk.2) (.int .i64 t255)) (fun _ h_ => h_.1)) (fun _ h_ => h_.1))))) (g := gb256) (o := .cells #[.int .i64 t252, .int .i64 t253] 105 (0, 0)) (by refine bl_ ?_; refine blk_far ?_ NB256_257.out _; refine bl_ ?_; refine blk_far ?_ NB256_257.out _; refine bl_ ?_; refine blk_put (cs := #[.int .i64 t252, .int .i64 0]) ?_ 1 _ rfl; refine bl_ ?_; refine blk_put (cs := #[.int .i64 0, .int .i64 0]) ?_ 0 _ rfl; refine bl_ ?_; exact BK256.out)) (g := gb257) (o := .cells #[.int .i64 t254, .int .i64 t255] 105 (0, 0)) (by refine bl_ ?_; refine blk_put (cs := #[.int .i64 t254, .int .i64 0]) ?_ 1 _ rfl; refine bl_ ?_; refine blk_put (cs := #[.int .i64 0, .int .i64 0]) ?_ 0 _ rfl; refine bl_ ?_; refine blk_far ?_ NB257_256.out _; refine bl_ ?_; refine blk_far ?_ NB257_256.out _; refine bl_ ?_; exact BK257.out)) (below_size (bs2_ HB.out GE256.out GE257.out))); replace HO_5 := mkA (Kd.R_elder' (by refine r_ ?_; exact (Kd.R_mono (Kd.R_mono (Kd.R_far (p := ⟨gb257, 1, none⟩) (Kd.R_far (p := ⟨gb257, 0, none⟩) (Kd.R_far (p := ⟨gb256, 1, none⟩) (Kd.R_far (p := ⟨gb256, 0, none⟩) (Kd.R_mono (Kd.R_mono HO_5.out (fun k_ hk => (⟨hk, hk.1.2⟩ : _ ∧ k_ ≠ gb256))) (fun k_ hk => (⟨hk, hk.1.2⟩ : _ ∧ k_ ≠ gb257))) (fun _ hk => hk.1.2) (.int .i64 t252)) (fun _ hk => hk.1.2) (.int .i64 t253)) (fun _ hk => hk.2) (.int .i64 t254)) (fun _ hk => hk.2) (.int .i64 t255)) (fun _ h_ => h_.1)) (fun _ h_ => h_.1))) (Kd.R_base ho21) hb); replace BK256 := mkA (blk_below (g := gb256) (o := .cells #[.int .i64 t252, .int .i64 t253] 105 (0, 0)) (by refine bl_ ?_; refine blk_far ?_ NB256_257.out _; refine bl_ ?_; refine blk_far ?_ NB256_257.out _; refine bl_ ?_; refine blk_put (cs := #[.int .i64 t252, .int .i64 0]) ?_ 1 _ rfl; refine bl_ ?_; refine blk_put (cs := #[.int .i64 0, .int .i64 0]) ?_ 0 _ rfl; refine bl_ ?_; exact BK256.out) hb); replace BK257 := mkA (blk_below (g := gb257) (o := .cells #[.int .i64 t254, .int .i64 t255] 105 (0, 0)) (by refine bl_ ?_; refine blk_put (cs := #[.int .i64 t254, .int .i64 0]) ?_ 1 _ rfl; refine bl_ ?_; refine blk_put (cs := #[.int .i64 0, .int .i64 0]) ?_ 0 _ rfl; refine bl_ ?_; refine blk_far ?_ NB257_256.out _; refine bl_ ?_; refine blk_far ?_ NB257_256.out _; refine bl_ ?_; exact BK257.out) hb); replace HB := mkA (below_step (bs2_ HB.out GE256.out GE257.out) hb); clear hb ho21))
     go_loopg [9, 10] k1 (fun kq v9 v10 w' => ∃ (x9_2 : List (S105)) (x10_2 : Int), v10 = .int .i64 x10_2 ∧ Aside0 (spec_l19Turned.l1 kq x5_1 x9_2 x10_2 t252 t253 = some r) ∧ Aside0 (kq ≤ k1) ∧ Aside0 (Kd.R k105 105 w' w.heap.size (fun k_ => some k_ ≠ (v9 : Value).ownBlock ∧ k_ ≠ gb256 ∧ k_ ≠ gb257) (.slice Ao13 x5_1.length co13) x5_1) ∧ Aside0 (Kd.R k105 105 w' w.heap.size (fun k_ => some k_ ≠ ((.slice Ao13 x5_1.length co13) : Value).ownBlock ∧ k_ ≠ gb256 ∧ k_ ≠ gb257) v9 x9_2) ∧ Aside0 (w'.heap[gb256]? = some (.cells #[.int .i64 t252, .int .i64 t253] 105 (0, 0))) ∧ Aside0 (w'.heap[gb257]? = some (.cells #[.int .i64 t254, .int .i64 t255] 105 (0, 0))) ∧ Aside0 (Below w.heap.size w w'))
     case atStart => exact ⟨(y258), (0), rf_, H', ⟨Nat.le_refl _⟩, ⟨by refine r_ ?_; exact Kd.R_mono HO_5.out (fun _ hk => ⟨hk.2, ⟨hk.1.1.2, hk.1.2⟩⟩)⟩, ⟨by refine r_ ?_; exact Kd.R_mono HO260.out (fun _ hk => ⟨hk.1.1.2, ⟨hk.1.2, hk.2⟩⟩)⟩, ⟨bl_ BK256.out⟩, ⟨bl_ BK257.out⟩, ⟨bs2_ HB.out GE256.out GE257.out⟩⟩
     case round =>
      clear H'
      try clear c5 c5b0 c5b1 c6 c6b0 c7 c7b0 c9
      try clear hcz18_0 hcz18_1 hcz19_0 hcz19_1
      try clear hfz18_0 hfz18_1 hfz19_0 hfz19_1
      try clear hx244_0 hx244_1 hx244_2 hx244_3 hx245_0 hx245_1 hx245_2 hx245_3 hx246_0 hx246_1
      try clear p244 p245 p246
      try clear q244 q245 q246
      obtain ⟨x9_2, x10_2, rfl, HA, HK2, HO_5, HO_9, BK256, BK257, HB⟩ := hrel
      cases gk with
      | zero => exact absurd HA.out (by simp [spec_l19Turned.l1])
      | succ k2 =>
       have H := HA.out
       clear HA
       simp only [spec_l19Turned.l1] at H
       by_cases c22 : x10_2 < (x5_1.length : Int)
       rotate_left
       · rw [if_neg c22] at H
         have c22b0 := decide_eq_false c22
         clear c22
         obtain rfl := Option.some.inj H
         go_wp2
         go_ret
         exact ⟨_, re_, by refine r_ ?_; exact Kd.R_mono HO_9.out (fun _ hk => trivial), bs2_ HB.out GE256.out GE257.out⟩
       rw [if_pos c22] at H
       have c22b0 := decide_eq_true c22
       clear c22
       revert H
       refine ng_ fun c23 => ?_
       intro H
       have c23b0 := decide_eq_true c23
       clear c23
       have H' := mkA H
       clear H
       try go_wp2
       replace HO_5 := mkA (Kd.R_drew HO_5.out)
       replace HO_9 := mkA (Kd.R_drew HO_9.out)
       replace BK256 := mkA (blk_drew BK256.out)
       replace BK257 := mkA (blk_drew BK257.out)
       replace HB := mkA (below_drew1 HB.out)
       obtain ⟨ad261, e261, hx261_0, hx261_1⟩ := at_T105 (Kd.R_reads' HO_5.out).2.2 x10_2 dt_ dt_
       cases e261
       have p261 : (0 ≤ (x10_2 : Int)) = True := eq_true dt_
       have q261 : (x10_2 < (x5_1.length : Int)) = True := eq_true dt_
       obtain ⟨ad262, e262, hx262_0, hx262_1⟩ := at_T105 (Kd.R_reads' HO_5.out).2.2 x10_2 dt_ dt_
       obtain rfl : ad261 = ad262 := (by injection e262)
       have p262 : (0 ≤ (x10_2 : Int)) = True := eq_true dt_
       have q262 : (x10_2 < (x5_1.length : Int)) = True := eq_true dt_
       refine st_ 19 (fun w' => w'.cell? ⟨gb256, 0, none⟩ = some (.int .i64 t252) ∧ w'.cell? ⟨gb256, 1, none⟩ = some (.int .i64 t253) ∧ C_ hx261_0 w' ∧ C_ hx261_1 w' ∧ C_ hx262_0 w' ∧ C_ hx262_1 w') [] spec_l19Turned.tab11 spec_l19Turned.bits11 sp_ fun hHeld HT_ HW_ => ?_
       generalize wr.drew = w24 at HO_5 HO_9 BK256 BK257 HB hx261_0 hx261_1 hx262_0 hx262_1 hHeld ⊢
       refine a1_ 0 48 (h := a1_ 1 49 (h := a1_ 2 50 (h := a1_ 3 51 (h := a1_ 5 53 (h := a1_ 8 56 (h := a1_ 9 57 (h := a1_ 10 58 (h := a1_ 11 59 (h := a1_ 13 61 (h := tk_ 4 52 (h := tk_ 6 54 (h := a1_ 7 55 (h := tk_ 12 60 (h := tk_ 14 62 (h := a1_ 15 63 (h := a1_ 16 64 (h := ?_)))))))))))))))))
       refine on_ 17 11 fun K hK => ?_
       refine box_step ?hg (N := 11) ?hd (cs := #[.int .i64 0, .int .i64 0]) (t := 105) ?hr ?_; (case hd => rfl); (case hg => rfl); (case hr => first | (go_simp; done) | (go_simp; rfl))
       intro gb263 hg w25 hbox hb
       have HS2_ := (hb.cell (World.block_lt_of_cell? _ _ (hHeld.2.2.1))).trans (hHeld.2.2.1)
       have HS3_ := (hb.cell (World.block_lt_of_cell? _ _ (hHeld.2.2.2.1))).trans (hHeld.2.2.2.1)
       have HS4_ := (hb.cell (World.block_lt_of_cell? _ _ (hHeld.2.2.2.2.1))).trans (hHeld.2.2.2.2.1)
       have HS5_ := (hb.cell (World.block_lt_of_cell? _ _ (hHeld.2.2.2.2.2))).trans (hHeld.2.2.2.2.2)
       replace HO_5 := mkA (Kd.R_below (Kd.R_elderB (r_ HO_5.out) gb263 (Nat.le_of_eq hg.symm)) hb)
       replace HO_9 := mkA (Kd.R_below (Kd.R_elderB (r_ HO_9.out) gb263 (Nat.le_of_eq hg.symm)) hb)
       have BK263 := mkA (hbox)
       have GW263 := gs_ hg (bs2_ HB.out GE256.out GE257.out)
       have GE263 := GW263
       replace HB := mkA (below_step (bs2_ HB.out GE256.out GE257.out) hb)
       have NB256_263 := nl_ hg (bl_ BK256.out)
       have NB263_256 := nr_ hg (bl_ BK256.out)
       replace BK256 := mkA (blk_below (bl_ BK256.out) hb)
       have NB257_263 := nl_ hg (bl_ BK257.out)
       have NB263_257 := nr_ hg (bl_ BK257.out)
       replace BK257 := mkA (blk_below (bl_ BK257.out) hb)
       clear hb hbox hg
       refine hK.out _ _ ⟨(blk_cell BK256.out 0).trans rfl, (blk_cell BK256.out 1).trans rfl, HS2_, HS3_, HS4_, HS5_⟩ (fun hHeld => ?_)
       clear hK K
       refine nm_ 11 ?_
       refine one_ (i := 18) (N := none) (fA 19 524287) rfl rfl (one_of HT_.out (by kernel_rfl)) (by decide) (fun K hK => ?_)
       have hs26 : w25.cell? ⟨gb263, 0, none⟩ = some (.int .i64 0) := (blk_cell BK263.out 0).trans rfl
       have hfs26 := blk_frozen BK263.out 0
       have hns26_0 := NB256_263.out
       have hns26_1 := NB257_263.out
       have hms26_0 := NB263_256.out
       have hms26_1 := NB263_257.out
       have hs27 : w25.cell? ⟨gb263, 1, none⟩ = some (.int .i64 0) := (blk_cell BK263.out 1).trans rfl
       have hfs27 := blk_frozen BK263.out 1
       have hns27_0 := NB256_263.out
       have hns27_1 := NB257_263.out
       have hms27_0 := NB263_256.out
       have hms27_1 := NB263_257.out
       refine skip_ (w1 := ?_) (by rfl) rfl ?_ ?_
       rotate_left
       · go_simp
         rfl
       refine hK.out _ _ ⟨((cell_far (p := ⟨gb263, _, none⟩) NB256_263.out _).trans (((cell_far (p := ⟨gb263, _, none⟩) NB256_263.out _).trans (hHeld.1)))), ((cell_far (p := ⟨gb263, _, none⟩) NB256_263.out _).trans (((cell_far (p := ⟨gb263, _, none⟩) NB256_263.out _).trans (hHeld.2.1)))), ((cell_far (p := ⟨gb263, _, none⟩) (by first | exact Kd.own_blk (Kd.R_away HO_5.out (fun _ hk => hk.2)) | (rw [add_block]; exact Kd.own_blk (Kd.R_away HO_5.out (fun _ hk => hk.2))) | (show (Addr.add _ _).block ≠ _; rw [add_block]; exact Kd.own_blk (Kd.R_away HO_5.out (fun _ hk => hk.2))) | (dsimp only; exact Kd.own_blk (Kd.R_away HO_5.out (fun _ hk => hk.2)))) _).trans (((cell_far (p := ⟨gb263, _, none⟩) (by first | exact Kd.own_blk (Kd.R_away HO_5.out (fun _ hk => hk.2)) | (rw [add_block]; exact Kd.own_blk (Kd.R_away HO_5.out (fun _ hk => hk.2))) | (show (Addr.add _ _).block ≠ _; rw [add_block]; exact Kd.own_blk (Kd.R_away HO_5.out (fun _ hk => hk.2))) | (dsimp only; exact Kd.own_blk (Kd.R_away HO_5.out (fun _ hk => hk.2)))) _).trans (hHeld.2.2.1)))), ((cell_far (p := ⟨gb263, _, none⟩) (by first | exact Kd.own_blk (Kd.R_away HO_5.out (fun _ hk => hk.2)) | (rw [add_block]; exact Kd.own_blk (Kd.R_away HO_5.out (fun _ hk => hk.2))) | (show (Addr.add _ _).block ≠ _; rw [add_block]; exact Kd.own_blk (Kd.R_away HO_5.out (fun _ hk => hk.2))) | (dsimp only; exact Kd.own_blk (Kd.R_away HO_5.out (fun _ hk => hk.2)))) _).trans (((cell_far (p := ⟨gb263, _, none⟩) (by first | exact Kd.own_blk (Kd.R_away HO_5.out (fun _ hk => hk.2)) | (rw [add_block]; exact Kd.own_blk (Kd.R_away HO_5.out (fun _ hk => hk.2))) | (show (Addr.add _ _).block ≠ _; rw [add_block]; exact Kd.own_blk (Kd.R_away HO_5.out (fun _ hk => hk.2))) | (dsimp only; exact Kd.own_blk (Kd.R_away HO_5.out (fun _ hk => hk.2)))) _).trans (hHeld.2.2.2.1)))), ((cell_far (p := ⟨gb263, _, none⟩) (by first | exact Kd.own_blk (Kd.R_away HO_5.out (fun _ hk => hk.2)) | (rw [add_block]; exact Kd.own_blk (Kd.R_away HO_5.out (fun _ hk => hk.2))) | (show (Addr.add _ _).block ≠ _; rw [add_block]; exact Kd.own_blk (Kd.R_away HO_5.out (fun _ hk => hk.2))) | (dsimp only; exact Kd.own_blk (Kd.R_away HO_5.out (fun _ hk => hk.2)))) _).trans (((cell_far (p := ⟨gb263, _, none⟩) (by first | exact Kd.own_blk (Kd.R_away HO_5.out (fun _ hk => hk.2)) | (rw [add_block]; exact Kd.own_blk (Kd.R_away HO_5.out (fun _ hk => hk.2))) | (show (Addr.add _ _).block ≠ _; rw [add_block]; exact Kd.own_blk (Kd.R_away HO_5.out (fun _ hk => hk.2))) | (dsimp only; exact Kd.own_blk (Kd.R_away HO_5.out (fun _ hk => hk.2)))) _).trans (hHeld.2.2.2.2.1)))), ((cell_far (p := ⟨gb263, _, none⟩) (by first | exact Kd.own_blk (Kd.R_away HO_5.out (fun _ hk => hk.2)) | (rw [add_block]; exact Kd.own_blk (Kd.R_away HO_5.out (fun _ hk => hk.2))) | (show (Addr.add _ _).block ≠ _; rw [add_block]; exact Kd.own_blk (Kd.R_away HO_5.out (fun _ hk => hk.2))) | (dsimp only; exact Kd.own_blk (Kd.R_away HO_5.out (fun _ hk => hk.2)))) _).trans (((cell_far (p := ⟨gb263, _, none⟩) (by first | exact Kd.own_blk (Kd.R_away HO_5.out (fun _ hk => hk.2)) | (rw [add_block]; exact Kd.own_blk (Kd.R_away HO_5.out (fun _ hk => hk.2))) | (show (Addr.add _ _).block ≠ _; rw [add_block]; exact Kd.own_blk (Kd.R_away HO_5.out (fun _ hk => hk.2))) | (dsimp only; exact Kd.own_blk (Kd.R_away HO_5.out (fun _ hk => hk.2)))) _).trans (hHeld.2.2.2.2.2))))⟩ (fun hHeld => ?_)
       clear hK K
       refine dn_ ?_
       obtain ⟨Ao28, co28, eo28⟩ := Kd.R_slice HO_9.out
       subst eo28
       try go_wp2
       go_loopg [12] k2 (fun kq v12 w' => ∃ (x12_3 : Int), v12 = .int .i64 x12_3 ∧ Aside0 (spec_l19Turned.l2 kq x5_1 x9_2 x10_2 x12_3 t252 t253 (wrap64 (((rd_T105 x5_1 x10_2).f0) - t252)) (wrap64 (((rd_T105 x5_1 x10_2).f1) - t253)) = some r) ∧ Aside0 (kq ≤ k2) ∧ Aside0 (Kd.R k105 105 w' w.heap.size (fun k_ => some k_ ≠ ((.slice Ao28 x9_2.length co28) : Value).ownBlock ∧ k_ ≠ gb256 ∧ k_ ≠ gb257 ∧ k_ ≠ gb263) (.slice (some ad261) x5_1.length co13) x5_1) ∧ Aside0 (Kd.R k105 105 w' w.heap.size (fun k_ => some k_ ≠ ((.slice (some ad261) x5_1.length co13) : Value).ownBlock ∧ k_ ≠ gb256 ∧ k_ ≠ gb257 ∧ k_ ≠ gb263) (.slice Ao28 x9_2.length co28) x9_2) ∧ Aside0 (w'.heap[gb256]? = some (.cells #[.int .i64 t252, .int .i64 t253] 105 (0, 0))) ∧ Aside0 (w'.heap[gb257]? = some (.cells #[.int .i64 t254, .int .i64 t255] 105 (0, 0))) ∧ Aside0 (w'.heap[gb263]? = some (.cells #[.int .i64 (wrap64 (((rd_T105 x5_1 x10_2).f0) - t252)), .int .i64 (wrap64 (((rd_T105 x5_1 x10_2).f1) - t253))] 105 (0, 0))) ∧ Aside0 (Below w.heap.size w w'))
       case atStart => exact ⟨((x9_2.length : Int)), rf_, H', ⟨Nat.le_refl _⟩, ⟨by refine r_ ?_; exact Kd.R_mono (Kd.R_far (p := ⟨gb263, 1, none⟩) (Kd.R_far (p := ⟨gb263, 0, none⟩) (Kd.R_mono HO_5.out (fun k_ hk => (⟨hk, hk.2⟩ : _ ∧ k_ ≠ gb263))) (fun _ hk => hk.2) (.int .i64 (wrap64 (((rd_T105 x5_1 x10_2).f0) - t252)))) (fun _ hk => hk.2) (.int .i64 (wrap64 (((rd_T105 x5_1 x10_2).f1) - t253)))) (fun _ hk => ⟨hk.1.1.1, ⟨hk.1.1.2.1, ⟨hk.1.1.2.2, hk.1.2⟩⟩⟩)⟩, ⟨by refine r_ ?_; exact Kd.R_mono (Kd.R_far (p := ⟨gb263, 1, none⟩) (Kd.R_far (p := ⟨gb263, 0, none⟩) (Kd.R_mono HO_9.out (fun k_ hk => (⟨hk, hk.2⟩ : _ ∧ k_ ≠ gb263))) (fun _ hk => hk.2) (.int .i64 (wrap64 (((rd_T105 x5_1 x10_2).f0) - t252)))) (fun _ hk => hk.2) (.int .i64 (wrap64 (((rd_T105 x5_1 x10_2).f1) - t253)))) (fun _ hk => ⟨hk.1.1.1, ⟨hk.1.1.2.1, ⟨hk.1.1.2.2, hk.1.2⟩⟩⟩)⟩, ⟨by refine bl_ ?_; refine blk_far ?_ NB256_263.out _; refine bl_ ?_; refine blk_far ?_ NB256_263.out _; refine bl_ ?_; exact BK256.out⟩, ⟨by refine bl_ ?_; refine blk_far ?_ NB257_263.out _; refine bl_ ?_; refine blk_far ?_ NB257_263.out _; refine bl_ ?_; exact BK257.out⟩, ⟨by refine bl_ ?_; refine blk_put (cs := #[.int .i64 (wrap64 (((rd_T105 x5_1 x10_2).f0) - t252)), .int .i64 0]) ?_ 1 _ rfl; refine bl_ ?_; refine blk_put (cs := #[.int .i64 0, .int .i64 0]) ?_ 0 _ rfl; refine bl_ ?_; exact BK263.out⟩, ⟨bs3_ HB.out GE256.out GE257.out GE263.out⟩⟩
       case round =>
        clear H'
        try clear c5 c5b0 c5b1 c6 c6b0 c7 c7b0 c9 c22 c22b0 c23 c23b0
        try clear hcz18_0 hcz18_1 hcz19_0 hcz19_1
        try clear hfz18_0 hfz18_1 hfz19_0 hfz19_1
        try clear hx244_0 hx244_1 hx244_2 hx244_3 hx245_0 hx245_1 hx245_2 hx245_3 hx246_0 hx246_1 hx261_0 hx261_1 hx262_0 hx262_1
        try clear p244 p245 p246 p261 p262
        try clear q244 q245 q246 q261 q262
        obtain ⟨x12_3, rfl, HA, HK3, HO_5, HO_9, BK256, BK257, BK263, HB⟩ := hrel
        cases gk with
        | zero => exact absurd HA.out (by simp [spec_l19Turned.l2])
        | succ k3 =>
         have H := HA.out
         clear HA
         simp only [spec_l19Turned.l2] at H
         by_cases c29 : x12_3 > 0
         rotate_left
         · rw [if_neg c29] at H
           have c29b0 := decide_eq_false c29
           clear c29
           obtain ⟨y286, hy286⟩ := gy_ (([] : List (S105)) : List (S105))
           replace H : (if 0 ≤ x12_3 then (if x12_3 ≤ (x9_2.length : Int) then ((some (x9_2.take (x12_3 : Int).toNat : List (S105))).bind fun y289 => (if y286.length + y289.length < 8796093022208 then ((some (y286 ++ y289 : List (S105))).bind fun y293 => (if y293.length < 8796093022208 then ((some (y293 ++ [(⟨(wrap64 (((rd_T105 x5_1 x10_2).f0) - t252)), (wrap64 (((rd_T105 x5_1 x10_2).f1) - t253))⟩ : S105)] : List (S105))).bind fun y296 => ((some (x9_2.drop (x12_3 : Int).toNat : List (S105))).bind fun y299 => (if y296.length + y299.length < 8796093022208 then (spec_l19Turned.l1 k3 x5_1 (y296 ++ y299) (wrap64 (x10_2 + 1)) t252 t253) else (none)))) else (none))) else (none))) else (none)) else (none)) = some r := hs_ H hy286
           have Ny286 := mkA hy286
           clear hy286
           revert H
           refine ng_ fun c56 => ng_ fun c57 => ?_
           intro H
           have c56b0 := eq_true c56
           have c56b1 := decide_eq_true c56
           clear c56
           have c57b0 := eq_true c57
           have c57b1 := decide_eq_true c57
           clear c57
           obtain ⟨y289, hy289⟩ := gy_ (x9_2.take (x12_3 : Int).toNat : List (S105))
           rw [← hy289] at H
           (try with_reducible replace H := bso_ H)
           have Ny289 := mkA hy289
           clear hy289
           revert H
           refine ng_ fun c58 => ?_
           intro H
           have LMc58 := mkA c58
           clear c58
           obtain ⟨y293, hy293⟩ := gy_ (y286 ++ y289 : List (S105))
           rw [← hy293] at H
           (try with_reducible replace H := bso_ H)
           have Ny293 := mkA hy293
           clear hy293
           revert H
           refine ng_ fun c59 => ?_
           intro H
           have LMc59 := mkA c59
           clear c59
           obtain ⟨y296, hy296⟩ := gy_ (y293 ++ [(⟨(wrap64 (((rd_T105 x5_1 x10_2).f0) - t252)), (wrap64 (((rd_T105 x5_1 x10_2).f1) - t253))⟩ : S105)] : List (S105))
           rw [← hy296] at H
           (try with_reducible replace H := bso_ H)
           have Ny296 := mkA hy296
           clear hy296
           have c60b0 := eq_true (dt_ : 0 ≤ x12_3)
           have c61b0 := eq_true (dt_ : x12_3 ≤ (x9_2.length : Int))
           obtain ⟨y299, hy299⟩ := gy_ (x9_2.drop (x12_3 : Int).toNat : List (S105))
           rw [← hy299] at H
           (try with_reducible replace H := bso_ H)
           have Ny299 := mkA hy299
           clear hy299
           revert H
           refine ng_ fun c62 => ?_
           intro H
           have LMc62 := mkA c62
           clear c62
           obtain ⟨y303, hy303⟩ := gy_ (y296 ++ y299 : List (S105))
           rw [← hy303] at H
           (try with_reducible replace H := bso_ H)
           have Ny303 := mkA hy303
           clear hy303
           have H' := mkA H
           clear H
           try go_wp2
           replace HO_5 := mkA (Kd.R_drew HO_5.out)
           replace HO_9 := mkA (Kd.R_drew HO_9.out)
           replace BK256 := mkA (blk_drew BK256.out)
           replace BK257 := mkA (blk_drew BK257.out)
           replace BK263 := mkA (blk_drew BK263.out)
           replace HB := mkA (below_drew1 HB.out)
           refine st_ 11 (fun w' => True) [] spec_l19Turned.tab13 spec_l19Turned.bits13 trivial fun hHeld HT_ HW_ => ?_
           generalize wr.drew = w63 at HO_5 HO_9 BK256 BK257 BK263 HB hHeld ⊢
           refine a1_ 0 67 (h := a1_ 1 68 (h := a1_ 2 69 (h := a0_ 3 70 (h := a0_ 4 71 (h := a0_ 5 72 (h := a0_ 6 73 (h := a0_ 7 74 (h := a0_ 8 75 (h := a0_ 9 76 (h := a1_ 10 77 (h := ?_)))))))))))
           refine dn_ ?_
           try go_wp2_with (first | ((with_reducible refine gt_ 80 ?_); refine Kd.R_lit k105 _ 105 ?hg (N := 80) ?hd (xs := ([] : List (S105))) (inner := []) (ok := fun _ => True) (okp := fun _ => True) ?hr ?hp (fun _ hk => hk) trivial (Below.refl _ _) (Nat.le_refl _) (by simp) ?_; (case hd => rfl); (case hg => rfl); (case hr => first | (go_simp; done) | (go_simp; rfl)); (case hp => exact (Reps.none _ _)); intro v287 w64 ho65 hb hg_ hnew_; clear hg_ hnew_; (first | rw [← Ny286.out] at ho65 | (simp only [Int.reduceToNat] at ho65; rw [← Ny286.out] at ho65)); have HO288 := mkA (Kd.R_lower (Kd.R_newB (Kd.R_newB (Kd.R_newB (Kd.R_new' (Kd.R_new' ho65 (Kd.R_lt (r_ HO_5.out))) (Kd.R_lt (r_ HO_9.out))) (g := gb256) (o := .cells #[.int .i64 t252, .int .i64 t253] 105 (0, 0)) (bl_ BK256.out)) (g := gb257) (o := .cells #[.int .i64 t254, .int .i64 t255] 105 (0, 0)) (bl_ BK257.out)) (g := gb263) (o := .cells #[.int .i64 (wrap64 (((rd_T105 x5_1 x10_2).f0) - t252)), .int .i64 (wrap64 (((rd_T105 x5_1 x10_2).f1) - t253))] 105 (0, 0)) (bl_ BK263.out)) (below_size (bs3_ HB.out GE256.out GE257.out GE263.out))); replace HO_5 := mkA (Kd.R_elder' (r_ HO_5.out) (Kd.R_base ho65) hb); replace HO_9 := mkA (Kd.R_elder' (r_ HO_9.out) (Kd.R_base ho65) hb); replace BK256 := mkA (blk_below (bl_ BK256.out) hb); replace BK257 := mkA (blk_below (bl_ BK257.out) hb); replace BK263 := mkA (blk_below (bl_ BK263.out) hb); replace HB := mkA (below_step (bs3_ HB.out GE256.out GE257.out GE263.out) hb); clear hb ho65; have q66 : (x12_3 : Int) ≤ ((x9_2.length : Int) : Int) := dt_; obtain ⟨i066, hi066, _, hsz66, _⟩ := info_parts info105; have hroom66 : x9_2.length ≤ co28 := (Kd.R_reads' HO_9.out).2.1; have hC66 : Kd.C k105 _ Ao28 x9_2.length x9_2 := (Kd.R_reads' HO_9.out).2.2; have hcut66 := cut_to (P := Try.prog) 51 105 .i64 Try.underlying51 hi066 Ao28 x9_2.length co28 x12_3 (dt_) q66 hroom66; have hr66 := Kd.C_take (m := (x12_3 : Int).toNat) hC66 (by omega); have hy66 : y289.length = (x12_3 : Int).toNat := (by rw [Ny289.out, List.length_take]; omega); rw [← Ny289.out] at hr66; rw [← hy66] at hcut66; have HR292 := mkA hr66; have HC292 := mkA (show y289.length ≤ co28 from by omega); clear hr66 hC66 hroom66 hi066 hsz66; have KY66 := mkA hy66; clear hy66; have KL66 := mkA (show (x12_3 : Int).toNat ≤ x9_2.length from by omega); replace q66 := eq_true q66) | ((with_reducible refine gate_builtin (b := .append) (xs := #[.tmp 80, .tmp 83]) rfl ?_); at_builtin; refine Kd.R_append_rows k105 (w0 := w) w.heap.size rfl (.tmp 80) (.tmp 83) 51 105 (.agg #[(.int .i64 0), (.int .i64 0)]) 16 rfl Try.underlying51 info105 rfl (by decide) (by omega) v287 y286 y289 _ _ _ (fun k_ => some k_ ≠ (.slice (some ad261) x5_1.length co13 : Value).ownBlock ∧ some k_ ≠ (.slice Ao28 x9_2.length co28 : Value).ownBlock ∧ k_ ≠ gb256 ∧ k_ ≠ gb257 ∧ k_ ≠ gb263) (fun _ => False) rfl rfl ?aO ?aR (fun _ _ h => h) (fun _ h => h.elim) ?aF ?aB ?aS ?aL ?_; (case aR => repeat (first | exact (by repeat (first | (with_reducible exact HR292.out) | (with_reducible refine Kd.C_alloc ?_ _) | (with_reducible refine Kd.C_drewN ?_ _) | (with_reducible refine Kd.C_drew ?_) | exact HR292.out)) | (with_reducible refine Kd.C_alloc ?_ _) | (with_reducible refine Kd.C_drewN ?_ _) | (with_reducible refine Kd.C_drew ?_))); (case aB => exact (bs3_ HB.out GE256.out GE257.out GE263.out)); (case aF => exact (fun k_ hk => ⟨Kd.fresh' (Kd.R_lt (r_ HO_5.out)) k_ hk, Kd.fresh' (Kd.R_lt (r_ HO_9.out)) k_ hk, Kd.freshB (g := gb256) (o := .cells #[.int .i64 t252, .int .i64 t253] 105 (0, 0)) (bl_ BK256.out) k_ hk, Kd.freshB (g := gb257) (o := .cells #[.int .i64 t254, .int .i64 t255] 105 (0, 0)) (bl_ BK257.out) k_ hk, Kd.freshB (g := gb263) (o := .cells #[.int .i64 (wrap64 (((rd_T105 x5_1 x10_2).f0) - t252)), .int .i64 (wrap64 (((rd_T105 x5_1 x10_2).f1) - t253))] 105 (0, 0)) (bl_ BK263.out) k_ hk⟩)); (case aO => exact (by refine r_ ?_; exact Kd.R_mono HO288.out (fun _ hk => ⟨hk.1.1.1.1.2, ⟨hk.1.1.1.2, ⟨hk.1.1.2, ⟨hk.1.2, hk.2⟩⟩⟩⟩))); (case aS => exact (below_size (bs3_ HB.out GE256.out GE257.out GE263.out))); (case aL => have := LMc58.out; omega); intro v294 w67 ho hb hg hat; rw [← Ny293.out] at ho; replace HO_5 := mkA (Kd.R_after (ok := (fun k_ => some k_ ≠ (.slice Ao28 x9_2.length co28 : Value).ownBlock ∧ k_ ≠ gb256 ∧ k_ ≠ gb257 ∧ k_ ≠ gb263)) (r_ HO_5.out) hg hat); replace BK256 := mkA (blk_grown (g := gb256) (o := .cells #[.int .i64 t252, .int .i64 t253] 105 (0, 0)) (bl_ BK256.out) hg (Kd.R_away HO288.out (fun _ hk => hk.1.1.2))); replace BK257 := mkA (blk_grown (g := gb257) (o := .cells #[.int .i64 t254, .int .i64 t255] 105 (0, 0)) (bl_ BK257.out) hg (Kd.R_away HO288.out (fun _ hk => hk.1.2))); replace BK263 := mkA (blk_grown (g := gb263) (o := .cells #[.int .i64 (wrap64 (((rd_T105 x5_1 x10_2).f0) - t252)), .int .i64 (wrap64 (((rd_T105 x5_1 x10_2).f1) - t253))] 105 (0, 0)) (bl_ BK263.out) hg (Kd.R_away HO288.out (fun _ hk => hk.2))); replace HB := mkA (hb); replace HR292 := mkA ((show Kd.C k105 w67 Ao28 y289.length y289 from by rw [Ny289.out]; exact Kd.C_take (m := (x12_3 : Int).toNat) ((Kd.R_reads' (Kd.R_after (ok := (fun k_ => some k_ ≠ (.slice (some ad261) x5_1.length co13 : Value).ownBlock ∧ k_ ≠ gb256 ∧ k_ ≠ gb257 ∧ k_ ≠ gb263)) (r_ HO_9.out) hg hat)).2.2) KL66.out)); replace HO_9 := mkA (Kd.R_after (ok := (fun k_ => some k_ ≠ (.slice (some ad261) x5_1.length co13 : Value).ownBlock ∧ k_ ≠ gb256 ∧ k_ ≠ gb257 ∧ k_ ≠ gb263)) (r_ HO_9.out) hg hat); have HO295 := mkA (ho); clear HO288; clear ho hb hg hat; have hnb68 := NB263_256.out; have hnc68 := NB256_263.out; have hnb69 := NB263_257.out; have hnc69 := NB257_263.out; obtain ⟨hcz70_0, hcz70_1, hfz70_0, hfz70_1⟩ := z2_ BK263.out) | ((with_reducible refine gate_builtin (b := .append) (xs := #[.tmp 85, .tmp 87]) rfl ?_); at_builtin; refine Kd.R_append k105 (w0 := w) w.heap.size rfl (.tmp 85) (.tmp 87) 51 105 (.agg #[(.int .i64 0), (.int .i64 0)]) 16 rfl Try.underlying51 info105 rfl (by decide) (by omega) v294 y293 (⟨(wrap64 (((rd_T105 x5_1 x10_2).f0) - t252)), (wrap64 (((rd_T105 x5_1 x10_2).f1) - t253))⟩ : S105) [.int .i64 (wrap64 (((rd_T105 x5_1 x10_2).f0) - t252)), .int .i64 (wrap64 (((rd_T105 x5_1 x10_2).f1) - t253))] (fun k_ => some k_ ≠ (.slice (some ad261) x5_1.length co13 : Value).ownBlock ∧ some k_ ≠ (.slice Ao28 x9_2.length co28 : Value).ownBlock ∧ k_ ≠ gb256 ∧ k_ ≠ gb257 ∧ k_ ≠ gb263) (fun _ => False) rfl rfl ?aP (fun _ hk => hk.elim) ?aF ?aO ?aB ?aS ?aL ?_; (case aP => exact k105_mkM _ _ _ (⟨(wrap64 (((rd_T105 x5_1 x10_2).f0) - t252)), (wrap64 (((rd_T105 x5_1 x10_2).f1) - t253))⟩ : S105)); (case aB => exact (bs3_ HB.out GE256.out GE257.out GE263.out)); (case aF => exact (fun k_ hk => ⟨Kd.fresh' (Kd.R_lt (r_ HO_5.out)) k_ hk, Kd.fresh' (Kd.R_lt (r_ HO_9.out)) k_ hk, Kd.freshB (g := gb256) (o := .cells #[.int .i64 t252, .int .i64 t253] 105 (0, 0)) (bl_ BK256.out) k_ hk, Kd.freshB (g := gb257) (o := .cells #[.int .i64 t254, .int .i64 t255] 105 (0, 0)) (bl_ BK257.out) k_ hk, Kd.freshB (g := gb263) (o := .cells #[.int .i64 (wrap64 (((rd_T105 x5_1 x10_2).f0) - t252)), .int .i64 (wrap64 (((rd_T105 x5_1 x10_2).f1) - t253))] 105 (0, 0)) (bl_ BK263.out) k_ hk⟩)); (case aO => exact (r_ HO295.out)); (case aS => exact (below_size (bs3_ HB.out GE256.out GE257.out GE263.out))); (case aL => have := LMc59.out; omega); intro v297 w71 ho hb hg hat; rw [← Ny296.out] at ho; replace HO_5 := mkA (Kd.R_after (ok := (fun k_ => some k_ ≠ (.slice Ao28 x9_2.length co28 : Value).ownBlock ∧ k_ ≠ gb256 ∧ k_ ≠ gb257 ∧ k_ ≠ gb263)) (r_ HO_5.out) hg hat); replace BK256 := mkA (blk_grown (g := gb256) (o := .cells #[.int .i64 t252, .int .i64 t253] 105 (0, 0)) (bl_ BK256.out) hg (Kd.R_away HO295.out (fun _ hk => hk.2.2.1))); replace BK257 := mkA (blk_grown (g := gb257) (o := .cells #[.int .i64 t254, .int .i64 t255] 105 (0, 0)) (bl_ BK257.out) hg (Kd.R_away HO295.out (fun _ hk => hk.2.2.2.1))); replace BK263 := mkA (blk_grown (g := gb263) (o := .cells #[.int .i64 (wrap64 (((rd_T105 x5_1 x10_2).f0) - t252)), .int .i64 (wrap64 (((rd_T105 x5_1 x10_2).f1) - t253))] 105 (0, 0)) (bl_ BK263.out) hg (Kd.R_away HO295.out (fun _ hk => hk.2.2.2.2))); replace HB := mkA (hb); replace HR292 := mkA ((show Kd.C k105 w71 Ao28 y289.length y289 from by rw [Ny289.out]; exact Kd.C_take (m := (x12_3 : Int).toNat) ((Kd.R_reads' (Kd.R_after (ok := (fun k_ => some k_ ≠ (.slice (some ad261) x5_1.length co13 : Value).ownBlock ∧ k_ ≠ gb256 ∧ k_ ≠ gb257 ∧ k_ ≠ gb263)) (r_ HO_9.out) hg hat)).2.2) KL66.out)); replace HO_9 := mkA (Kd.R_after (ok := (fun k_ => some k_ ≠ (.slice (some ad261) x5_1.length co13 : Value).ownBlock ∧ k_ ≠ gb256 ∧ k_ ≠ gb257 ∧ k_ ≠ gb263)) (r_ HO_9.out) hg hat); have HO298 := mkA (ho); clear HO295; clear ho hb hg hat; have q72 : (x12_3 : Int) ≤ ((x9_2.length : Int) : Int) := dt_; obtain ⟨i072, hi072, _, hsz72, _⟩ := info_parts info105; have hroom72 : x9_2.length ≤ co28 := (Kd.R_reads' HO_9.out).2.1; have hC72 : Kd.C k105 _ Ao28 x9_2.length x9_2 := (Kd.R_reads' HO_9.out).2.2; have q072 : (0 : Int) ≤ (x12_3 : Int) := dt_; have hcut72 := cut_from (P := Try.prog) 51 105 .i64 Try.underlying51 hi072 2 hsz72 Ao28 x9_2.length co28 x12_3 q072 q72; have hr72 := Kd.C_drop (m := (x12_3 : Int).toNat) (c := co28) hC72 (by omega) hroom72; obtain ⟨A72, hA72⟩ : ∃ A1, A1 = (if co28 = (x12_3 : Int).toNat then Ao28 else (Ao28 : Option Addr).map (·.add ((x12_3 : Int).toNat * 2))) := ⟨_, rfl⟩; obtain ⟨c72, hc72⟩ : ∃ c1, c1 = co28 - (x12_3 : Int).toNat := ⟨_, rfl⟩; have hy72 : y299.length = x9_2.length - (x12_3 : Int).toNat := (by rw [Ny299.out, List.length_drop] <;> omega); rw [show (x9_2).drop (x12_3 : Int).toNat = y299 from Ny299.out.symm] at hr72; replace hr72 : Kd.C k105 _ A72 y299.length y299 := (by rw [hA72]; exact hr72); rw [← hy72, ← hA72, ← hc72] at hcut72; have HR302 := mkA hr72; have HC302 := mkA (show y299.length ≤ c72 from by rw [hy72, hc72]; exact Nat.sub_le_sub_right hroom72 _); clear hr72 hC72 hroom72 hi072 hsz72 hc72; have KY72 := mkA hy72; have KA72 := mkA hA72; clear hy72 hA72; have KL72 := mkA (show (x12_3 : Int).toNat ≤ x9_2.length from by omega); replace q72 := eq_true q72) | ((with_reducible refine gate_builtin (b := .append) (xs := #[.tmp 89, .tmp 92]) rfl ?_); at_builtin; refine Kd.R_append_rows k105 (w0 := w) w.heap.size rfl (.tmp 89) (.tmp 92) 51 105 (.agg #[(.int .i64 0), (.int .i64 0)]) 16 rfl Try.underlying51 info105 rfl (by decide) (by omega) v297 y296 y299 _ _ _ (fun k_ => some k_ ≠ (.slice (some ad261) x5_1.length co13 : Value).ownBlock ∧ some k_ ≠ (.slice Ao28 x9_2.length co28 : Value).ownBlock ∧ k_ ≠ gb256 ∧ k_ ≠ gb257 ∧ k_ ≠ gb263) (fun _ => False) rfl rfl ?aO ?aR (fun _ _ h => h) (fun _ h => h.elim) ?aF ?aB ?aS ?aL ?_; (case aR => repeat (first | exact (by repeat (first | (with_reducible exact HR302.out) | (with_reducible refine Kd.C_alloc ?_ _) | (with_reducible refine Kd.C_drewN ?_ _) | (with_reducible refine Kd.C_drew ?_) | exact HR302.out)) | (with_reducible refine Kd.C_alloc ?_ _) | (with_reducible refine Kd.C_drewN ?_ _) | (with_reducible refine Kd.C_drew ?_))); (case aB => exact (bs3_ HB.out GE256.out GE257.out GE263.out)); (case aF => exact (fun k_ hk => ⟨Kd.fresh' (Kd.R_lt (r_ HO_5.out)) k_ hk, Kd.fresh' (Kd.R_lt (r_ HO_9.out)) k_ hk, Kd.freshB (g := gb256) (o := .cells #[.int .i64 t252, .int .i64 t253] 105 (0, 0)) (bl_ BK256.out) k_ hk, Kd.freshB (g := gb257) (o := .cells #[.int .i64 t254, .int .i64 t255] 105 (0, 0)) (bl_ BK257.out) k_ hk, Kd.freshB (g := gb263) (o := .cells #[.int .i64 (wrap64 (((rd_T105 x5_1 x10_2).f0) - t252)), .int .i64 (wrap64 (((rd_T105 x5_1 x10_2).f1) - t253))] 105 (0, 0)) (bl_ BK263.out) k_ hk⟩)); (case aO => exact (r_ HO298.out)); (case aS => exact (below_size (bs3_ HB.out GE256.out GE257.out GE263.out))); (case aL => have := LMc62.out; omega); intro v304 w73 ho hb hg hat; rw [← Ny303.out] at ho; replace HO_5 := mkA (Kd.R_after (ok := (fun k_ => some k_ ≠ (.slice Ao28 x9_2.length co28 : Value).ownBlock ∧ k_ ≠ gb256 ∧ k_ ≠ gb257 ∧ k_ ≠ gb263)) (r_ HO_5.out) hg hat); replace BK256 := mkA (blk_grown (g := gb256) (o := .cells #[.int .i64 t252, .int .i64 t253] 105 (0, 0)) (bl_ BK256.out) hg (Kd.R_away HO298.out (fun _ hk => hk.2.2.1))); replace BK257 := mkA (blk_grown (g := gb257) (o := .cells #[.int .i64 t254, .int .i64 t255] 105 (0, 0)) (bl_ BK257.out) hg (Kd.R_away HO298.out (fun _ hk => hk.2.2.2.1))); replace BK263 := mkA (blk_grown (g := gb263) (o := .cells #[.int .i64 (wrap64 (((rd_T105 x5_1 x10_2).f0) - t252)), .int .i64 (wrap64 (((rd_T105 x5_1 x10_2).f1) - t253))] 105 (0, 0)) (bl_ BK263.out) hg (Kd.R_away HO298.out (fun _ hk => hk.2.2.2.2))); replace HB := mkA (hb); replace HR292 := mkA ((show Kd.C k105 w73 Ao28 y289.length y289 from by rw [Ny289.out]; exact Kd.C_take (m := (x12_3 : Int).toNat) ((Kd.R_reads' (Kd.R_after (ok := (fun k_ => some k_ ≠ (.slice (some ad261) x5_1.length co13 : Value).ownBlock ∧ k_ ≠ gb256 ∧ k_ ≠ gb257 ∧ k_ ≠ gb263)) (r_ HO_9.out) hg hat)).2.2) KL66.out)); replace HR302 := mkA ((show Kd.C k105 w73 A72 y299.length y299 from by rw [Ny299.out, KA72.out]; exact Kd.C_drop (m := (x12_3 : Int).toNat) (c := co28) ((Kd.R_reads' (Kd.R_after (ok := (fun k_ => some k_ ≠ (.slice (some ad261) x5_1.length co13 : Value).ownBlock ∧ k_ ≠ gb256 ∧ k_ ≠ gb257 ∧ k_ ≠ gb263)) (r_ HO_9.out) hg hat)).2.2) KL72.out ((Kd.R_reads' (Kd.R_after (ok := (fun k_ => some k_ ≠ (.slice (some ad261) x5_1.length co13 : Value).ownBlock ∧ k_ ≠ gb256 ∧ k_ ≠ gb257 ∧ k_ ≠ gb263)) (r_ HO_9.out) hg hat)).2.1))); replace HO_9 := mkA (Kd.R_after (ok := (fun k_ => some k_ ≠ (.slice (some ad261) x5_1.length co13 : Value).ownBlock ∧ k_ ≠ gb256 ∧ k_ ≠ gb257 ∧ k_ ≠ gb263)) (r_ HO_9.out) hg hat); have HO305 := mkA (ho); clear HO298; clear ho hb hg hat))
           go_roundg k3
           case measure => have := HK1.out; have := HK2.out; have := HK3.out; omega
           case rel => exact ⟨(y303), (wrap64 (x10_2 + 1)), rf_, H', ⟨on3_ HK1.out HK2.out HK3.out⟩, ⟨by refine r_ ?_; exact Kd.R_mono HO_5.out (fun _ hk => ⟨hk.2, ⟨hk.1.2.1, hk.1.2.2.1⟩⟩)⟩, ⟨by refine r_ ?_; exact Kd.R_mono HO305.out (fun _ hk => ⟨hk.1, ⟨hk.2.2.1, hk.2.2.2.1⟩⟩)⟩, ⟨bl_ BK256.out⟩, ⟨bl_ BK257.out⟩, ⟨bs3_ HB.out GE256.out GE257.out GE263.out⟩⟩
         rw [if_pos c29] at H
         have c29b0 := decide_eq_true c29
         clear c29
         obtain ⟨ji30, hji30⟩ : ∃ j_ : Int, (wrap64 (x12_3 - 1)) = j_ := ⟨_, rfl⟩
         replace H : (if 0 ≤ (ji30) then (if (ji30) < (x9_2.length : Int) then ((spec_l19Before.f (wrap64 (((rd_T105 x5_1 x10_2).f0) - t252)) (wrap64 (((rd_T105 x5_1 x10_2).f1) - t253)) ((rd_T105 x9_2 (ji30)).f0) ((rd_T105 x9_2 (ji30)).f1)).bind fun t265 => (if t265 = true then (spec_l19Turned.l2 k3 x5_1 x9_2 x10_2 ji30 t252 t253 (wrap64 (((rd_T105 x5_1 x10_2).f0) - t252)) (wrap64 (((rd_T105 x5_1 x10_2).f1) - t253))) else ((some (([] : List (S105)) : List (S105))).bind fun y266 => (if 0 ≤ x12_3 then (if x12_3 ≤ (x9_2.length : Int) then ((some (x9_2.take (x12_3 : Int).toNat : List (S105))).bind fun y269 => (if y266.length + y269.length < 8796093022208 then ((some (y266 ++ y269 : List (S105))).bind fun y273 => (if y273.length < 8796093022208 then ((some (y273 ++ [(⟨(wrap64 (((rd_T105 x5_1 x10_2).f0) - t252)), (wrap64 (((rd_T105 x5_1 x10_2).f1) - t253))⟩ : S105)] : List (S105))).bind fun y276 => ((some (x9_2.drop (x12_3 : Int).toNat : List (S105))).bind fun y279 => (if y276.length + y279.length < 8796093022208 then (spec_l19Turned.l1 k3 x5_1 (y276 ++ y279) (wrap64 (x10_2 + 1)) t252 t253) else (none)))) else (none))) else (none))) else (none)) else (none))))) else (none)) else (none)) = some r := by first | (rw [hji30] at H; exact H) | (simp only [hji30] at H ⊢; exact H)
         have hji30w : (IntKind.i64.wrap (x12_3 - 1)) = ji30 := (i64_w _).trans hji30
         revert H
         refine ng_ fun c31 => ng_ fun c32 => ob_ fun t265 A33 => ?_
         intro H
         have c31b0 := decide_eq_true c31
         clear c31
         have c32b0 := decide_eq_true c32
         clear c32
         by_cases c34 : t265 = true
         · subst c34
           rw [if_pos rfl] at H
           have H' := mkA H
           clear H
           try go_wp2
           replace HO_5 := mkA (Kd.R_drew HO_5.out)
           replace HO_9 := mkA (Kd.R_drew HO_9.out)
           replace BK256 := mkA (blk_drew BK256.out)
           replace BK257 := mkA (blk_drew BK257.out)
           replace BK263 := mkA (blk_drew BK263.out)
           replace HB := mkA (below_drew1 HB.out)
           obtain ⟨ad264, e264, hx264_0, hx264_1⟩ := at_T105 (Kd.R_reads' HO_9.out).2.2 (ji30) dt_ dt_
           cases e264
           have p264 : (0 ≤ ((ji30) : Int)) = True := eq_true dt_
           have q264 : ((ji30) < (x9_2.length : Int)) = True := eq_true dt_
           refine st_ 11 (fun w' => w'.cell? ⟨gb263, 0, none⟩ = some (.int .i64 (wrap64 (((rd_T105 x5_1 x10_2).f0) - t252))) ∧ w'.cell? ⟨gb263, 1, none⟩ = some (.int .i64 (wrap64 (((rd_T105 x5_1 x10_2).f1) - t253))) ∧ C_ hx264_0 w' ∧ C_ hx264_1 w') [] spec_l19Turned.tab13 spec_l19Turned.bits13 sp_ fun hHeld HT_ HW_ => ?_
           generalize wr.drew = w35 at HO_5 HO_9 BK256 BK257 BK263 HB hx264_0 hx264_1 hHeld ⊢
           refine a1_ 0 67 (h := a1_ 1 68 (h := a1_ 2 69 (h := a1_ 4 71 (h := a1_ 5 72 (h := a1_ 6 73 (h := a1_ 7 74 (h := tk_ 3 70 (h := tk_ 8 75 (h := ?_)))))))))
           refine on_ 9 76 fun K hK => ?_
           refine goes_ Try.func92 (by kernel_rfl) rfl #[.agg #[.int .i64 (wrap64 (((rd_T105 x5_1 x10_2).f0) - t252)), .int .i64 (wrap64 (((rd_T105 x5_1 x10_2).f1) - t253))], .agg #[.int .i64 ((rd_T105 x9_2 (ji30)).f0), .int .i64 ((rd_T105 x9_2 (ji30)).f1)]] (by rfl) rfl rfl (by (try simp only [List.map_toArray, List.map_cons, List.map_nil]); first | done | (simp only [hji30]; rfl) | rfl | (simp only [List.length_drop, List.length_take]; rfl)) ?_
           with_reducible refine (spec_l19Before.calls (wrap64 (((rd_T105 x5_1 x10_2).f0) - t252)) (wrap64 (((rd_T105 x5_1 x10_2).f1) - t253)) ((rd_T105 x9_2 (ji30)).f0) ((rd_T105 x9_2 (ji30)).f1) true _ A33.out).mono ?_
           rintro e w36 ⟨rfl, hb⟩
           have HS2_ := (hb.cell (World.block_lt_of_cell? _ _ (hHeld.2.2.1))).trans (hHeld.2.2.1)
           have HS3_ := (hb.cell (World.block_lt_of_cell? _ _ (hHeld.2.2.2))).trans (hHeld.2.2.2)
           refine ⟨_, rfl, ?_⟩
           replace HO_5 := mkA (Kd.R_below (r_ HO_5.out) hb)
           replace HO_9 := mkA (Kd.R_below (r_ HO_9.out) hb)
           replace BK256 := mkA (blk_below (bl_ BK256.out) hb)
           replace BK257 := mkA (blk_below (bl_ BK257.out) hb)
           replace BK263 := mkA (blk_below (bl_ BK263.out) hb)
           replace HB := mkA (below_step (bs3_ HB.out GE256.out GE257.out GE263.out) hb)
           (try clear hb)
           (try clear hb2)
           (try clear hk)
           (try clear hi)
           refine hK.out _ _ ⟨(blk_cell BK263.out 0).trans rfl, (blk_cell BK263.out 1).trans rfl, HS2_, HS3_⟩ (fun hHeld => ?_)
           clear hK K
           refine nm_ 76 ?_
           refine a1_ 10 77 (h := ?_)
           refine dn_ ?_
           try go_wp2
           go_roundg k3
           case measure => have := HK1.out; have := HK2.out; have := HK3.out; omega
           case rel => exact ⟨(ji30), (by first | rfl | (simp; done) | (simp only [← hji30] <;> (first | rfl | simp)) | (simp [*]; done)), H', ⟨on3_ HK1.out HK2.out HK3.out⟩, ⟨r_ HO_5.out⟩, ⟨r_ HO_9.out⟩, ⟨bl_ BK256.out⟩, ⟨bl_ BK257.out⟩, ⟨bl_ BK263.out⟩, ⟨bs3_ HB.out GE256.out GE257.out GE263.out⟩⟩
         · replace c34 := Bool.eq_false_iff.mpr c34
           subst c34
           rw [if_neg Bool.false_ne_true] at H
           obtain ⟨y266, hy266⟩ := gy_ (([] : List (S105)) : List (S105))
           replace H : (if 0 ≤ x12_3 then (if x12_3 ≤ (x9_2.length : Int) then ((some (x9_2.take (x12_3 : Int).toNat : List (S105))).bind fun y269 => (if y266.length + y269.length < 8796093022208 then ((some (y266 ++ y269 : List (S105))).bind fun y273 => (if y273.length < 8796093022208 then ((some (y273 ++ [(⟨(wrap64 (((rd_T105 x5_1 x10_2).f0) - t252)), (wrap64 (((rd_T105 x5_1 x10_2).f1) - t253))⟩ : S105)] : List (S105))).bind fun y276 => ((some (x9_2.drop (x12_3 : Int).toNat : List (S105))).bind fun y279 => (if y276.length + y279.length < 8796093022208 then (spec_l19Turned.l1 k3 x5_1 (y276 ++ y279) (wrap64 (x10_2 + 1)) t252 t253) else (none)))) else (none))) else (none))) else (none)) else (none)) = some r := hs_ H hy266
           have Ny266 := mkA hy266
           clear hy266
           revert H
           refine ng_ fun c37 => ng_ fun c38 => ?_
           intro H
           have c37b0 := eq_true c37
           have c37b1 := decide_eq_true c37
           clear c37
           have c38b0 := eq_true c38
           have c38b1 := decide_eq_true c38
           clear c38
           obtain ⟨y269, hy269⟩ := gy_ (x9_2.take (x12_3 : Int).toNat : List (S105))
           rw [← hy269] at H
           (try with_reducible replace H := bso_ H)
           have Ny269 := mkA hy269
           clear hy269
           revert H
           refine ng_ fun c39 => ?_
           intro H
           have LMc39 := mkA c39
           clear c39
           obtain ⟨y273, hy273⟩ := gy_ (y266 ++ y269 : List (S105))
           rw [← hy273] at H
           (try with_reducible replace H := bso_ H)
           have Ny273 := mkA hy273
           clear hy273
           revert H
           refine ng_ fun c40 => ?_
           intro H
           have LMc40 := mkA c40
           clear c40
           obtain ⟨y276, hy276⟩ := gy_ (y273 ++ [(⟨(wrap64 (((rd_T105 x5_1 x10_2).f0) - t252)), (wrap64 (((rd_T105 x5_1 x10_2).f1) - t253))⟩ : S105)] : List (S105))
           rw [← hy276] at H
           (try with_reducible replace H := bso_ H)
           have Ny276 := mkA hy276
           clear hy276
           have c41b0 := eq_true (dt_ : 0 ≤ x12_3)
           have c42b0 := eq_true (dt_ : x12_3 ≤ (x9_2.length : Int))
           obtain ⟨y279, hy279⟩ := gy_ (x9_2.drop (x12_3 : Int).toNat : List (S105))
           rw [← hy279] at H
           (try with_reducible replace H := bso_ H)
           have Ny279 := mkA hy279
           clear hy279
           revert H
           refine ng_ fun c43 => ?_
           intro H
           have LMc43 := mkA c43
           clear c43
           obtain ⟨y283, hy283⟩ := gy_ (y276 ++ y279 : List (S105))
           rw [← hy283] at H
           (try with_reducible replace H := bso_ H)
           have Ny283 := mkA hy283
           clear hy283
           have H' := mkA H
           clear H
           try go_wp2
           replace HO_5 := mkA (Kd.R_drew HO_5.out)
           replace HO_9 := mkA (Kd.R_drew HO_9.out)
           replace BK256 := mkA (blk_drew BK256.out)
           replace BK257 := mkA (blk_drew BK257.out)
           replace BK263 := mkA (blk_drew BK263.out)
           replace HB := mkA (below_drew1 HB.out)
           obtain ⟨ad264, e264, hx264_0, hx264_1⟩ := at_T105 (Kd.R_reads' HO_9.out).2.2 (ji30) dt_ dt_
           cases e264
           have p264 : (0 ≤ ((ji30) : Int)) = True := eq_true dt_
           have q264 : ((ji30) < (x9_2.length : Int)) = True := eq_true dt_
           refine st_ 11 (fun w' => w'.cell? ⟨gb263, 0, none⟩ = some (.int .i64 (wrap64 (((rd_T105 x5_1 x10_2).f0) - t252))) ∧ w'.cell? ⟨gb263, 1, none⟩ = some (.int .i64 (wrap64 (((rd_T105 x5_1 x10_2).f1) - t253))) ∧ C_ hx264_0 w' ∧ C_ hx264_1 w') [] spec_l19Turned.tab13 spec_l19Turned.bits13 sp_ fun hHeld HT_ HW_ => ?_
           generalize wr.drew = w44 at HO_5 HO_9 BK256 BK257 BK263 HB hx264_0 hx264_1 hHeld ⊢
           refine a1_ 0 67 (h := a1_ 1 68 (h := a1_ 2 69 (h := a1_ 4 71 (h := a1_ 5 72 (h := a1_ 6 73 (h := a1_ 7 74 (h := tk_ 3 70 (h := tk_ 8 75 (h := ?_)))))))))
           refine on_ 9 76 fun K hK => ?_
           refine goes_ Try.func92 (by kernel_rfl) rfl #[.agg #[.int .i64 (wrap64 (((rd_T105 x5_1 x10_2).f0) - t252)), .int .i64 (wrap64 (((rd_T105 x5_1 x10_2).f1) - t253))], .agg #[.int .i64 ((rd_T105 x9_2 (ji30)).f0), .int .i64 ((rd_T105 x9_2 (ji30)).f1)]] (by rfl) rfl rfl (by (try simp only [List.map_toArray, List.map_cons, List.map_nil]); first | done | (simp only [hji30]; rfl) | rfl | (simp only [List.length_drop, List.length_take]; rfl)) ?_
           with_reducible refine (spec_l19Before.calls (wrap64 (((rd_T105 x5_1 x10_2).f0) - t252)) (wrap64 (((rd_T105 x5_1 x10_2).f1) - t253)) ((rd_T105 x9_2 (ji30)).f0) ((rd_T105 x9_2 (ji30)).f1) false _ A33.out).mono ?_
           rintro e w45 ⟨rfl, hb⟩
           have HS2_ := (hb.cell (World.block_lt_of_cell? _ _ (hHeld.2.2.1))).trans (hHeld.2.2.1)
           have HS3_ := (hb.cell (World.block_lt_of_cell? _ _ (hHeld.2.2.2))).trans (hHeld.2.2.2)
           refine ⟨_, rfl, ?_⟩
           replace HO_5 := mkA (Kd.R_below (r_ HO_5.out) hb)
           replace HO_9 := mkA (Kd.R_below (r_ HO_9.out) hb)
           replace BK256 := mkA (blk_below (bl_ BK256.out) hb)
           replace BK257 := mkA (blk_below (bl_ BK257.out) hb)
           replace BK263 := mkA (blk_below (bl_ BK263.out) hb)
           replace HB := mkA (below_step (bs3_ HB.out GE256.out GE257.out GE263.out) hb)
           (try clear hb)
           (try clear hb2)
           (try clear hk)
           (try clear hi)
           refine hK.out _ _ ⟨(blk_cell BK263.out 0).trans rfl, (blk_cell BK263.out 1).trans rfl, HS2_, HS3_⟩ (fun hHeld => ?_)
           clear hK K
           refine nm_ 76 ?_
           refine a1_ 10 77 (h := ?_)
           refine dn_ ?_
           try go_wp2_with (first | ((with_reducible refine gt_ 80 ?_); refine Kd.R_lit k105 _ 105 ?hg (N := 80) ?hd (xs := ([] : List (S105))) (inner := []) (ok := fun _ => True) (okp := fun _ => True) ?hr ?hp (fun _ hk => hk) trivial (Below.refl _ _) (Nat.le_refl _) (by simp) ?_; (case hd => rfl); (case hg => rfl); (case hr => first | (go_simp; done) | (go_simp; rfl)); (case hp => exact (Reps.none _ _)); intro v267 w46 ho47 hb hg_ hnew_; clear hg_ hnew_; (first | rw [← Ny266.out] at ho47 | (simp only [Int.reduceToNat] at ho47; rw [← Ny266.out] at ho47)); have HO268 := mkA (Kd.R_lower (Kd.R_newB (Kd.R_newB (Kd.R_newB (Kd.R_new' (Kd.R_new' ho47 (Kd.R_lt (r_ HO_5.out))) (Kd.R_lt (r_ HO_9.out))) (g := gb256) (o := .cells #[.int .i64 t252, .int .i64 t253] 105 (0, 0)) (bl_ BK256.out)) (g := gb257) (o := .cells #[.int .i64 t254, .int .i64 t255] 105 (0, 0)) (bl_ BK257.out)) (g := gb263) (o := .cells #[.int .i64 (wrap64 (((rd_T105 x5_1 x10_2).f0) - t252)), .int .i64 (wrap64 (((rd_T105 x5_1 x10_2).f1) - t253))] 105 (0, 0)) (bl_ BK263.out)) (below_size (bs3_ HB.out GE256.out GE257.out GE263.out))); replace HO_5 := mkA (Kd.R_elder' (r_ HO_5.out) (Kd.R_base ho47) hb); replace HO_9 := mkA (Kd.R_elder' (r_ HO_9.out) (Kd.R_base ho47) hb); replace BK256 := mkA (blk_below (bl_ BK256.out) hb); replace BK257 := mkA (blk_below (bl_ BK257.out) hb); replace BK263 := mkA (blk_below (bl_ BK263.out) hb); replace HB := mkA (below_step (bs3_ HB.out GE256.out GE257.out GE263.out) hb); clear hb ho47; have q48 : (x12_3 : Int) ≤ ((x9_2.length : Int) : Int) := dt_; obtain ⟨i048, hi048, _, hsz48, _⟩ := info_parts info105; have hroom48 : x9_2.length ≤ co28 := (Kd.R_reads' HO_9.out).2.1; have hC48 : Kd.C k105 _ (some ad264) x9_2.length x9_2 := (Kd.R_reads' HO_9.out).2.2; have hcut48 := cut_to (P := Try.prog) 51 105 .i64 Try.underlying51 hi048 (some ad264) x9_2.length co28 x12_3 (dt_) q48 hroom48; have hr48 := Kd.C_take (m := (x12_3 : Int).toNat) hC48 (by omega); have hy48 : y269.length = (x12_3 : Int).toNat := (by rw [Ny269.out, List.length_take]; omega); rw [← Ny269.out] at hr48; rw [← hy48] at hcut48; have HR272 := mkA hr48; have HC272 := mkA (show y269.length ≤ co28 from by omega); clear hr48 hC48 hroom48 hi048 hsz48; have KY48 := mkA hy48; clear hy48; have KL48 := mkA (show (x12_3 : Int).toNat ≤ x9_2.length from by omega); replace q48 := eq_true q48) | ((with_reducible refine gate_builtin (b := .append) (xs := #[.tmp 80, .tmp 83]) rfl ?_); at_builtin; refine Kd.R_append_rows k105 (w0 := w) w.heap.size rfl (.tmp 80) (.tmp 83) 51 105 (.agg #[(.int .i64 0), (.int .i64 0)]) 16 rfl Try.underlying51 info105 rfl (by decide) (by omega) v267 y266 y269 _ _ _ (fun k_ => some k_ ≠ (.slice (some ad261) x5_1.length co13 : Value).ownBlock ∧ some k_ ≠ (.slice (some ad264) x9_2.length co28 : Value).ownBlock ∧ k_ ≠ gb256 ∧ k_ ≠ gb257 ∧ k_ ≠ gb263) (fun _ => False) rfl rfl ?aO ?aR (fun _ _ h => h) (fun _ h => h.elim) ?aF ?aB ?aS ?aL ?_; (case aR => repeat (first | exact (by repeat (first | (with_reducible exact HR272.out) | (with_reducible refine Kd.C_alloc ?_ _) | (with_reducible refine Kd.C_drewN ?_ _) | (with_reducible refine Kd.C_drew ?_) | exact HR272.out)) | (with_reducible refine Kd.C_alloc ?_ _) | (with_reducible refine Kd.C_drewN ?_ _) | (with_reducible refine Kd.C_drew ?_))); (case aB => exact (bs3_ HB.out GE256.out GE257.out GE263.out)); (case aF => exact (fun k_ hk => ⟨Kd.fresh' (Kd.R_lt (r_ HO_5.out)) k_ hk, Kd.fresh' (Kd.R_lt (r_ HO_9.out)) k_ hk, Kd.freshB (g := gb256) (o := .cells #[.int .i64 t252, .int .i64 t253] 105 (0, 0)) (bl_ BK256.out) k_ hk, Kd.freshB (g := gb257) (o := .cells #[.int .i64 t254, .int .i64 t255] 105 (0, 0)) (bl_ BK257.out) k_ hk, Kd.freshB (g := gb263) (o := .cells #[.int .i64 (wrap64 (((rd_T105 x5_1 x10_2).f0) - t252)), .int .i64 (wrap64 (((rd_T105 x5_1 x10_2).f1) - t253))] 105 (0, 0)) (bl_ BK263.out) k_ hk⟩)); (case aO => exact (by refine r_ ?_; exact Kd.R_mono HO268.out (fun _ hk => ⟨hk.1.1.1.1.2, ⟨hk.1.1.1.2, ⟨hk.1.1.2, ⟨hk.1.2, hk.2⟩⟩⟩⟩))); (case aS => exact (below_size (bs3_ HB.out GE256.out GE257.out GE263.out))); (case aL => have := LMc39.out; omega); intro v274 w49 ho hb hg hat; rw [← Ny273.out] at ho; replace HO_5 := mkA (Kd.R_after (ok := (fun k_ => some k_ ≠ (.slice (some ad264) x9_2.length co28 : Value).ownBlock ∧ k_ ≠ gb256 ∧ k_ ≠ gb257 ∧ k_ ≠ gb263)) (r_ HO_5.out) hg hat); replace BK256 := mkA (blk_grown (g := gb256) (o := .cells #[.int .i64 t252, .int .i64 t253] 105 (0, 0)) (bl_ BK256.out) hg (Kd.R_away HO268.out (fun _ hk => hk.1.1.2))); replace BK257 := mkA (blk_grown (g := gb257) (o := .cells #[.int .i64 t254, .int .i64 t255] 105 (0, 0)) (bl_ BK257.out) hg (Kd.R_away HO268.out (fun _ hk => hk.1.2))); replace BK263 := mkA (blk_grown (g := gb263) (o := .cells #[.int .i64 (wrap64 (((rd_T105 x5_1 x10_2).f0) - t252)), .int .i64 (wrap64 (((rd_T105 x5_1 x10_2).f1) - t253))] 105 (0, 0)) (bl_ BK263.out) hg (Kd.R_away HO268.out (fun _ hk => hk.2))); replace HB := mkA (hb); replace HR272 := mkA ((show Kd.C k105 w49 (some ad264) y269.length y269 from by rw [Ny269.out]; exact Kd.C_take (m := (x12_3 : Int).toNat) ((Kd.R_reads' (Kd.R_after (ok := (fun k_ => some k_ ≠ (.slice (some ad261) x5_1.length co13 : Value).ownBlock ∧ k_ ≠ gb256 ∧ k_ ≠ gb257 ∧ k_ ≠ gb263)) (r_ HO_9.out) hg hat)).2.2) KL48.out)); replace HO_9 := mkA (Kd.R_after (ok := (fun k_ => some k_ ≠ (.slice (some ad261) x5_1.length co13 : Value).ownBlock ∧ k_ ≠ gb256 ∧ k_ ≠ gb257 ∧ k_ ≠ gb263)) (r_ HO_9.out) hg hat); have HO275 := mkA (ho); clear HO268; clear ho hb hg hat; have hnb50 := NB263_256.out; have hnc50 := NB256_263.out; have hnb51 := NB263_257.out; have hnc51 := NB257_263.out; obtain ⟨hcz52_0, hcz52_1, hfz52_0, hfz52_1⟩ := z2_ BK263.out) | ((with_reducible refine gate_builtin (b := .append) (xs := #[.tmp 85, .tmp 87]) rfl ?_); at_builtin; refine Kd.R_append k105 (w0 := w) w.heap.size rfl (.tmp 85) (.tmp 87) 51 105 (.agg #[(.int .i64 0), (.int .i64 0)]) 16 rfl Try.underlying51 info105 rfl (by decide) (by omega) v274 y273 (⟨(wrap64 (((rd_T105 x5_1 x10_2).f0) - t252)), (wrap64 (((rd_T105 x5_1 x10_2).f1) - t253))⟩ : S105) [.int .i64 (wrap64 (((rd_T105 x5_1 x10_2).f0) - t252)), .int .i64 (wrap64 (((rd_T105 x5_1 x10_2).f1) - t253))] (fun k_ => some k_ ≠ (.slice (some ad261) x5_1.length co13 : Value).ownBlock ∧ some k_ ≠ (.slice (some ad264) x9_2.length co28 : Value).ownBlock ∧ k_ ≠ gb256 ∧ k_ ≠ gb257 ∧ k_ ≠ gb263) (fun _ => False) rfl rfl ?aP (fun _ hk => hk.elim) ?aF ?aO ?aB ?aS ?aL ?_; (case aP => exact k105_mkM _ _ _ (⟨(wrap64 (((rd_T105 x5_1 x10_2).f0) - t252)), (wrap64 (((rd_T105 x5_1 x10_2).f1) - t253))⟩ : S105)); (case aB => exact (bs3_ HB.out GE256.out GE257.out GE263.out)); (case aF => exact (fun k_ hk => ⟨Kd.fresh' (Kd.R_lt (r_ HO_5.out)) k_ hk, Kd.fresh' (Kd.R_lt (r_ HO_9.out)) k_ hk, Kd.freshB (g := gb256) (o := .cells #[.int .i64 t252, .int .i64 t253] 105 (0, 0)) (bl_ BK256.out) k_ hk, Kd.freshB (g := gb257) (o := .cells #[.int .i64 t254, .int .i64 t255] 105 (0, 0)) (bl_ BK257.out) k_ hk, Kd.freshB (g := gb263) (o := .cells #[.int .i64 (wrap64 (((rd_T105 x5_1 x10_2).f0) - t252)), .int .i64 (wrap64 (((rd_T105 x5_1 x10_2).f1) - t253))] 105 (0, 0)) (bl_ BK263.out) k_ hk⟩)); (case aO => exact (r_ HO275.out)); (case aS => exact (below_size (bs3_ HB.out GE256.out GE257.out GE263.out))); (case aL => have := LMc40.out; omega); intro v277 w53 ho hb hg hat; rw [← Ny276.out] at ho; replace HO_5 := mkA (Kd.R_after (ok := (fun k_ => some k_ ≠ (.slice (some ad264) x9_2.length co28 : Value).ownBlock ∧ k_ ≠ gb256 ∧ k_ ≠ gb257 ∧ k_ ≠ gb263)) (r_ HO_5.out) hg hat); replace BK256 := mkA (blk_grown (g := gb256) (o := .cells #[.int .i64 t252, .int .i64 t253] 105 (0, 0)) (bl_ BK256.out) hg (Kd.R_away HO275.out (fun _ hk => hk.2.2.1))); replace BK257 := mkA (blk_grown (g := gb257) (o := .cells #[.int .i64 t254, .int .i64 t255] 105 (0, 0)) (bl_ BK257.out) hg (Kd.R_away HO275.out (fun _ hk => hk.2.2.2.1))); replace BK263 := mkA (blk_grown (g := gb263) (o := .cells #[.int .i64 (wrap64 (((rd_T105 x5_1 x10_2).f0) - t252)), .int .i64 (wrap64 (((rd_T105 x5_1 x10_2).f1) - t253))] 105 (0, 0)) (bl_ BK263.out) hg (Kd.R_away HO275.out (fun _ hk => hk.2.2.2.2))); replace HB := mkA (hb); replace HR272 := mkA ((show Kd.C k105 w53 (some ad264) y269.length y269 from by rw [Ny269.out]; exact Kd.C_take (m := (x12_3 : Int).toNat) ((Kd.R_reads' (Kd.R_after (ok := (fun k_ => some k_ ≠ (.slice (some ad261) x5_1.length co13 : Value).ownBlock ∧ k_ ≠ gb256 ∧ k_ ≠ gb257 ∧ k_ ≠ gb263)) (r_ HO_9.out) hg hat)).2.2) KL48.out)); replace HO_9 := mkA (Kd.R_after (ok := (fun k_ => some k_ ≠ (.slice (some ad261) x5_1.length co13 : Value).ownBlock ∧ k_ ≠ gb256 ∧ k_ ≠ gb257 ∧ k_ ≠ gb263)) (r_ HO_9.out) hg hat); have HO278 := mkA (ho); clear HO275; clear ho hb hg hat; have q54 : (x12_3 : Int) ≤ ((x9_2.length : Int) : Int) := dt_; obtain ⟨i054, hi054, _, hsz54, _⟩ := info_parts info105; have hroom54 : x9_2.length ≤ co28 := (Kd.R_reads' HO_9.out).2.1; have hC54 : Kd.C k105 _ (some ad264) x9_2.length x9_2 := (Kd.R_reads' HO_9.out).2.2; have q054 : (0 : Int) ≤ (x12_3 : Int) := dt_; have hcut54 := cut_from (P := Try.prog) 51 105 .i64 Try.underlying51 hi054 2 hsz54 (some ad264) x9_2.length co28 x12_3 q054 q54; have hr54 := Kd.C_drop (m := (x12_3 : Int).toNat) (c := co28) hC54 (by omega) hroom54; obtain ⟨A54, hA54⟩ : ∃ A1, A1 = (if co28 = (x12_3 : Int).toNat then (some ad264) else ((some ad264) : Option Addr).map (·.add ((x12_3 : Int).toNat * 2))) := ⟨_, rfl⟩; obtain ⟨c54, hc54⟩ : ∃ c1, c1 = co28 - (x12_3 : Int).toNat := ⟨_, rfl⟩; have hy54 : y279.length = x9_2.length - (x12_3 : Int).toNat := (by rw [Ny279.out, List.length_drop] <;> omega); rw [show (x9_2).drop (x12_3 : Int).toNat = y279 from Ny279.out.symm] at hr54; replace hr54 : Kd.C k105 _ A54 y279.length y279 := (by rw [hA54]; exact hr54); rw [← hy54, ← hA54, ← hc54] at hcut54; have HR282 := mkA hr54; have HC282 := mkA (show y279.length ≤ c54 from by rw [hy54, hc54]; exact Nat.sub_le_sub_right hroom54 _); clear hr54 hC54 hroom54 hi054 hsz54 hc54; have KY54 := mkA hy54; have KA54 := mkA hA54; clear hy54 hA54; have KL54 := mkA (show (x12_3 : Int).toNat ≤ x9_2.length from by omega); replace q54 := eq_true q54) | ((with_reducible refine gate_builtin (b := .append) (xs := #[.tmp 89, .tmp 92]) rfl ?_); at_builtin; refine Kd.R_append_rows k105 (w0 := w) w.heap.size rfl (.tmp 89) (.tmp 92) 51 105 (.agg #[(.int .i64 0), (.int .i64 0)]) 16 rfl Try.underlying51 info105 rfl (by decide) (by omega) v277 y276 y279 _ _ _ (fun k_ => some k_ ≠ (.slice (some ad261) x5_1.length co13 : Value).ownBlock ∧ some k_ ≠ (.slice (some ad264) x9_2.length co28 : Value).ownBlock ∧ k_ ≠ gb256 ∧ k_ ≠ gb257 ∧ k_ ≠ gb263) (fun _ => False) rfl rfl ?aO ?aR (fun _ _ h => h) (fun _ h => h.elim) ?aF ?aB ?aS ?aL ?_; (case aR => repeat (first | exact (by repeat (first | (with_reducible exact HR282.out) | (with_reducible refine Kd.C_alloc ?_ _) | (with_reducible refine Kd.C_drewN ?_ _) | (with_reducible refine Kd.C_drew ?_) | exact HR282.out)) | (with_reducible refine Kd.C_alloc ?_ _) | (with_reducible refine Kd.C_drewN ?_ _) | (with_reducible refine Kd.C_drew ?_))); (case aB => exact (bs3_ HB.out GE256.out GE257.out GE263.out)); (case aF => exact (fun k_ hk => ⟨Kd.fresh' (Kd.R_lt (r_ HO_5.out)) k_ hk, Kd.fresh' (Kd.R_lt (r_ HO_9.out)) k_ hk, Kd.freshB (g := gb256) (o := .cells #[.int .i64 t252, .int .i64 t253] 105 (0, 0)) (bl_ BK256.out) k_ hk, Kd.freshB (g := gb257) (o := .cells #[.int .i64 t254, .int .i64 t255] 105 (0, 0)) (bl_ BK257.out) k_ hk, Kd.freshB (g := gb263) (o := .cells #[.int .i64 (wrap64 (((rd_T105 x5_1 x10_2).f0) - t252)), .int .i64 (wrap64 (((rd_T105 x5_1 x10_2).f1) - t253))] 105 (0, 0)) (bl_ BK263.out) k_ hk⟩)); (case aO => exact (r_ HO278.out)); (case aS => exact (below_size (bs3_ HB.out GE256.out GE257.out GE263.out))); (case aL => have := LMc43.out; omega); intro v284 w55 ho hb hg hat; rw [← Ny283.out] at ho; replace HO_5 := mkA (Kd.R_after (ok := (fun k_ => some k_ ≠ (.slice (some ad264) x9_2.length co28 : Value).ownBlock ∧ k_ ≠ gb256 ∧ k_ ≠ gb257 ∧ k_ ≠ gb263)) (r_ HO_5.out) hg hat); replace BK256 := mkA (blk_grown (g := gb256) (o := .cells #[.int .i64 t252, .int .i64 t253] 105 (0, 0)) (bl_ BK256.out) hg (Kd.R_away HO278.out (fun _ hk => hk.2.2.1))); replace BK257 := mkA (blk_grown (g := gb257) (o := .cells #[.int .i64 t254, .int .i64 t255] 105 (0, 0)) (bl_ BK257.out) hg (Kd.R_away HO278.out (fun _ hk => hk.2.2.2.1))); replace BK263 := mkA (blk_grown (g := gb263) (o := .cells #[.int .i64 (wrap64 (((rd_T105 x5_1 x10_2).f0) - t252)), .int .i64 (wrap64 (((rd_T105 x5_1 x10_2).f1) - t253))] 105 (0, 0)) (bl_ BK263.out) hg (Kd.R_away HO278.out (fun _ hk => hk.2.2.2.2))); replace HB := mkA (hb); replace HR272 := mkA ((show Kd.C k105 w55 (some ad264) y269.length y269 from by rw [Ny269.out]; exact Kd.C_take (m := (x12_3 : Int).toNat) ((Kd.R_reads' (Kd.R_after (ok := (fun k_ => some k_ ≠ (.slice (some ad261) x5_1.length co13 : Value).ownBlock ∧ k_ ≠ gb256 ∧ k_ ≠ gb257 ∧ k_ ≠ gb263)) (r_ HO_9.out) hg hat)).2.2) KL48.out)); replace HR282 := mkA ((show Kd.C k105 w55 A54 y279.length y279 from by rw [Ny279.out, KA54.out]; exact Kd.C_drop (m := (x12_3 : Int).toNat) (c := co28) ((Kd.R_reads' (Kd.R_after (ok := (fun k_ => some k_ ≠ (.slice (some ad261) x5_1.length co13 : Value).ownBlock ∧ k_ ≠ gb256 ∧ k_ ≠ gb257 ∧ k_ ≠ gb263)) (r_ HO_9.out) hg hat)).2.2) KL54.out ((Kd.R_reads' (Kd.R_after (ok := (fun k_ => some k_ ≠ (.slice (some ad261) x5_1.length co13 : Value).ownBlock ∧ k_ ≠ gb256 ∧ k_ ≠ gb257 ∧ k_ ≠ gb263)) (r_ HO_9.out) hg hat)).2.1))); replace HO_9 := mkA (Kd.R_after (ok := (fun k_ => some k_ ≠ (.slice (some ad261) x5_1.length co13 : Value).ownBlock ∧ k_ ≠ gb256 ∧ k_ ≠ gb257 ∧ k_ ≠ gb263)) (r_ HO_9.out) hg hat); have HO285 := mkA (ho); clear HO278; clear ho hb hg hat))
           go_roundg k3
           case measure => have := HK1.out; have := HK2.out; have := HK3.out; omega
           case rel => exact ⟨(y283), (wrap64 (x10_2 + 1)), rf_, H', ⟨on3_ HK1.out HK2.out HK3.out⟩, ⟨by refine r_ ?_; exact Kd.R_mono HO_5.out (fun _ hk => ⟨hk.2, ⟨hk.1.2.1, hk.1.2.2.1⟩⟩)⟩, ⟨by refine r_ ?_; exact Kd.R_mono HO285.out (fun _ hk => ⟨hk.1, ⟨hk.2.2.1, hk.2.2.2.1⟩⟩)⟩, ⟨bl_ BK256.out⟩, ⟨bl_ BK257.out⟩, ⟨bs3_ HB.out GE256.out GE257.out GE263.out⟩⟩
end Go.Proofs.Ytakagkflgkoiiaa.GFnExactIsCover

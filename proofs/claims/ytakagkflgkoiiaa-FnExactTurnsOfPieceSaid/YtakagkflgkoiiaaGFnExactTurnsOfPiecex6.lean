-- Written by the session's own program (gen.py) out of the translation's print. Lean checks it.
import Derived.Test.YtakagkflgkoiiaaGFnExactTurnsOfPiecex0
import Derived.Test.YtakagkflgkoiiaaGFnExactTurnsOfPiecex2
import Derived.Test.YtakagkflgkoiiaaGFnExactTurnsOfPiecex3
import Derived.Test.YtakagkflgkoiiaaGFnExactTurnsOfPiecex5
namespace Go.Proofs.Ytakagkflgkoiiaa.GFnExactTurnsOfPiece
open Go.RowKit Go.Proofs.YtakagkflgkoiiaaW.PrintWords Go.Proofs.YtakagkflgkoiiaaW.PrintLast Go.Proofs.YtakagkflgkoiiaaW.PrintMore
attribute [local go_sem] max2_int min2_int max_two min_two max_three min_three max_four min_four   -- for this text's walks alone
set_option linter.unusedVariables false
set_option linter.unusedSimpArgs false

/-! ### spec_l19Turned: function 95 -/
mutual
def spec_l19Turned.l0 : Nat → Int → List (S105) → Int → List (S53) → Option ((List (S105)))
  | 0, _, _, _, _ => none
  | k + 1, x1, x5, x6, x960 => if 0 < (x960.length : Int) then (if x6 < (((rd_T53 x960 0).f1).length : Int) then (if 0 ≤ x6 then ((spec_l02Turned.f k ((rd_T105 ((rd_T53 x960 0).f1) x6).f0) ((rd_T105 ((rd_T53 x960 0).f1) x6).f1) x1).bind fun bt157 => (if x5.length < 8796093022208 then (spec_l19Turned.l0 k x1 (x5 ++ [(⟨bt157.1, bt157.2⟩ : S105)]) (wrap64 (x6 + 1)) x960) else (none))) else (none)) else ((spec_l03Bounds.f k x5).bind fun bt162 => (spec_l19Turned.l1 k x5 (([] : List (S105))) 0 bt162.1 bt162.2.1))) else (none)
def spec_l19Turned.l1 : Nat → List (S105) → List (S105) → Int → Int → Int → Option ((List (S105)))
  | 0, _, _, _, _, _ => none
  | k + 1, x5, x9, x10, x167000, x167001 => if x10 < (x5.length : Int) then (if 0 ≤ x10 then (spec_l19Turned.l2 k x5 x9 x10 (x9.length : Int) x167000 x167001 (wrap64 (((rd_T105 x5 x10).f0) - x167000)) (wrap64 (((rd_T105 x5 x10).f1) - x167001))) else (none)) else (some x9)
def spec_l19Turned.l2 : Nat → List (S105) → List (S105) → Int → Int → Int → Int → Int → Int → Option ((List (S105)))
  | 0, _, _, _, _, _, _, _, _ => none
  | k + 1, x5, x9, x10, x12, x167000, x167001, x174000, x174001 => if x12 > 0 then (if 0 ≤ (wrap64 (x12 - 1)) then (if (wrap64 (x12 - 1)) < (x9.length : Int) then ((spec_l19Before.f x174000 x174001 ((rd_T105 x9 (wrap64 (x12 - 1))).f0) ((rd_T105 x9 (wrap64 (x12 - 1))).f1)).bind fun t175 => (if t175 = true then (spec_l19Turned.l2 k x5 x9 x10 (wrap64 (x12 - 1)) x167000 x167001 x174000 x174001) else ((some (([] : List (S105)) : List (S105))).bind fun y176 => (if 0 ≤ x12 then (if x12 ≤ (x9.length : Int) then ((some (x9.take (x12 : Int).toNat : List (S105))).bind fun y179 => (if y176.length + y179.length < 8796093022208 then ((some (y176 ++ y179 : List (S105))).bind fun y183 => (if y183.length < 8796093022208 then ((some (y183 ++ [(⟨x174000, x174001⟩ : S105)] : List (S105))).bind fun y186 => ((some (x9.drop (x12 : Int).toNat : List (S105))).bind fun y189 => (if y186.length + y189.length < 8796093022208 then (spec_l19Turned.l1 k x5 (y186 ++ y189) (wrap64 (x10 + 1)) x167000 x167001) else (none)))) else (none))) else (none))) else (none)) else (none))))) else (none)) else (none)) else ((some (([] : List (S105)) : List (S105))).bind fun y196 => (if 0 ≤ x12 then (if x12 ≤ (x9.length : Int) then ((some (x9.take (x12 : Int).toNat : List (S105))).bind fun y199 => (if y196.length + y199.length < 8796093022208 then ((some (y196 ++ y199 : List (S105))).bind fun y203 => (if y203.length < 8796093022208 then ((some (y203 ++ [(⟨x174000, x174001⟩ : S105)] : List (S105))).bind fun y206 => ((some (x9.drop (x12 : Int).toNat : List (S105))).bind fun y209 => (if y206.length + y209.length < 8796093022208 then (spec_l19Turned.l1 k x5 (y206 ++ y209) (wrap64 (x10 + 1)) x167000 x167001) else (none)))) else (none))) else (none))) else (none)) else (none)))
end
def spec_l19Turned.f (k : Nat) (l0 : List (S53)) (a1 : Int) : Option ((List (S105))) := spec_l19Turned.l0 k a1 (([] : List (S105))) 0 l0
def spec_l19Turned.T11 : Bool × List (List Nat × List Nat) := (true, [([], []), ([], []), ([0, 1], [0, 1]), ([2], [2]), ([3], [3]), ([], []), ([5], [5]), ([4, 6], [4, 6]), ([], []), ([], []), ([8, 9], [8, 9]), ([10], [10]), ([11], [11]), ([], []), ([13], [13]), ([12, 14], [12, 14]), ([7, 15], [7, 15]), ([], []), ([17, 16, 0, 1, 2, 3, 4, 5, 6, 7, 8, 9, 10, 11, 12, 13, 14, 15, 16, 17], [16, 17])])
def spec_l19Turned.B11 : List Nat := [0, 0, 3, 7, 15, 0, 32, 127, 0, 0, 768, 1792, 3840, 0, 8192, 32512, 65535, 0, 262143]
theorem spec_l19Turned.tab11 : rtab .any (opsOf Try.f95 11) = spec_l19Turned.T11 := by kernel_rfl
theorem spec_l19Turned.bits11 : waitsOk spec_l19Turned.T11.2 spec_l19Turned.B11 = true := by kernel_rfl
def spec_l19Turned.T13 : Bool × List (List Nat × List Nat) := (true, [([], []), ([0], [0]), ([1], [1]), ([2], [2]), ([2], [2]), ([2], [2]), ([5, 2], [2, 5]), ([4, 6, 2], [2, 4, 6]), ([7, 2], [2, 7]), ([3, 8, 2, 2], [2, 3, 8]), ([2, 9], [2, 9])])
def spec_l19Turned.B13 : List Nat := [0, 1, 3, 7, 7, 7, 39, 119, 247, 511, 1023]
theorem spec_l19Turned.tab13 : rtab .any (opsOf Try.f95 13) = spec_l19Turned.T13 := by kernel_rfl
theorem spec_l19Turned.bits13 : waitsOk spec_l19Turned.T13.2 spec_l19Turned.B13 = true := by kernel_rfl
open List renaming setIfInBounds_toArray → sA, set_cons_zero → sB, set_cons_succ → sC
open Go.Proofs.YtakagkflgkoiiaaW.PrintWords.Aside0 renaming mk → mkA
open Go.Proofs.YtakagkflgkoiiaaX (dt_ bc_ p0_ p1_ bl_ cb_ bs0_ bs1_ bs2_ bs3_ bs4_ bs5_ bs6_ bs7_ bs8_ bs9_ bs10_ bs11_ bs12_)
abbrev spec_l19Turned.d0 : Array Bool := #[false, false, false, false, false, false, false, false, false, false, false, false, false, false, false, false, false, false, false]
abbrev spec_l19Turned.d1 : Array Bool := #[true, false, false, false, false, false, false, false, false, false, false, false, false, false, false, false, false, false, false]
abbrev spec_l19Turned.d2 : Array Bool := #[true, true, false, false, false, false, false, false, false, false, false, false, false, false, false, false, false, false, false]
abbrev spec_l19Turned.d3 : Array Bool := #[true, true, true, false, false, false, false, false, false, false, false, false, false, false, false, false, false, false, false]
abbrev spec_l19Turned.d4 : Array Bool := #[true, true, true, true, false, false, false, false, false, false, false, false, false, false, false, false, false, false, false]
abbrev spec_l19Turned.d5 : Array Bool := #[true, true, true, true, false, true, false, false, false, false, false, false, false, false, false, false, false, false, false]
abbrev spec_l19Turned.d6 : Array Bool := #[true, true, true, true, false, true, false, false, true, false, false, false, false, false, false, false, false, false, false]
abbrev spec_l19Turned.d7 : Array Bool := #[true, true, true, true, false, true, false, false, true, true, false, false, false, false, false, false, false, false, false]
abbrev spec_l19Turned.d8 : Array Bool := #[true, true, true, true, false, true, false, false, true, true, true, false, false, false, false, false, false, false, false]
abbrev spec_l19Turned.d9 : Array Bool := #[true, true, true, true, false, true, false, false, true, true, true, true, false, false, false, false, false, false, false]
abbrev spec_l19Turned.d10 : Array Bool := #[true, true, true, true, false, true, false, false, true, true, true, true, false, true, false, false, false, false, false]
abbrev spec_l19Turned.d11 : Array Bool := #[true, true, true, true, true, true, false, false, true, true, true, true, false, true, false, false, false, false, false]
abbrev spec_l19Turned.d12 : Array Bool := #[true, true, true, true, true, true, true, false, true, true, true, true, false, true, false, false, false, false, false]
abbrev spec_l19Turned.d13 : Array Bool := #[true, true, true, true, true, true, true, true, true, true, true, true, false, true, false, false, false, false, false]
abbrev spec_l19Turned.d14 : Array Bool := #[true, true, true, true, true, true, true, true, true, true, true, true, true, true, false, false, false, false, false]
abbrev spec_l19Turned.d15 : Array Bool := #[true, true, true, true, true, true, true, true, true, true, true, true, true, true, true, false, false, false, false]
abbrev spec_l19Turned.d16 : Array Bool := #[true, true, true, true, true, true, true, true, true, true, true, true, true, true, true, true, false, false, false]
abbrev spec_l19Turned.d17 : Array Bool := #[true, true, true, true, true, true, true, true, true, true, true, true, true, true, true, true, true, false, false]
abbrev spec_l19Turned.d18 : Array Bool := #[true, true, true, true, true, true, true, true, true, true, true, true, true, true, true, true, true, true, false]
abbrev spec_l19Turned.d19 : Array Bool := #[true, true, true, true, true, true, true, true, true, true, true, true, true, true, true, true, true, true, true]
abbrev spec_l19Turned.d20 : Array Bool := #[false, false, false, false, false, false, false, false, false, false, false]
abbrev spec_l19Turned.d21 : Array Bool := #[true, false, false, false, false, false, false, false, false, false, false]
abbrev spec_l19Turned.d22 : Array Bool := #[true, true, false, false, false, false, false, false, false, false, false]
abbrev spec_l19Turned.d23 : Array Bool := #[true, true, true, false, false, false, false, false, false, false, false]
abbrev spec_l19Turned.d24 : Array Bool := #[true, true, true, false, true, false, false, false, false, false, false]
abbrev spec_l19Turned.d25 : Array Bool := #[true, true, true, false, true, true, false, false, false, false, false]
abbrev spec_l19Turned.d26 : Array Bool := #[true, true, true, false, true, true, true, false, false, false, false]
abbrev spec_l19Turned.d27 : Array Bool := #[true, true, true, false, true, true, true, true, false, false, false]
abbrev spec_l19Turned.d28 : Array Bool := #[true, true, true, true, true, true, true, true, false, false, false]
abbrev spec_l19Turned.d29 : Array Bool := #[true, true, true, true, true, true, true, true, true, false, false]
abbrev spec_l19Turned.d30 : Array Bool := #[true, true, true, true, true, true, true, true, true, true, false]
abbrev spec_l19Turned.d31 : Array Bool := #[true, true, true, true, true, true, true, true, true, true, true]
abbrev spec_l19Turned.d32 : Array Bool := #[true, true, true, true, false, false, false, false, false, false, false]
abbrev spec_l19Turned.d33 : Array Bool := #[true, true, true, true, true, false, false, false, false, false, false]
abbrev spec_l19Turned.d34 : Array Bool := #[true, true, true, true, true, true, false, false, false, false, false]
abbrev spec_l19Turned.d35 : Array Bool := #[true, true, true, true, true, true, true, false, false, false, false]
set_option maxHeartbeats 8000000 in
set_option maxRecDepth 100000 in
theorem spec_l19Turned.calls (k : Nat) (A0 : Option Addr) (l0 : List (S53)) (a1 : Int) (r : List (S105)) (w : World) (hr0 : Kd.C k53 w A0 l0.length l0) (h : spec_l19Turned.f k l0 a1 = some r) :
 Calls Try.prog 95 #[.pointer A0, .int .i64 a1] w fun e w' => ∃ v0_ : Value, e = .returned (v0_) ∧ Kd.R k105 105 w' w.heap.size (fun _ => True) v0_ r ∧ Below w.heap.size w w' := by
 have hu105 := Try.underlying105
 have HR0 := mkA hr0
 clear hr0
 have HB := mkA (Below.refl w.heap.size w)
 have H : (spec_l19Turned.l0 k a1 (([] : List (S105))) 0 l0) = some r := h
 clear h
 obtain ⟨y151, hy151⟩ : ∃ y_ : List (S105), y_ = (([] : List (S105))) := ⟨_, rfl⟩
 replace H : (spec_l19Turned.l0 k a1 y151 0 l0) = some r := by first | (rw [hy151]; with_reducible exact H) | (have H2_ := (Option.bind_some _ _).symm.trans H; rw [hy151]; with_reducible exact H2_) | (have H2_ := (Option.bind_some _ _).symm.trans H; with_reducible exact H2_) | with_reducible exact H | (rw [hy151]; exact H) | exact H
 have Ny151 := mkA hy151
 clear hy151
 have H' := mkA H
 clear H
 go_enter Try.func95, Try.ntmps95
 go_wp2_with (first | ((with_reducible refine gate_dst (N := 14) rfl ?_); refine Kd.R_lit k105 _ 105 ?hg (N := 14) ?hd (xs := ([] : List (S105))) (inner := []) (ok := fun _ => True) (okp := fun _ => True) ?hr ?hp (fun _ hk => hk) trivial (Below.refl _ _) (Nat.le_refl _) (by simp) ?_; (case hd => rfl); (case hg => rfl); (case hr => first | (go_simp; done) | (go_simp; rfl)); (case hp => exact (Reps.none _ _)); intro v152 w3 ho4 hb hg_ hnew_; clear hg_ hnew_; (first | rw [← Ny151.out] at ho4 | (simp only [Int.reduceToNat] at ho4; rw [← Ny151.out] at ho4)); have n0_ := mkA (Kd.R_lower ho4 (below_size (bs0_ HB.out))); have n1_ := mkA (below_step (bs0_ HB.out) hb); clear HB; have HO153 := n0_; have HB := n1_; clear n0_ n1_; clear hb ho4))
 go_loopg [5, 6] k (fun kq v5 v6 w' => ∃ (x5_1 : List (S105)) (x6_1 : Int), v6 = .int .i64 x6_1 ∧ Aside0 (spec_l19Turned.l0 kq a1 x5_1 x6_1 l0 = some r) ∧ Aside0 (kq ≤ k) ∧ Aside0 (Kd.R k105 105 w' w.heap.size (fun _ => True) v5 x5_1) ∧ Aside0 (Below w.heap.size w w'))
 case atStart => exact ⟨(y151), (0), (by first | rfl | (simp; done) | (simp [*]; done) | (simp [i64_w, i32_w]; done)), H', ⟨Nat.le_refl _⟩, ⟨by (with_reducible repeat (first | apply Kd.R_alloc | apply Kd.R_drewN | apply Kd.R_drew)); exact HO153.out⟩, ⟨by repeat (first | (with_reducible first | exact HB.out | apply below_alloc | apply pw_below_drewN | apply below_drew1) | exact HB.out)⟩⟩
 case round =>
  clear H'
  try clear p2
  obtain ⟨x5_1, x6_1, rfl, HA, HK1, HO_5, HB⟩ := hrel
  cases gk with
  | zero => exact absurd HA.out (by simp [spec_l19Turned.l0])
  | succ k1 =>
   have H := HA.out
   clear HA
   simp only [spec_l19Turned.l0] at H
   by_cases c5 : 0 < (l0.length : Int)
   rotate_left
   · rw [if_neg c5] at H
     exact absurd H (by simp)

   rw [if_pos c5] at H
   have c5b0 : decide (0 < (l0.length : Int)) = true := decide_eq_true c5
   have c5b1 : decide (0 < l0.length) = true := decide_eq_true (by omega)
   clear c5
   by_cases c6 : x6_1 < (((rd_T53 l0 0).f1).length : Int)
   · rw [if_pos c6] at H
     have c6b0 : decide (x6_1 < (((rd_T53 l0 0).f1).length : Int)) = true := decide_eq_true c6
     clear c6
     by_cases c7 : 0 ≤ x6_1
     rotate_left
     · rw [if_neg c7] at H
       exact absurd H (by simp)
     rw [if_pos c7] at H
     have c7b0 : decide (0 ≤ x6_1) = true := decide_eq_true c7
     clear c7
     replace H := Option.bind_eq_some_iff.mp H
     obtain ⟨⟨t157, t158⟩, A80, H⟩ := H
     replace H : (if x5_1.length < 8796093022208 then (spec_l19Turned.l0 k1 a1 (x5_1 ++ [(⟨t157, t158⟩ : S105)]) (wrap64 (x6_1 + 1)) l0) else (none)) = some r := H
     have A8 := mkA A80
     clear A80
     by_cases c9 : x5_1.length < 8796093022208
     rotate_left
     · rw [if_neg c9] at H
       exact absurd H (by simp)
     rw [if_pos c9] at H
     have LMc9 := mkA c9
     clear c9
     obtain ⟨y159, hy159⟩ : ∃ y_ : List (S105), y_ = (x5_1 ++ [(⟨t157, t158⟩ : S105)]) := ⟨_, rfl⟩
     replace H : (spec_l19Turned.l0 k1 a1 y159 (wrap64 (x6_1 + 1)) l0) = some r := by first | (rw [hy159]; with_reducible exact H) | (have H2_ := (Option.bind_some _ _).symm.trans H; rw [hy159]; with_reducible exact H2_) | (have H2_ := (Option.bind_some _ _).symm.trans H; with_reducible exact H2_) | with_reducible exact H | (rw [hy159]; exact H) | exact H
     have Ny159 := mkA hy159
     clear hy159
     have H' := mkA H
     clear H
     have p154 : 0 ≤ (0 : Int) := (by omega)
     have q154 : 0 < (l0.length : Int) := dt_
     obtain ⟨ad154, A154_1, c154_1, e154, hx154_0, hx154_1, hx154_2, hx154_3, hl154_1, hi154_1⟩ := at0_T53 HR0.out q154
     cases e154
     have qi154 : (0 < l0.length) = True := eq_true (by omega)
     replace hx154_0 := bc_ HB.out hx154_0
     replace hx154_1 := bc_ HB.out hx154_1
     replace hx154_2 := bc_ HB.out hx154_2
     replace hx154_3 := bc_ HB.out hx154_3
     have HR154_1 := mkA hi154_1
     have HC154_1 := mkA hl154_1
     clear hi154_1 hl154_1
     replace p154 := eq_true p154
     replace q154 := eq_true q154
     have p155 : 0 ≤ (0 : Int) := (by omega)
     have q155 : 0 < (l0.length : Int) := dt_
     obtain ⟨ad155, A155_1, c155_1, e155, hx155_0, hx155_1, hx155_2, hx155_3, hl155_1, hi155_1⟩ := at0_T53 HR0.out q155
     obtain rfl : ad154 = ad155 := (by injection e155)
     have qi155 : (0 < l0.length) = True := eq_true (by omega)
     replace hx155_0 := bc_ HB.out hx155_0
     replace hx155_1 := bc_ HB.out hx155_1
     replace hx155_2 := bc_ HB.out hx155_2
     replace hx155_3 := bc_ HB.out hx155_3
     have HR155_1 := mkA hi155_1
     have HC155_1 := mkA hl155_1
     clear hi155_1 hl155_1
     replace p155 := eq_true p155
     replace q155 := eq_true q155
     have ea_ := Option.some.inj (hx154_1.symm.trans hx155_1)
     injection ea_ with ea_ en_ ec_
     subst ea_
     subst ec_
     clear en_
     have p156 : 0 ≤ (x6_1 : Int) := dt_
     have q156 : x6_1 < (((rd_T53 l0 0).f1).length : Int) := dt_
     obtain ⟨ad156, e156, hx156_0, hx156_1⟩ := at_T105 HR155_1.out x6_1 p156 q156
     cases e156
     replace hx156_0 := bc_ HB.out hx156_0
     replace hx156_1 := bc_ HB.out hx156_1
     replace p156 := eq_true p156
     replace q156 := eq_true q156
     go_wp2_with (first | ((with_reducible refine gate_callee (f := 110) rfl ?_); refine goesL_ (some 33) rfl rfl Try.func110 (by kernel_rfl) rfl #[.agg #[.int .i64 ((rd_T105 ((rd_T53 l0 0).f1) x6_1).f0), .int .i64 ((rd_T105 ((rd_T53 l0 0).f1) x6_1).f1)], .int .i64 a1] rfl (by (try simp only [List.map_toArray, List.map_cons, List.map_nil]); first | done | rfl | (simp only [List.length_drop, List.length_take]; rfl)) ?_; (with_reducible refine (spec_l02Turned.calls k1 ((rd_T105 ((rd_T53 l0 0).f1) x6_1).f0) ((rd_T105 ((rd_T53 l0 0).f1) x6_1).f1) a1 t157 t158 _ A8.out).mono ?_); rintro e w10 ⟨rfl, hb⟩; refine ⟨_, rfl, ?_⟩; have n0_ := mkA (Kd.R_below (by (with_reducible repeat (first | apply Kd.R_alloc | apply Kd.R_drewN | apply Kd.R_drew)); exact HO_5.out) hb); have n1_ := mkA (below_step (bs0_ HB.out) hb); clear HO_5; clear HB; have HO_5 := n0_; have HB := n1_; clear n0_ n1_; (try clear hb); (try clear hb2); (try clear hk); (try clear hi)) | ((with_reducible refine gate_builtin (b := .append) (xs := #[.tmp 24, .tmp 34]) rfl ?_); at_builtin; refine Kd.R_append k105 (w0 := w) w.heap.size rfl (.tmp 24) (.tmp 34) 51 105 (.agg #[(.int .i64 0), (.int .i64 0)]) 16 rfl Try.underlying51 info105 rfl (by decide) (by omega) u5 x5_1 (⟨t157, t158⟩ : S105) [.int .i64 t157, .int .i64 t158] (fun _ => True) (fun _ => False) rfl rfl ?aP (fun _ hk => hk.elim) ?aF ?aO ?aB ?aS ?aL ?_; (case aP => exact k105_mkM _ _ _ (⟨t157, t158⟩ : S105)); (case aB => exact (bs0_ HB.out)); (case aF => exact (fun _ _ => trivial)); (case aO => exact (by (with_reducible repeat (first | apply Kd.R_alloc | apply Kd.R_drewN | apply Kd.R_drew)); exact HO_5.out)); (case aS => exact (below_size (bs0_ HB.out))); (case aL => have := LMc9.out; omega); intro v160 w11 ho hb hg hat; rw [← Ny159.out] at ho; have n0_ := mkA (hb); have n1_ := mkA (ho); clear HB; clear HO_5; have HB := n0_; have HO161 := n1_; clear n0_ n1_; clear ho hb hg hat))
     go_roundg k1
     case measure => have := HK1.out; omega
     case rel => exact ⟨(y159), (wrap64 (x6_1 + 1)), (by first | rfl | (simp; done) | (simp [*]; done) | (simp [i64_w, i32_w]; done)), H', ⟨by have := HK1.out; omega⟩, ⟨by (with_reducible repeat (first | apply Kd.R_alloc | apply Kd.R_drewN | apply Kd.R_drew)); exact HO161.out⟩, ⟨by repeat (first | (with_reducible first | exact HB.out | apply below_alloc | apply pw_below_drewN | apply below_drew1) | exact HB.out)⟩⟩
   · rw [if_neg c6] at H
     have c6b0 : decide (x6_1 < (((rd_T53 l0 0).f1).length : Int)) = false := decide_eq_false c6
     clear c6
     replace H := Option.bind_eq_some_iff.mp H
     obtain ⟨⟨t162, t163, t164, t165⟩, A120, H⟩ := H
     replace H : (spec_l19Turned.l1 k1 x5_1 (([] : List (S105))) 0 t162 t163) = some r := H
     have A12 := mkA A120
     clear A120
     obtain ⟨y168, hy168⟩ : ∃ y_ : List (S105), y_ = (([] : List (S105))) := ⟨_, rfl⟩
     replace H : (spec_l19Turned.l1 k1 x5_1 y168 0 t162 t163) = some r := by first | (rw [hy168]; with_reducible exact H) | (have H2_ := (Option.bind_some _ _).symm.trans H; rw [hy168]; with_reducible exact H2_) | (have H2_ := (Option.bind_some _ _).symm.trans H; with_reducible exact H2_) | with_reducible exact H | (rw [hy168]; exact H) | exact H
     have Ny168 := mkA hy168
     clear hy168
     have H' := mkA H
     clear H
     have p154 : 0 ≤ (0 : Int) := (by omega)
     have q154 : 0 < (l0.length : Int) := dt_
     obtain ⟨ad154, A154_1, c154_1, e154, hx154_0, hx154_1, hx154_2, hx154_3, hl154_1, hi154_1⟩ := at0_T53 HR0.out q154
     cases e154
     have qi154 : (0 < l0.length) = True := eq_true (by omega)
     replace hx154_0 := bc_ HB.out hx154_0
     replace hx154_1 := bc_ HB.out hx154_1
     replace hx154_2 := bc_ HB.out hx154_2
     replace hx154_3 := bc_ HB.out hx154_3
     have HR154_1 := mkA hi154_1
     have HC154_1 := mkA hl154_1
     clear hi154_1 hl154_1
     replace p154 := eq_true p154
     replace q154 := eq_true q154
     obtain ⟨Ao13, co13, eo13⟩ := Kd.R_slice HO_5.out
     subst eo13
     go_wp2_with (first | ((with_reducible refine gate_callee (f := 93) rfl ?_); refine goesL_ (some 38) rfl rfl Try.func93 (by kernel_rfl) rfl #[.slice Ao13 x5_1.length co13] rfl (by (try simp only [List.map_toArray, List.map_cons, List.map_nil]); first | done | rfl | (simp only [List.length_drop, List.length_take]; rfl)) ?_; (with_reducible refine (spec_l03Bounds.calls k1 _ _ x5_1 t162 t163 t164 t165 _ ?side1 ?side2 A12.out).mono ?_); (case side1 => repeat (first | exact (Kd.R_reads' HO_5.out).2.2 | (with_reducible refine Kd.C_alloc ?_ _) | (with_reducible refine Kd.C_drewN ?_ _) | (with_reducible refine Kd.C_drew ?_))); (case side2 => exact (Kd.R_reads' HO_5.out).2.1); rintro e w14 ⟨rfl, hb⟩; refine ⟨_, rfl, ?_⟩; have n0_ := mkA (Kd.R_below (by (with_reducible repeat (first | apply Kd.R_alloc | apply Kd.R_drewN | apply Kd.R_drew)); exact HO_5.out) hb); have n1_ := mkA (below_step (bs0_ HB.out) hb); clear HO_5; clear HB; have HO_5 := n0_; have HB := n1_; clear n0_ n1_; (try clear hb); (try clear hb2); (try clear hk); (try clear hi)) | ((with_reducible refine gate_dst (N := 7) rfl ?_); refine box_event ?hg (N := 7) ?hd (cs := #[.int .i64 0, .int .i64 0]) (t := 105) ?hr ?_; (case hd => rfl); (case hg => rfl); (case hr => first | (go_simp; done) | (go_simp; rfl)); intro gb166 hg w15 hbox hb; have n0_ := mkA (Kd.R_below (Kd.R_elderB (by (with_reducible repeat (first | apply Kd.R_alloc | apply Kd.R_drewN | apply Kd.R_drew)); exact HO_5.out) gb166 (Nat.le_of_eq hg.symm)) hb); have n1_ := mkA (below_step (bs0_ HB.out) hb); have n2_ := mkA (hbox); have n3_ := mkA ((by rw [hg]; exact (below_size (bs0_ HB.out)) : w.heap.size ≤ gb166)); have n4_ := mkA ((by rw [hg]; exact (below_size (bs0_ HB.out)) : w.heap.size ≤ gb166)); clear HO_5; clear HB; have HO_5 := n0_; have HB := n1_; have BK166 := n2_; have GW166 := n3_; have GE166 := n4_; clear n0_ n1_ n2_ n3_ n4_; clear hb hbox hg) | ((with_reducible refine gate_dst (N := 8) rfl ?_); refine box_event ?hg (N := 8) ?hd (cs := #[.int .i64 0, .int .i64 0]) (t := 105) ?hr ?_; (case hd => rfl); (case hg => rfl); (case hr => first | (go_simp; done) | (go_simp; rfl)); intro gb167 hg w16 hbox hb; have n0_ := mkA (Kd.R_below (Kd.R_elderB (by (with_reducible repeat (first | apply Kd.R_alloc | apply Kd.R_drewN | apply Kd.R_drew)); exact HO_5.out) gb167 (Nat.le_of_eq hg.symm)) hb); have n1_ := mkA (blk_below (g := gb166) (o := .cells #[.int .i64 0, .int .i64 0] 105 (0, 0)) (bl_ BK166.out) hb); have n2_ := mkA (below_step (bs1_ HB.out GE166.out) hb); have n3_ := mkA (hbox); have n4_ := mkA ((by rw [hg]; exact (below_size (bs1_ HB.out GE166.out)) : w.heap.size ≤ gb167)); have n5_ := mkA ((by rw [hg]; exact (below_size (bs1_ HB.out GE166.out)) : w.heap.size ≤ gb167)); have n6_ := mkA ((by rw [hg]; exact Nat.ne_of_lt (blk_lt (g := gb166) (o := .cells #[.int .i64 0, .int .i64 0] 105 (0, 0)) (bl_ BK166.out)) : gb166 ≠ gb167)); have n7_ := mkA ((by rw [hg]; exact Nat.ne_of_gt (blk_lt (g := gb166) (o := .cells #[.int .i64 0, .int .i64 0] 105 (0, 0)) (bl_ BK166.out)) : gb167 ≠ gb166)); clear HO_5; clear BK166; clear HB; have HO_5 := n0_; have BK166 := n1_; have HB := n2_; have BK167 := n3_; have GW167 := n4_; have GE167 := n5_; have NB166_167 := n6_; have NB167_166 := n7_; clear n0_ n1_ n2_ n3_ n4_ n5_ n6_ n7_; clear hb hbox hg; have hnb17 := NB166_167.out; have hnc17 := NB167_166.out; have hcz18_0 : w16.cell? ⟨gb166, 0, none⟩ = some (.int .i64 0) := (blk_cell BK166.out 0).trans rfl; have hcz18_1 : w16.cell? ⟨gb166, 1, none⟩ = some (.int .i64 0) := (blk_cell BK166.out 1).trans rfl; have hfz18_0 := blk_frozen BK166.out 0; have hfz18_1 := blk_frozen BK166.out 1; have hcz19_0 : w16.cell? ⟨gb167, 0, none⟩ = some (.int .i64 0) := (blk_cell BK167.out 0).trans rfl; have hcz19_1 : w16.cell? ⟨gb167, 1, none⟩ = some (.int .i64 0) := (blk_cell BK167.out 1).trans rfl; have hfz19_0 := blk_frozen BK167.out 0; have hfz19_1 := blk_frozen BK167.out 1) | ((with_reducible refine gate_dst (N := 41) rfl ?_); refine Kd.R_lit k105 _ 105 ?hg (N := 41) ?hd (xs := ([] : List (S105))) (inner := []) (ok := fun _ => True) (okp := fun _ => True) ?hr ?hp (fun _ hk => hk) trivial (Below.refl _ _) (Nat.le_refl _) (by simp) ?_; (case hd => rfl); (case hg => rfl); (case hr => first | (go_simp; done) | (go_simp; rfl)); (case hp => exact (Reps.none _ _)); intro v169 w20 ho21 hb hg_ hnew_; clear hg_ hnew_; (first | rw [← Ny168.out] at ho21 | (simp only [Int.reduceToNat] at ho21; rw [← Ny168.out] at ho21)); have n0_ := mkA (Kd.R_elder' (by (with_reducible repeat (first | apply Kd.R_alloc | apply Kd.R_drewN | apply Kd.R_drew)); exact (Kd.R_mono (Kd.R_mono (Kd.R_far (p := ⟨gb167, 1, none⟩) (Kd.R_far (p := ⟨gb167, 0, none⟩) (Kd.R_far (p := ⟨gb166, 1, none⟩) (Kd.R_far (p := ⟨gb166, 0, none⟩) (Kd.R_mono (Kd.R_mono HO_5.out (fun k_ hk => (⟨hk, hk.1.2⟩ : _ ∧ k_ ≠ gb166))) (fun k_ hk => (⟨hk, hk.1.2⟩ : _ ∧ k_ ≠ gb167))) (fun _ hk => hk.1.2) (.int .i64 t162)) (fun _ hk => hk.1.2) (.int .i64 t163)) (fun _ hk => hk.2) (.int .i64 t164)) (fun _ hk => hk.2) (.int .i64 t165)) (fun _ h_ => h_.1)) (fun _ h_ => h_.1))) (Kd.R_base ho21) hb); have n1_ := mkA (Kd.R_lower (Kd.R_newB (Kd.R_newB (Kd.R_new' ho21 (Kd.R_lt (by (with_reducible repeat (first | apply Kd.R_alloc | apply Kd.R_drewN | apply Kd.R_drew)); exact (Kd.R_mono (Kd.R_mono (Kd.R_far (p := ⟨gb167, 1, none⟩) (Kd.R_far (p := ⟨gb167, 0, none⟩) (Kd.R_far (p := ⟨gb166, 1, none⟩) (Kd.R_far (p := ⟨gb166, 0, none⟩) (Kd.R_mono (Kd.R_mono HO_5.out (fun k_ hk => (⟨hk, hk.1.2⟩ : _ ∧ k_ ≠ gb166))) (fun k_ hk => (⟨hk, hk.1.2⟩ : _ ∧ k_ ≠ gb167))) (fun _ hk => hk.1.2) (.int .i64 t162)) (fun _ hk => hk.1.2) (.int .i64 t163)) (fun _ hk => hk.2) (.int .i64 t164)) (fun _ hk => hk.2) (.int .i64 t165)) (fun _ h_ => h_.1)) (fun _ h_ => h_.1))))) (g := gb166) (o := .cells #[.int .i64 t162, .int .i64 t163] 105 (0, 0)) (by (with_reducible repeat (first | refine blk_drewN ?_ _ | refine blk_drew ?_ | refine blk_alloc ?_ _)); refine blk_far ?_ NB166_167.out _; (with_reducible repeat (first | refine blk_drewN ?_ _ | refine blk_drew ?_ | refine blk_alloc ?_ _)); refine blk_far ?_ NB166_167.out _; (with_reducible repeat (first | refine blk_drewN ?_ _ | refine blk_drew ?_ | refine blk_alloc ?_ _)); refine blk_put (cs := #[.int .i64 t162, .int .i64 0]) ?_ 1 _ rfl; (with_reducible repeat (first | refine blk_drewN ?_ _ | refine blk_drew ?_ | refine blk_alloc ?_ _)); refine blk_put (cs := #[.int .i64 0, .int .i64 0]) ?_ 0 _ rfl; (with_reducible repeat (first | refine blk_drewN ?_ _ | refine blk_drew ?_ | refine blk_alloc ?_ _)); exact BK166.out)) (g := gb167) (o := .cells #[.int .i64 t164, .int .i64 t165] 105 (0, 0)) (by (with_reducible repeat (first | refine blk_drewN ?_ _ | refine blk_drew ?_ | refine blk_alloc ?_ _)); refine blk_put (cs := #[.int .i64 t164, .int .i64 0]) ?_ 1 _ rfl; (with_reducible repeat (first | refine blk_drewN ?_ _ | refine blk_drew ?_ | refine blk_alloc ?_ _)); refine blk_put (cs := #[.int .i64 0, .int .i64 0]) ?_ 0 _ rfl; (with_reducible repeat (first | refine blk_drewN ?_ _ | refine blk_drew ?_ | refine blk_alloc ?_ _)); refine blk_far ?_ NB167_166.out _; (with_reducible repeat (first | refine blk_drewN ?_ _ | refine blk_drew ?_ | refine blk_alloc ?_ _)); refine blk_far ?_ NB167_166.out _; (with_reducible repeat (first | refine blk_drewN ?_ _ | refine blk_drew ?_ | refine blk_alloc ?_ _)); exact BK167.out)) (below_size (bs2_ HB.out GE166.out GE167.out))); have n2_ := mkA (blk_below (g := gb166) (o := .cells #[.int .i64 t162, .int .i64 t163] 105 (0, 0)) (by (with_reducible repeat (first | refine blk_drewN ?_ _ | refine blk_drew ?_ | refine blk_alloc ?_ _)); refine blk_far ?_ NB166_167.out _; (with_reducible repeat (first | refine blk_drewN ?_ _ | refine blk_drew ?_ | refine blk_alloc ?_ _)); refine blk_far ?_ NB166_167.out _; (with_reducible repeat (first | refine blk_drewN ?_ _ | refine blk_drew ?_ | refine blk_alloc ?_ _)); refine blk_put (cs := #[.int .i64 t162, .int .i64 0]) ?_ 1 _ rfl; (with_reducible repeat (first | refine blk_drewN ?_ _ | refine blk_drew ?_ | refine blk_alloc ?_ _)); refine blk_put (cs := #[.int .i64 0, .int .i64 0]) ?_ 0 _ rfl; (with_reducible repeat (first | refine blk_drewN ?_ _ | refine blk_drew ?_ | refine blk_alloc ?_ _)); exact BK166.out) hb); have n3_ := mkA (blk_below (g := gb167) (o := .cells #[.int .i64 t164, .int .i64 t165] 105 (0, 0)) (by (with_reducible repeat (first | refine blk_drewN ?_ _ | refine blk_drew ?_ | refine blk_alloc ?_ _)); refine blk_put (cs := #[.int .i64 t164, .int .i64 0]) ?_ 1 _ rfl; (with_reducible repeat (first | refine blk_drewN ?_ _ | refine blk_drew ?_ | refine blk_alloc ?_ _)); refine blk_put (cs := #[.int .i64 0, .int .i64 0]) ?_ 0 _ rfl; (with_reducible repeat (first | refine blk_drewN ?_ _ | refine blk_drew ?_ | refine blk_alloc ?_ _)); refine blk_far ?_ NB167_166.out _; (with_reducible repeat (first | refine blk_drewN ?_ _ | refine blk_drew ?_ | refine blk_alloc ?_ _)); refine blk_far ?_ NB167_166.out _; (with_reducible repeat (first | refine blk_drewN ?_ _ | refine blk_drew ?_ | refine blk_alloc ?_ _)); exact BK167.out) hb); have n4_ := mkA (below_step (bs2_ HB.out GE166.out GE167.out) hb); clear HO_5; clear BK166; clear BK167; clear HB; have HO_5 := n0_; have HO170 := n1_; have BK166 := n2_; have BK167 := n3_; have HB := n4_; clear n0_ n1_ n2_ n3_ n4_; clear hb ho21))
     go_loopg [9, 10] k1 (fun kq v9 v10 w' => ∃ (x9_2 : List (S105)) (x10_2 : Int), v10 = .int .i64 x10_2 ∧ Aside0 (spec_l19Turned.l1 kq x5_1 x9_2 x10_2 t162 t163 = some r) ∧ Aside0 (kq ≤ k1) ∧ Aside0 (Kd.R k105 105 w' w.heap.size (fun k_ => some k_ ≠ (v9 : Value).ownBlock ∧ k_ ≠ gb166 ∧ k_ ≠ gb167) (.slice Ao13 x5_1.length co13) x5_1) ∧ Aside0 (Kd.R k105 105 w' w.heap.size (fun k_ => some k_ ≠ ((.slice Ao13 x5_1.length co13) : Value).ownBlock ∧ k_ ≠ gb166 ∧ k_ ≠ gb167) v9 x9_2) ∧ Aside0 (w'.heap[gb166]? = some (.cells #[.int .i64 t162, .int .i64 t163] 105 (0, 0))) ∧ Aside0 (w'.heap[gb167]? = some (.cells #[.int .i64 t164, .int .i64 t165] 105 (0, 0))) ∧ Aside0 (Below w.heap.size w w'))
     case atStart => exact ⟨(y168), (0), (by first | rfl | (simp; done) | (simp [*]; done) | (simp [i64_w, i32_w]; done)), H', ⟨Nat.le_refl _⟩, ⟨by (with_reducible repeat (first | apply Kd.R_alloc | apply Kd.R_drewN | apply Kd.R_drew)); exact Kd.R_mono HO_5.out (fun _ hk => ⟨hk.2, ⟨hk.1.1.2, hk.1.2⟩⟩)⟩, ⟨by (with_reducible repeat (first | apply Kd.R_alloc | apply Kd.R_drewN | apply Kd.R_drew)); exact Kd.R_mono HO170.out (fun _ hk => ⟨hk.1.1.2, ⟨hk.1.2, hk.2⟩⟩)⟩, ⟨by (with_reducible repeat (first | refine blk_drewN ?_ _ | refine blk_drew ?_ | refine blk_alloc ?_ _)); exact BK166.out⟩, ⟨by (with_reducible repeat (first | refine blk_drewN ?_ _ | refine blk_drew ?_ | refine blk_alloc ?_ _)); exact BK167.out⟩, ⟨by repeat (first | (with_reducible first | exact HB.out | apply below_alloc | apply pw_below_drewN | apply below_drew1 | refine below_set ?_ GE166.out | refine below_set ?_ GE167.out) | exact HB.out)⟩⟩
     case round =>
      clear H'
      try clear c1
      try clear p1
      try clear q1
      try clear hx1
      try clear qi1
      try clear p2
      try clear c5
      try clear c5b0
      try clear c5b1
      try clear c6
      try clear c6b0
      try clear p6
      try clear c7
      try clear c7b0
      try clear c9
      try clear c11
      try clear c15
      try clear p15
      try clear q15
      try clear hx15
      try clear qi15
      try clear c17
      try clear hcz18_0
      try clear hcz18_1
      try clear hcz19_0
      try clear hcz19_1
      try clear hfz18_0
      try clear hfz18_1
      try clear hfz19_0
      try clear hfz19_1
      try clear hx154_0
      try clear hx154_1
      try clear hx154_2
      try clear hx154_3
      try clear hx155_0
      try clear hx155_1
      try clear hx155_2
      try clear hx155_3
      try clear hx156_0
      try clear hx156_1
      try clear p154
      try clear p155
      try clear p156
      try clear p2
      try clear q154
      try clear q155
      try clear q156
      obtain ⟨x9_2, x10_2, rfl, HA, HK2, HO_5, HO_9, BK166, BK167, HB⟩ := hrel
      cases gk with
      | zero => exact absurd HA.out (by simp [spec_l19Turned.l1])
      | succ k2 =>
       have H := HA.out
       clear HA
       simp only [spec_l19Turned.l1] at H
       by_cases c22 : x10_2 < (x5_1.length : Int)
       rotate_left
       · rw [if_neg c22] at H
         have c22b0 : decide (x10_2 < (x5_1.length : Int)) = false := decide_eq_false c22
         clear c22
         obtain rfl := Option.some.inj H
         go_wp2
         go_ret
         exact ⟨_, by first | rfl | (simp [errW_none, errW_some] <;> rfl) | (simp [*, errW_none, errW_some] <;> rfl), by (with_reducible repeat (first | apply Kd.R_alloc | apply Kd.R_drewN | apply Kd.R_drew)); exact Kd.R_mono HO_9.out (fun _ hk => trivial), by repeat (first | (with_reducible first | exact HB.out | apply below_alloc | apply pw_below_drewN | apply below_drew1 | refine below_set ?_ GE166.out | refine below_set ?_ GE167.out) | exact HB.out)⟩
       rw [if_pos c22] at H
       have c22b0 : decide (x10_2 < (x5_1.length : Int)) = true := decide_eq_true c22
       clear c22
       by_cases c23 : 0 ≤ x10_2
       rotate_left
       · rw [if_neg c23] at H
         exact absurd H (by simp)
       rw [if_pos c23] at H
       have c23b0 : decide (0 ≤ x10_2) = true := decide_eq_true c23
       clear c23
       have H' := mkA H
       clear H
       try go_wp2
       have n0_ := mkA (Kd.R_drew HO_5.out)
       have n1_ := mkA (Kd.R_drew HO_9.out)
       have n2_ := mkA (blk_drew BK166.out)
       have n3_ := mkA (blk_drew BK167.out)
       have n4_ := mkA (below_drew1 HB.out)
       clear HO_5
       clear HO_9
       clear BK166
       clear BK167
       clear HB
       have HO_5 := n0_
       have HO_9 := n1_
       have BK166 := n2_
       have BK167 := n3_
       have HB := n4_
       clear n0_ n1_ n2_ n3_ n4_
       have p171 : 0 ≤ (x10_2 : Int) := dt_
       have q171 : x10_2 < (x5_1.length : Int) := dt_
       obtain ⟨ad171, e171, hx171_0, hx171_1⟩ := at_T105 (Kd.R_reads' HO_5.out).2.2 x10_2 p171 q171
       cases e171
       replace p171 := eq_true p171
       replace q171 := eq_true q171
       have p172 : 0 ≤ (x10_2 : Int) := dt_
       have q172 : x10_2 < (x5_1.length : Int) := dt_
       obtain ⟨ad172, e172, hx172_0, hx172_1⟩ := at_T105 (Kd.R_reads' HO_5.out).2.2 x10_2 p172 q172
       obtain rfl : ad171 = ad172 := (by injection e172)
       replace p172 := eq_true p172
       replace q172 := eq_true q172
       refine start_ (n := 19) (S := fun w' => w'.cell? ⟨gb166, 0, none⟩ = some (.int .i64 t162) ∧ w'.cell? ⟨gb166, 1, none⟩ = some (.int .i64 t163) ∧ w'.cell? (ad171.add ((x10_2).toNat * 2)) = some (.int .i64 ((rd_T105 x5_1 x10_2).f0)) ∧ w'.cell? ⟨(ad171.add ((x10_2).toNat * 2)).block, (ad171.add ((x10_2).toNat * 2)).off + 1, none⟩ = some (.int .i64 ((rd_T105 x5_1 x10_2).f1)) ∧ w'.cell? (ad171.add ((x10_2).toNat * 2)) = some (.int .i64 ((rd_T105 x5_1 x10_2).f0)) ∧ w'.cell? ⟨(ad171.add ((x10_2).toNat * 2)).block, (ad171.add ((x10_2).toNat * 2)).off + 1, none⟩ = some (.int .i64 ((rd_T105 x5_1 x10_2).f1))) (ds := []) spec_l19Turned.d0 (by kernel_rfl) rfl rfl ⟨(blk_cell BK166.out 0).trans rfl, (blk_cell BK166.out 1).trans rfl, hx171_0, hx171_1, hx172_0, hx172_1⟩ (fun hHeld => ?_); refine with_tabW spec_l19Turned.tab11 spec_l19Turned.bits11 (fun HT_ HW_ => ?_)
       generalize wr.drew = w24 at HO_5 HO_9 BK166 BK167 HB hx171_0 hx171_1 hx172_0 hx172_1 hHeld ⊢
       refine p1_ HT_.out 0 48 spec_l19Turned.d1 ?_
       refine p1_ HT_.out 1 49 spec_l19Turned.d2 ?_
       refine p1_ HT_.out 2 50 spec_l19Turned.d3 ?_
       refine p1_ HT_.out 3 51 spec_l19Turned.d4 ?_
       refine p1_ HT_.out 5 53 spec_l19Turned.d5 ?_
       refine p1_ HT_.out 8 56 spec_l19Turned.d6 ?_
       refine p1_ HT_.out 9 57 spec_l19Turned.d7 ?_
       refine p1_ HT_.out 10 58 spec_l19Turned.d8 ?_
       refine p1_ HT_.out 11 59 spec_l19Turned.d9 ?_
       refine p1_ HT_.out 13 61 spec_l19Turned.d10 ?_
       refine take_ (i := 4) (N := some 52) (v := ?_) (a' := ?_) spec_l19Turned.d11 rfl rfl (take_ofW HT_.out HW_.out (by kernel_rfl)) (fun _ _ _ h => h) (Or.inl ⟨by rfl, ?_⟩) hHeld ?_ ?_
       rotate_left
       · rintro w' ⟨s0, s1, s2, s3, s4, s5⟩
         go_simp
         with_reducible rfl
       rotate_left
       · simp only [Act.put, sA, sB, sC, i64_w, i32_w]
         rfl
       refine take_ (i := 6) (N := some 54) (v := ?_) (a' := ?_) spec_l19Turned.d12 rfl rfl (take_ofW HT_.out HW_.out (by kernel_rfl)) (fun _ _ _ h => h) (Or.inl ⟨by rfl, ?_⟩) hHeld ?_ ?_
       rotate_left
       · rintro w' ⟨s0, s1, s2, s3, s4, s5⟩
         go_simp
         with_reducible rfl
       rotate_left
       · simp only [Act.put, sA, sB, sC, i64_w, i32_w]
         rfl
       refine p1_ HT_.out 7 55 spec_l19Turned.d13 ?_
       refine take_ (i := 12) (N := some 60) (v := ?_) (a' := ?_) spec_l19Turned.d14 rfl rfl (take_ofW HT_.out HW_.out (by kernel_rfl)) (fun _ _ _ h => h) (Or.inl ⟨by rfl, ?_⟩) hHeld ?_ ?_
       rotate_left
       · rintro w' ⟨s0, s1, s2, s3, s4, s5⟩
         go_simp
         with_reducible rfl
       rotate_left
       · simp only [Act.put, sA, sB, sC, i64_w, i32_w]
         rfl
       refine take_ (i := 14) (N := some 62) (v := ?_) (a' := ?_) spec_l19Turned.d15 rfl rfl (take_ofW HT_.out HW_.out (by kernel_rfl)) (fun _ _ _ h => h) (Or.inl ⟨by rfl, ?_⟩) hHeld ?_ ?_
       rotate_left
       · rintro w' ⟨s0, s1, s2, s3, s4, s5⟩
         go_simp
         with_reducible rfl
       rotate_left
       · simp only [Act.put, sA, sB, sC, i64_w, i32_w]
         rfl
       refine p1_ HT_.out 15 63 spec_l19Turned.d16 ?_
       refine p1_ HT_.out 16 64 spec_l19Turned.d17 ?_
       refine one_ (i := 17) (N := some 11) spec_l19Turned.d18 rfl rfl (one_of HT_.out (by kernel_rfl)) (by decide) (fun K hK => ?_)
       refine box_step ?hg (N := 11) ?hd (cs := #[.int .i64 0, .int .i64 0]) (t := 105) ?hr ?_; (case hd => rfl); (case hg => rfl); (case hr => first | (go_simp; done) | (go_simp; rfl))
       intro gb173 hg w25 hbox hb
       have HS2_ := (hb.cell (World.block_lt_of_cell? _ _ (hHeld.2.2.1))).trans (hHeld.2.2.1)
       have HS3_ := (hb.cell (World.block_lt_of_cell? _ _ (hHeld.2.2.2.1))).trans (hHeld.2.2.2.1)
       have HS4_ := (hb.cell (World.block_lt_of_cell? _ _ (hHeld.2.2.2.2.1))).trans (hHeld.2.2.2.2.1)
       have HS5_ := (hb.cell (World.block_lt_of_cell? _ _ (hHeld.2.2.2.2.2))).trans (hHeld.2.2.2.2.2)
       have n0_ := mkA (Kd.R_below (Kd.R_elderB (by (with_reducible repeat (first | apply Kd.R_alloc | apply Kd.R_drewN | apply Kd.R_drew)); exact HO_5.out) gb173 (Nat.le_of_eq hg.symm)) hb)
       have n1_ := mkA (Kd.R_below (Kd.R_elderB (by (with_reducible repeat (first | apply Kd.R_alloc | apply Kd.R_drewN | apply Kd.R_drew)); exact HO_9.out) gb173 (Nat.le_of_eq hg.symm)) hb)
       have n2_ := mkA (blk_below (g := gb166) (o := .cells #[.int .i64 t162, .int .i64 t163] 105 (0, 0)) (bl_ BK166.out) hb)
       have n3_ := mkA (blk_below (g := gb167) (o := .cells #[.int .i64 t164, .int .i64 t165] 105 (0, 0)) (bl_ BK167.out) hb)
       have n4_ := mkA (below_step (bs2_ HB.out GE166.out GE167.out) hb)
       have n5_ := mkA (hbox)
       have n6_ := mkA ((by rw [hg]; exact (below_size (bs2_ HB.out GE166.out GE167.out)) : w.heap.size ≤ gb173))
       have n7_ := mkA ((by rw [hg]; exact (below_size (bs2_ HB.out GE166.out GE167.out)) : w.heap.size ≤ gb173))
       have n8_ := mkA ((by rw [hg]; exact Nat.ne_of_lt (blk_lt (g := gb166) (o := .cells #[.int .i64 t162, .int .i64 t163] 105 (0, 0)) (bl_ BK166.out)) : gb166 ≠ gb173))
       have n9_ := mkA ((by rw [hg]; exact Nat.ne_of_gt (blk_lt (g := gb166) (o := .cells #[.int .i64 t162, .int .i64 t163] 105 (0, 0)) (bl_ BK166.out)) : gb173 ≠ gb166))
       have n10_ := mkA ((by rw [hg]; exact Nat.ne_of_lt (blk_lt (g := gb167) (o := .cells #[.int .i64 t164, .int .i64 t165] 105 (0, 0)) (bl_ BK167.out)) : gb167 ≠ gb173))
       have n11_ := mkA ((by rw [hg]; exact Nat.ne_of_gt (blk_lt (g := gb167) (o := .cells #[.int .i64 t164, .int .i64 t165] 105 (0, 0)) (bl_ BK167.out)) : gb173 ≠ gb167))
       clear HO_5
       clear HO_9
       clear BK166
       clear BK167
       clear HB
       have HO_5 := n0_
       have HO_9 := n1_
       have BK166 := n2_
       have BK167 := n3_
       have HB := n4_
       have BK173 := n5_
       have GW173 := n6_
       have GE173 := n7_
       have NB166_173 := n8_
       have NB173_166 := n9_
       have NB167_173 := n10_
       have NB173_167 := n11_
       clear n0_ n1_ n2_ n3_ n4_ n5_ n6_ n7_ n8_ n9_ n10_ n11_
       clear hb hbox hg
       refine hK.out _ _ ⟨(blk_cell BK166.out 0).trans rfl, (blk_cell BK166.out 1).trans rfl, HS2_, HS3_, HS4_, HS5_⟩ (fun hHeld => ?_)
       clear hK K
       refine norm_ (a' := ?_) ?_ ?_
       rotate_left
       · show Act.put _ (some 11) _ = _
         simp only [Act.put, sA, sB, sC, i64_w, i32_w]
         rfl
       refine one_ (i := 18) (N := none) spec_l19Turned.d19 rfl rfl (one_of HT_.out (by kernel_rfl)) (by decide) (fun K hK => ?_)
       have hs26 : w25.cell? ⟨gb173, 0, none⟩ = some (.int .i64 0) := (blk_cell BK173.out 0).trans rfl
       have hfs26 := blk_frozen BK173.out 0
       have hns26_0 := NB166_173.out
       have hns26_1 := NB167_173.out
       have hms26_0 := NB173_166.out
       have hms26_1 := NB173_167.out
       have hs27 : w25.cell? ⟨gb173, 1, none⟩ = some (.int .i64 0) := (blk_cell BK173.out 1).trans rfl
       have hfs27 := blk_frozen BK173.out 1
       have hns27_0 := NB166_173.out
       have hns27_1 := NB167_173.out
       have hms27_0 := NB173_166.out
       have hms27_1 := NB173_167.out
       refine skip_ (w1 := ?_) (by rfl) rfl ?_ ?_
       rotate_left
       · go_simp
         rfl
       refine hK.out _ _ ⟨((cell_far (p := ⟨gb173, _, none⟩) NB166_173.out _).trans (((cell_far (p := ⟨gb173, _, none⟩) NB166_173.out _).trans (hHeld.1)))), ((cell_far (p := ⟨gb173, _, none⟩) NB166_173.out _).trans (((cell_far (p := ⟨gb173, _, none⟩) NB166_173.out _).trans (hHeld.2.1)))), ((cell_far (p := ⟨gb173, _, none⟩) (by first | exact Kd.own_blk (Kd.R_away HO_5.out (fun _ hk => hk.2)) | (rw [add_block]; exact Kd.own_blk (Kd.R_away HO_5.out (fun _ hk => hk.2))) | (show (Addr.add _ _).block ≠ _; rw [add_block]; exact Kd.own_blk (Kd.R_away HO_5.out (fun _ hk => hk.2))) | (dsimp only; exact Kd.own_blk (Kd.R_away HO_5.out (fun _ hk => hk.2)))) _).trans (((cell_far (p := ⟨gb173, _, none⟩) (by first | exact Kd.own_blk (Kd.R_away HO_5.out (fun _ hk => hk.2)) | (rw [add_block]; exact Kd.own_blk (Kd.R_away HO_5.out (fun _ hk => hk.2))) | (show (Addr.add _ _).block ≠ _; rw [add_block]; exact Kd.own_blk (Kd.R_away HO_5.out (fun _ hk => hk.2))) | (dsimp only; exact Kd.own_blk (Kd.R_away HO_5.out (fun _ hk => hk.2)))) _).trans (hHeld.2.2.1)))), ((cell_far (p := ⟨gb173, _, none⟩) (by first | exact Kd.own_blk (Kd.R_away HO_5.out (fun _ hk => hk.2)) | (rw [add_block]; exact Kd.own_blk (Kd.R_away HO_5.out (fun _ hk => hk.2))) | (show (Addr.add _ _).block ≠ _; rw [add_block]; exact Kd.own_blk (Kd.R_away HO_5.out (fun _ hk => hk.2))) | (dsimp only; exact Kd.own_blk (Kd.R_away HO_5.out (fun _ hk => hk.2)))) _).trans (((cell_far (p := ⟨gb173, _, none⟩) (by first | exact Kd.own_blk (Kd.R_away HO_5.out (fun _ hk => hk.2)) | (rw [add_block]; exact Kd.own_blk (Kd.R_away HO_5.out (fun _ hk => hk.2))) | (show (Addr.add _ _).block ≠ _; rw [add_block]; exact Kd.own_blk (Kd.R_away HO_5.out (fun _ hk => hk.2))) | (dsimp only; exact Kd.own_blk (Kd.R_away HO_5.out (fun _ hk => hk.2)))) _).trans (hHeld.2.2.2.1)))), ((cell_far (p := ⟨gb173, _, none⟩) (by first | exact Kd.own_blk (Kd.R_away HO_5.out (fun _ hk => hk.2)) | (rw [add_block]; exact Kd.own_blk (Kd.R_away HO_5.out (fun _ hk => hk.2))) | (show (Addr.add _ _).block ≠ _; rw [add_block]; exact Kd.own_blk (Kd.R_away HO_5.out (fun _ hk => hk.2))) | (dsimp only; exact Kd.own_blk (Kd.R_away HO_5.out (fun _ hk => hk.2)))) _).trans (((cell_far (p := ⟨gb173, _, none⟩) (by first | exact Kd.own_blk (Kd.R_away HO_5.out (fun _ hk => hk.2)) | (rw [add_block]; exact Kd.own_blk (Kd.R_away HO_5.out (fun _ hk => hk.2))) | (show (Addr.add _ _).block ≠ _; rw [add_block]; exact Kd.own_blk (Kd.R_away HO_5.out (fun _ hk => hk.2))) | (dsimp only; exact Kd.own_blk (Kd.R_away HO_5.out (fun _ hk => hk.2)))) _).trans (hHeld.2.2.2.2.1)))), ((cell_far (p := ⟨gb173, _, none⟩) (by first | exact Kd.own_blk (Kd.R_away HO_5.out (fun _ hk => hk.2)) | (rw [add_block]; exact Kd.own_blk (Kd.R_away HO_5.out (fun _ hk => hk.2))) | (show (Addr.add _ _).block ≠ _; rw [add_block]; exact Kd.own_blk (Kd.R_away HO_5.out (fun _ hk => hk.2))) | (dsimp only; exact Kd.own_blk (Kd.R_away HO_5.out (fun _ hk => hk.2)))) _).trans (((cell_far (p := ⟨gb173, _, none⟩) (by first | exact Kd.own_blk (Kd.R_away HO_5.out (fun _ hk => hk.2)) | (rw [add_block]; exact Kd.own_blk (Kd.R_away HO_5.out (fun _ hk => hk.2))) | (show (Addr.add _ _).block ≠ _; rw [add_block]; exact Kd.own_blk (Kd.R_away HO_5.out (fun _ hk => hk.2))) | (dsimp only; exact Kd.own_blk (Kd.R_away HO_5.out (fun _ hk => hk.2)))) _).trans (hHeld.2.2.2.2.2))))⟩ (fun hHeld => ?_)
       clear hK K
       refine done_ (done_of HT_.out (by kernel_rfl)) ?_
       obtain ⟨Ao28, co28, eo28⟩ := Kd.R_slice HO_9.out
       subst eo28
       try go_wp2
       go_loopg [12] k2 (fun kq v12 w' => ∃ (x12_3 : Int), v12 = .int .i64 x12_3 ∧ Aside0 (spec_l19Turned.l2 kq x5_1 x9_2 x10_2 x12_3 t162 t163 (wrap64 (((rd_T105 x5_1 x10_2).f0) - t162)) (wrap64 (((rd_T105 x5_1 x10_2).f1) - t163)) = some r) ∧ Aside0 (kq ≤ k2) ∧ Aside0 (Kd.R k105 105 w' w.heap.size (fun k_ => some k_ ≠ ((.slice Ao28 x9_2.length co28) : Value).ownBlock ∧ k_ ≠ gb166 ∧ k_ ≠ gb167 ∧ k_ ≠ gb173) (.slice (some ad171) x5_1.length co13) x5_1) ∧ Aside0 (Kd.R k105 105 w' w.heap.size (fun k_ => some k_ ≠ ((.slice (some ad171) x5_1.length co13) : Value).ownBlock ∧ k_ ≠ gb166 ∧ k_ ≠ gb167 ∧ k_ ≠ gb173) (.slice Ao28 x9_2.length co28) x9_2) ∧ Aside0 (w'.heap[gb166]? = some (.cells #[.int .i64 t162, .int .i64 t163] 105 (0, 0))) ∧ Aside0 (w'.heap[gb167]? = some (.cells #[.int .i64 t164, .int .i64 t165] 105 (0, 0))) ∧ Aside0 (w'.heap[gb173]? = some (.cells #[.int .i64 (wrap64 (((rd_T105 x5_1 x10_2).f0) - t162)), .int .i64 (wrap64 (((rd_T105 x5_1 x10_2).f1) - t163))] 105 (0, 0))) ∧ Aside0 (Below w.heap.size w w'))
       case atStart => exact ⟨((x9_2.length : Int)), (by first | rfl | (simp; done) | (simp [*]; done) | (simp [i64_w, i32_w]; done)), H', ⟨Nat.le_refl _⟩, ⟨by (with_reducible repeat (first | apply Kd.R_alloc | apply Kd.R_drewN | apply Kd.R_drew)); exact Kd.R_mono (Kd.R_far (p := ⟨gb173, 1, none⟩) (Kd.R_far (p := ⟨gb173, 0, none⟩) (Kd.R_mono HO_5.out (fun k_ hk => (⟨hk, hk.2⟩ : _ ∧ k_ ≠ gb173))) (fun _ hk => hk.2) (.int .i64 (wrap64 (((rd_T105 x5_1 x10_2).f0) - t162)))) (fun _ hk => hk.2) (.int .i64 (wrap64 (((rd_T105 x5_1 x10_2).f1) - t163)))) (fun _ hk => ⟨hk.1.1.1, ⟨hk.1.1.2.1, ⟨hk.1.1.2.2, hk.1.2⟩⟩⟩)⟩, ⟨by (with_reducible repeat (first | apply Kd.R_alloc | apply Kd.R_drewN | apply Kd.R_drew)); exact Kd.R_mono (Kd.R_far (p := ⟨gb173, 1, none⟩) (Kd.R_far (p := ⟨gb173, 0, none⟩) (Kd.R_mono HO_9.out (fun k_ hk => (⟨hk, hk.2⟩ : _ ∧ k_ ≠ gb173))) (fun _ hk => hk.2) (.int .i64 (wrap64 (((rd_T105 x5_1 x10_2).f0) - t162)))) (fun _ hk => hk.2) (.int .i64 (wrap64 (((rd_T105 x5_1 x10_2).f1) - t163)))) (fun _ hk => ⟨hk.1.1.1, ⟨hk.1.1.2.1, ⟨hk.1.1.2.2, hk.1.2⟩⟩⟩)⟩, ⟨by (with_reducible repeat (first | refine blk_drewN ?_ _ | refine blk_drew ?_ | refine blk_alloc ?_ _)); refine blk_far ?_ NB166_173.out _; (with_reducible repeat (first | refine blk_drewN ?_ _ | refine blk_drew ?_ | refine blk_alloc ?_ _)); refine blk_far ?_ NB166_173.out _; (with_reducible repeat (first | refine blk_drewN ?_ _ | refine blk_drew ?_ | refine blk_alloc ?_ _)); exact BK166.out⟩, ⟨by (with_reducible repeat (first | refine blk_drewN ?_ _ | refine blk_drew ?_ | refine blk_alloc ?_ _)); refine blk_far ?_ NB167_173.out _; (with_reducible repeat (first | refine blk_drewN ?_ _ | refine blk_drew ?_ | refine blk_alloc ?_ _)); refine blk_far ?_ NB167_173.out _; (with_reducible repeat (first | refine blk_drewN ?_ _ | refine blk_drew ?_ | refine blk_alloc ?_ _)); exact BK167.out⟩, ⟨by (with_reducible repeat (first | refine blk_drewN ?_ _ | refine blk_drew ?_ | refine blk_alloc ?_ _)); refine blk_put (cs := #[.int .i64 (wrap64 (((rd_T105 x5_1 x10_2).f0) - t162)), .int .i64 0]) ?_ 1 _ rfl; (with_reducible repeat (first | refine blk_drewN ?_ _ | refine blk_drew ?_ | refine blk_alloc ?_ _)); refine blk_put (cs := #[.int .i64 0, .int .i64 0]) ?_ 0 _ rfl; (with_reducible repeat (first | refine blk_drewN ?_ _ | refine blk_drew ?_ | refine blk_alloc ?_ _)); exact BK173.out⟩, ⟨by repeat (first | (with_reducible first | exact HB.out | apply below_alloc | apply pw_below_drewN | apply below_drew1 | refine below_set ?_ GE166.out | refine below_set ?_ GE167.out | refine below_set ?_ GE173.out) | exact HB.out)⟩⟩
       case round =>
        clear H'
        try clear c1
        try clear p1
        try clear q1
        try clear hx1
        try clear qi1
        try clear c2
        try clear p2
        try clear c5
        try clear c5b0
        try clear c5b1
        try clear c6
        try clear c6b0
        try clear p6
        try clear c7
        try clear c7b0
        try clear c9
        try clear c11
        try clear c15
        try clear p15
        try clear q15
        try clear hx15
        try clear qi15
        try clear c17
        try clear p17
        try clear q17
        try clear hx17
        try clear c22
        try clear c22b0
        try clear c23
        try clear c23b0
        try clear hcz18_0
        try clear hcz18_1
        try clear hcz19_0
        try clear hcz19_1
        try clear hfz18_0
        try clear hfz18_1
        try clear hfz19_0
        try clear hfz19_1
        try clear hx154_0
        try clear hx154_1
        try clear hx154_2
        try clear hx154_3
        try clear hx155_0
        try clear hx155_1
        try clear hx155_2
        try clear hx155_3
        try clear hx156_0
        try clear hx156_1
        try clear hx171_0
        try clear hx171_1
        try clear hx172_0
        try clear hx172_1
        try clear p1
        try clear p15
        try clear p154
        try clear p155
        try clear p156
        try clear p171
        try clear p172
        try clear p2
        try clear p6
        try clear q1
        try clear q15
        try clear q154
        try clear q155
        try clear q156
        try clear q171
        try clear q172
        obtain ⟨x12_3, rfl, HA, HK3, HO_5, HO_9, BK166, BK167, BK173, HB⟩ := hrel
        cases gk with
        | zero => exact absurd HA.out (by simp [spec_l19Turned.l2])
        | succ k3 =>
         have H := HA.out
         clear HA
         simp only [spec_l19Turned.l2] at H
         by_cases c29 : x12_3 > 0
         rotate_left
         · rw [if_neg c29] at H
           have c29b0 : decide (0 < x12_3) = false := decide_eq_false c29
           clear c29
           obtain ⟨y196, hy196⟩ : ∃ y_ : List (S105), y_ = (([] : List (S105))) := ⟨_, rfl⟩
           replace H : (if 0 ≤ x12_3 then (if x12_3 ≤ (x9_2.length : Int) then ((some (x9_2.take (x12_3 : Int).toNat : List (S105))).bind fun y199 => (if y196.length + y199.length < 8796093022208 then ((some (y196 ++ y199 : List (S105))).bind fun y203 => (if y203.length < 8796093022208 then ((some (y203 ++ [(⟨(wrap64 (((rd_T105 x5_1 x10_2).f0) - t162)), (wrap64 (((rd_T105 x5_1 x10_2).f1) - t163))⟩ : S105)] : List (S105))).bind fun y206 => ((some (x9_2.drop (x12_3 : Int).toNat : List (S105))).bind fun y209 => (if y206.length + y209.length < 8796093022208 then (spec_l19Turned.l1 k3 x5_1 (y206 ++ y209) (wrap64 (x10_2 + 1)) t162 t163) else (none)))) else (none))) else (none))) else (none)) else (none)) = some r := by first | (rw [hy196]; with_reducible exact H) | (have H2_ := (Option.bind_some _ _).symm.trans H; rw [hy196]; with_reducible exact H2_) | (have H2_ := (Option.bind_some _ _).symm.trans H; with_reducible exact H2_) | with_reducible exact H | (rw [hy196]; exact H) | exact H
           have Ny196 := mkA hy196
           clear hy196
           by_cases c56 : 0 ≤ x12_3
           rotate_left
           · rw [if_neg c56] at H
             exact absurd H (by simp)
           rw [if_pos c56] at H
           have c56b0 := eq_true c56
           have c56b1 : decide (0 ≤ x12_3) = true := decide_eq_true c56
           clear c56
           by_cases c57 : x12_3 ≤ (x9_2.length : Int)
           rotate_left
           · rw [if_neg c57] at H
             exact absurd H (by simp)
           rw [if_pos c57] at H
           have c57b0 := eq_true c57
           have c57b1 : decide (x12_3 ≤ (x9_2.length : Int)) = true := decide_eq_true c57
           clear c57
           obtain ⟨y199, hy199⟩ : ∃ y_ : List (S105), y_ = (x9_2.take (x12_3 : Int).toNat) := ⟨_, rfl⟩
           replace H : (if y196.length + y199.length < 8796093022208 then ((some (y196 ++ y199 : List (S105))).bind fun y203 => (if y203.length < 8796093022208 then ((some (y203 ++ [(⟨(wrap64 (((rd_T105 x5_1 x10_2).f0) - t162)), (wrap64 (((rd_T105 x5_1 x10_2).f1) - t163))⟩ : S105)] : List (S105))).bind fun y206 => ((some (x9_2.drop (x12_3 : Int).toNat : List (S105))).bind fun y209 => (if y206.length + y209.length < 8796093022208 then (spec_l19Turned.l1 k3 x5_1 (y206 ++ y209) (wrap64 (x10_2 + 1)) t162 t163) else (none)))) else (none))) else (none)) = some r := by first | (rw [hy199]; with_reducible exact H) | (have H2_ := (Option.bind_some _ _).symm.trans H; rw [hy199]; with_reducible exact H2_) | (have H2_ := (Option.bind_some _ _).symm.trans H; with_reducible exact H2_) | with_reducible exact H | (rw [hy199]; exact H) | exact H
           have Ny199 := mkA hy199
           clear hy199
           by_cases c58 : y196.length + y199.length < 8796093022208
           rotate_left
           · rw [if_neg c58] at H
             exact absurd H (by simp)
           rw [if_pos c58] at H
           have LMc58 := mkA c58
           clear c58
           obtain ⟨y203, hy203⟩ : ∃ y_ : List (S105), y_ = (y196 ++ y199) := ⟨_, rfl⟩
           replace H : (if y203.length < 8796093022208 then ((some (y203 ++ [(⟨(wrap64 (((rd_T105 x5_1 x10_2).f0) - t162)), (wrap64 (((rd_T105 x5_1 x10_2).f1) - t163))⟩ : S105)] : List (S105))).bind fun y206 => ((some (x9_2.drop (x12_3 : Int).toNat : List (S105))).bind fun y209 => (if y206.length + y209.length < 8796093022208 then (spec_l19Turned.l1 k3 x5_1 (y206 ++ y209) (wrap64 (x10_2 + 1)) t162 t163) else (none)))) else (none)) = some r := by first | (rw [hy203]; with_reducible exact H) | (have H2_ := (Option.bind_some _ _).symm.trans H; rw [hy203]; with_reducible exact H2_) | (have H2_ := (Option.bind_some _ _).symm.trans H; with_reducible exact H2_) | with_reducible exact H | (rw [hy203]; exact H) | exact H
           have Ny203 := mkA hy203
           clear hy203
           by_cases c59 : y203.length < 8796093022208
           rotate_left
           · rw [if_neg c59] at H
             exact absurd H (by simp)
           rw [if_pos c59] at H
           have LMc59 := mkA c59
           clear c59
           obtain ⟨y206, hy206⟩ : ∃ y_ : List (S105), y_ = (y203 ++ [(⟨(wrap64 (((rd_T105 x5_1 x10_2).f0) - t162)), (wrap64 (((rd_T105 x5_1 x10_2).f1) - t163))⟩ : S105)]) := ⟨_, rfl⟩
           replace H : ((some (x9_2.drop (x12_3 : Int).toNat : List (S105))).bind fun y209 => (if y206.length + y209.length < 8796093022208 then (spec_l19Turned.l1 k3 x5_1 (y206 ++ y209) (wrap64 (x10_2 + 1)) t162 t163) else (none))) = some r := by first | (rw [hy206]; with_reducible exact H) | (have H2_ := (Option.bind_some _ _).symm.trans H; rw [hy206]; with_reducible exact H2_) | (have H2_ := (Option.bind_some _ _).symm.trans H; with_reducible exact H2_) | with_reducible exact H | (rw [hy206]; exact H) | exact H
           have Ny206 := mkA hy206
           clear hy206
           have c60b0 := eq_true (dt_ : 0 ≤ x12_3)
           have c61b0 := eq_true (dt_ : x12_3 ≤ (x9_2.length : Int))
           obtain ⟨y209, hy209⟩ : ∃ y_ : List (S105), y_ = (x9_2.drop (x12_3 : Int).toNat) := ⟨_, rfl⟩
           replace H : (if y206.length + y209.length < 8796093022208 then (spec_l19Turned.l1 k3 x5_1 (y206 ++ y209) (wrap64 (x10_2 + 1)) t162 t163) else (none)) = some r := by first | (rw [hy209]; with_reducible exact H) | (have H2_ := (Option.bind_some _ _).symm.trans H; rw [hy209]; with_reducible exact H2_) | (have H2_ := (Option.bind_some _ _).symm.trans H; with_reducible exact H2_) | with_reducible exact H | (rw [hy209]; exact H) | exact H
           have Ny209 := mkA hy209
           clear hy209
           by_cases c62 : y206.length + y209.length < 8796093022208
           rotate_left
           · rw [if_neg c62] at H
             exact absurd H (by simp)
           rw [if_pos c62] at H
           have LMc62 := mkA c62
           clear c62
           obtain ⟨y213, hy213⟩ : ∃ y_ : List (S105), y_ = (y206 ++ y209) := ⟨_, rfl⟩
           replace H : (spec_l19Turned.l1 k3 x5_1 y213 (wrap64 (x10_2 + 1)) t162 t163) = some r := by first | (rw [hy213]; with_reducible exact H) | (have H2_ := (Option.bind_some _ _).symm.trans H; rw [hy213]; with_reducible exact H2_) | (have H2_ := (Option.bind_some _ _).symm.trans H; with_reducible exact H2_) | with_reducible exact H | (rw [hy213]; exact H) | exact H
           have Ny213 := mkA hy213
           clear hy213
           have H' := mkA H
           clear H
           try go_wp2
           have n0_ := mkA (Kd.R_drew HO_5.out)
           have n1_ := mkA (Kd.R_drew HO_9.out)
           have n2_ := mkA (blk_drew BK166.out)
           have n3_ := mkA (blk_drew BK167.out)
           have n4_ := mkA (blk_drew BK173.out)
           have n5_ := mkA (below_drew1 HB.out)
           clear HO_5
           clear HO_9
           clear BK166
           clear BK167
           clear BK173
           clear HB
           have HO_5 := n0_
           have HO_9 := n1_
           have BK166 := n2_
           have BK167 := n3_
           have BK173 := n4_
           have HB := n5_
           clear n0_ n1_ n2_ n3_ n4_ n5_
           refine start_ (n := 11) (S := fun w' => True) (ds := []) spec_l19Turned.d20 (by kernel_rfl) rfl rfl trivial (fun hHeld => ?_); refine with_tabW spec_l19Turned.tab13 spec_l19Turned.bits13 (fun HT_ HW_ => ?_)
           generalize wr.drew = w63 at HO_5 HO_9 BK166 BK167 BK173 HB hHeld ⊢
           refine p1_ HT_.out 0 67 spec_l19Turned.d21 ?_
           refine p1_ HT_.out 1 68 spec_l19Turned.d22 ?_
           refine p1_ HT_.out 2 69 spec_l19Turned.d23 ?_
           refine p0_ HT_.out 3 70 spec_l19Turned.d32 ?_
           refine p0_ HT_.out 4 71 spec_l19Turned.d33 ?_
           refine p0_ HT_.out 5 72 spec_l19Turned.d34 ?_
           refine p0_ HT_.out 6 73 spec_l19Turned.d35 ?_
           refine p0_ HT_.out 7 74 spec_l19Turned.d28 ?_
           refine p0_ HT_.out 8 75 spec_l19Turned.d29 ?_
           refine p0_ HT_.out 9 76 spec_l19Turned.d30 ?_
           refine p1_ HT_.out 10 77 spec_l19Turned.d31 ?_
           refine done_ (done_of HT_.out (by kernel_rfl)) ?_
           try go_wp2_with (first | ((with_reducible refine gate_dst (N := 80) rfl ?_); refine Kd.R_lit k105 _ 105 ?hg (N := 80) ?hd (xs := ([] : List (S105))) (inner := []) (ok := fun _ => True) (okp := fun _ => True) ?hr ?hp (fun _ hk => hk) trivial (Below.refl _ _) (Nat.le_refl _) (by simp) ?_; (case hd => rfl); (case hg => rfl); (case hr => first | (go_simp; done) | (go_simp; rfl)); (case hp => exact (Reps.none _ _)); intro v197 w64 ho65 hb hg_ hnew_; clear hg_ hnew_; (first | rw [← Ny196.out] at ho65 | (simp only [Int.reduceToNat] at ho65; rw [← Ny196.out] at ho65)); have n0_ := mkA (Kd.R_elder' (by (with_reducible repeat (first | apply Kd.R_alloc | apply Kd.R_drewN | apply Kd.R_drew)); exact HO_5.out) (Kd.R_base ho65) hb); have n1_ := mkA (Kd.R_elder' (by (with_reducible repeat (first | apply Kd.R_alloc | apply Kd.R_drewN | apply Kd.R_drew)); exact HO_9.out) (Kd.R_base ho65) hb); have n2_ := mkA (Kd.R_lower (Kd.R_newB (Kd.R_newB (Kd.R_newB (Kd.R_new' (Kd.R_new' ho65 (Kd.R_lt (by (with_reducible repeat (first | apply Kd.R_alloc | apply Kd.R_drewN | apply Kd.R_drew)); exact HO_5.out))) (Kd.R_lt (by (with_reducible repeat (first | apply Kd.R_alloc | apply Kd.R_drewN | apply Kd.R_drew)); exact HO_9.out))) (g := gb166) (o := .cells #[.int .i64 t162, .int .i64 t163] 105 (0, 0)) (bl_ BK166.out)) (g := gb167) (o := .cells #[.int .i64 t164, .int .i64 t165] 105 (0, 0)) (bl_ BK167.out)) (g := gb173) (o := .cells #[.int .i64 (wrap64 (((rd_T105 x5_1 x10_2).f0) - t162)), .int .i64 (wrap64 (((rd_T105 x5_1 x10_2).f1) - t163))] 105 (0, 0)) (bl_ BK173.out)) (below_size (bs3_ HB.out GE166.out GE167.out GE173.out))); have n3_ := mkA (blk_below (g := gb166) (o := .cells #[.int .i64 t162, .int .i64 t163] 105 (0, 0)) (bl_ BK166.out) hb); have n4_ := mkA (blk_below (g := gb167) (o := .cells #[.int .i64 t164, .int .i64 t165] 105 (0, 0)) (bl_ BK167.out) hb); have n5_ := mkA (blk_below (g := gb173) (o := .cells #[.int .i64 (wrap64 (((rd_T105 x5_1 x10_2).f0) - t162)), .int .i64 (wrap64 (((rd_T105 x5_1 x10_2).f1) - t163))] 105 (0, 0)) (bl_ BK173.out) hb); have n6_ := mkA (below_step (bs3_ HB.out GE166.out GE167.out GE173.out) hb); clear HO_5; clear HO_9; clear BK166; clear BK167; clear BK173; clear HB; have HO_5 := n0_; have HO_9 := n1_; have HO198 := n2_; have BK166 := n3_; have BK167 := n4_; have BK173 := n5_; have HB := n6_; clear n0_ n1_ n2_ n3_ n4_ n5_ n6_; clear hb ho65; have q66 : (x12_3 : Int) ≤ ((x9_2.length : Int) : Int) := dt_; obtain ⟨i066, hi066, _, hsz66, _⟩ := info_parts info105; have hroom66 : x9_2.length ≤ co28 := (Kd.R_reads' HO_9.out).2.1; have hC66 : Kd.C k105 _ Ao28 x9_2.length x9_2 := (Kd.R_reads' HO_9.out).2.2; have hcut66 := cut_to (P := Try.prog) 51 105 .i64 Try.underlying51 hi066 Ao28 x9_2.length co28 x12_3 (dt_) q66 hroom66; have hr66 := Kd.C_take (m := (x12_3 : Int).toNat) hC66 (by omega); have hy66 : y199.length = (x12_3 : Int).toNat := (by rw [Ny199.out, List.length_take]; omega); rw [← Ny199.out] at hr66; rw [← hy66] at hcut66; have HR202 := mkA hr66; have HC202 := mkA (show y199.length ≤ co28 from by omega); clear hr66 hC66 hroom66 hi066 hsz66; have KY66 := mkA hy66; clear hy66; have KL66 := mkA (show (x12_3 : Int).toNat ≤ x9_2.length from by omega); replace q66 := eq_true q66) | ((with_reducible refine gate_builtin (b := .append) (xs := #[.tmp 80, .tmp 83]) rfl ?_); at_builtin; refine Kd.R_append_rows k105 (w0 := w) w.heap.size rfl (.tmp 80) (.tmp 83) 51 105 (.agg #[(.int .i64 0), (.int .i64 0)]) 16 rfl Try.underlying51 info105 rfl (by decide) (by omega) v197 y196 y199 _ _ _ (fun k_ => some k_ ≠ (.slice (some ad171) x5_1.length co13 : Value).ownBlock ∧ some k_ ≠ (.slice Ao28 x9_2.length co28 : Value).ownBlock ∧ k_ ≠ gb166 ∧ k_ ≠ gb167 ∧ k_ ≠ gb173) (fun _ => False) rfl rfl ?aO ?aR (fun _ _ h => h) (fun _ h => h.elim) ?aF ?aB ?aS ?aL ?_; (case aR => repeat (first | exact (by repeat (first | (with_reducible exact HR202.out) | (with_reducible refine Kd.C_alloc ?_ _) | (with_reducible refine Kd.C_drewN ?_ _) | (with_reducible refine Kd.C_drew ?_) | exact HR202.out)) | (with_reducible refine Kd.C_alloc ?_ _) | (with_reducible refine Kd.C_drewN ?_ _) | (with_reducible refine Kd.C_drew ?_))); (case aB => exact (bs3_ HB.out GE166.out GE167.out GE173.out)); (case aF => exact (fun k_ hk => ⟨Kd.fresh' (Kd.R_lt (by (with_reducible repeat (first | apply Kd.R_alloc | apply Kd.R_drewN | apply Kd.R_drew)); exact HO_5.out)) k_ hk, Kd.fresh' (Kd.R_lt (by (with_reducible repeat (first | apply Kd.R_alloc | apply Kd.R_drewN | apply Kd.R_drew)); exact HO_9.out)) k_ hk, Kd.freshB (g := gb166) (o := .cells #[.int .i64 t162, .int .i64 t163] 105 (0, 0)) (bl_ BK166.out) k_ hk, Kd.freshB (g := gb167) (o := .cells #[.int .i64 t164, .int .i64 t165] 105 (0, 0)) (bl_ BK167.out) k_ hk, Kd.freshB (g := gb173) (o := .cells #[.int .i64 (wrap64 (((rd_T105 x5_1 x10_2).f0) - t162)), .int .i64 (wrap64 (((rd_T105 x5_1 x10_2).f1) - t163))] 105 (0, 0)) (bl_ BK173.out) k_ hk⟩)); (case aO => exact (by (with_reducible repeat (first | apply Kd.R_alloc | apply Kd.R_drewN | apply Kd.R_drew)); exact Kd.R_mono HO198.out (fun _ hk => ⟨hk.1.1.1.1.2, ⟨hk.1.1.1.2, ⟨hk.1.1.2, ⟨hk.1.2, hk.2⟩⟩⟩⟩))); (case aS => exact (below_size (bs3_ HB.out GE166.out GE167.out GE173.out))); (case aL => have := LMc58.out; omega); intro v204 w67 ho hb hg hat; rw [← Ny203.out] at ho; have n0_ := mkA (Kd.R_after (ok := (fun k_ => some k_ ≠ (.slice Ao28 x9_2.length co28 : Value).ownBlock ∧ k_ ≠ gb166 ∧ k_ ≠ gb167 ∧ k_ ≠ gb173)) (by (with_reducible repeat (first | apply Kd.R_alloc | apply Kd.R_drewN | apply Kd.R_drew)); exact HO_5.out) hg hat); have n1_ := mkA (Kd.R_after (ok := (fun k_ => some k_ ≠ (.slice (some ad171) x5_1.length co13 : Value).ownBlock ∧ k_ ≠ gb166 ∧ k_ ≠ gb167 ∧ k_ ≠ gb173)) (by (with_reducible repeat (first | apply Kd.R_alloc | apply Kd.R_drewN | apply Kd.R_drew)); exact HO_9.out) hg hat); have n2_ := mkA (blk_grown (g := gb166) (o := .cells #[.int .i64 t162, .int .i64 t163] 105 (0, 0)) (bl_ BK166.out) hg (Kd.R_away HO198.out (fun _ hk => hk.1.1.2))); have n3_ := mkA (blk_grown (g := gb167) (o := .cells #[.int .i64 t164, .int .i64 t165] 105 (0, 0)) (bl_ BK167.out) hg (Kd.R_away HO198.out (fun _ hk => hk.1.2))); have n4_ := mkA (blk_grown (g := gb173) (o := .cells #[.int .i64 (wrap64 (((rd_T105 x5_1 x10_2).f0) - t162)), .int .i64 (wrap64 (((rd_T105 x5_1 x10_2).f1) - t163))] 105 (0, 0)) (bl_ BK173.out) hg (Kd.R_away HO198.out (fun _ hk => hk.2))); have n5_ := mkA (hb); have n6_ := mkA ((show Kd.C k105 w67 Ao28 y199.length y199 from by rw [Ny199.out]; exact Kd.C_take (m := (x12_3 : Int).toNat) ((Kd.R_reads' (Kd.R_after (ok := (fun k_ => some k_ ≠ (.slice (some ad171) x5_1.length co13 : Value).ownBlock ∧ k_ ≠ gb166 ∧ k_ ≠ gb167 ∧ k_ ≠ gb173)) (by (with_reducible repeat (first | apply Kd.R_alloc | apply Kd.R_drewN | apply Kd.R_drew)); exact HO_9.out) hg hat)).2.2) KL66.out)); have n7_ := mkA (ho); clear HO_5; clear HO_9; clear BK166; clear BK167; clear BK173; clear HB; clear HR202; clear HO198; have HO_5 := n0_; have HO_9 := n1_; have BK166 := n2_; have BK167 := n3_; have BK173 := n4_; have HB := n5_; have HR202 := n6_; have HO205 := n7_; clear n0_ n1_ n2_ n3_ n4_ n5_ n6_ n7_; clear ho hb hg hat; have hnb68 := NB173_166.out; have hnc68 := NB166_173.out; have hnb69 := NB173_167.out; have hnc69 := NB167_173.out; have hcz70_0 : w67.cell? ⟨gb173, 0, none⟩ = some (.int .i64 (wrap64 (((rd_T105 x5_1 x10_2).f0) - t162))) := (blk_cell BK173.out 0).trans rfl; have hcz70_1 : w67.cell? ⟨gb173, 1, none⟩ = some (.int .i64 (wrap64 (((rd_T105 x5_1 x10_2).f1) - t163))) := (blk_cell BK173.out 1).trans rfl; have hfz70_0 := blk_frozen BK173.out 0; have hfz70_1 := blk_frozen BK173.out 1) | ((with_reducible refine gate_builtin (b := .append) (xs := #[.tmp 85, .tmp 87]) rfl ?_); at_builtin; refine Kd.R_append k105 (w0 := w) w.heap.size rfl (.tmp 85) (.tmp 87) 51 105 (.agg #[(.int .i64 0), (.int .i64 0)]) 16 rfl Try.underlying51 info105 rfl (by decide) (by omega) v204 y203 (⟨(wrap64 (((rd_T105 x5_1 x10_2).f0) - t162)), (wrap64 (((rd_T105 x5_1 x10_2).f1) - t163))⟩ : S105) [.int .i64 (wrap64 (((rd_T105 x5_1 x10_2).f0) - t162)), .int .i64 (wrap64 (((rd_T105 x5_1 x10_2).f1) - t163))] (fun k_ => some k_ ≠ (.slice (some ad171) x5_1.length co13 : Value).ownBlock ∧ some k_ ≠ (.slice Ao28 x9_2.length co28 : Value).ownBlock ∧ k_ ≠ gb166 ∧ k_ ≠ gb167 ∧ k_ ≠ gb173) (fun _ => False) rfl rfl ?aP (fun _ hk => hk.elim) ?aF ?aO ?aB ?aS ?aL ?_; (case aP => exact k105_mkM _ _ _ (⟨(wrap64 (((rd_T105 x5_1 x10_2).f0) - t162)), (wrap64 (((rd_T105 x5_1 x10_2).f1) - t163))⟩ : S105)); (case aB => exact (bs3_ HB.out GE166.out GE167.out GE173.out)); (case aF => exact (fun k_ hk => ⟨Kd.fresh' (Kd.R_lt (by (with_reducible repeat (first | apply Kd.R_alloc | apply Kd.R_drewN | apply Kd.R_drew)); exact HO_5.out)) k_ hk, Kd.fresh' (Kd.R_lt (by (with_reducible repeat (first | apply Kd.R_alloc | apply Kd.R_drewN | apply Kd.R_drew)); exact HO_9.out)) k_ hk, Kd.freshB (g := gb166) (o := .cells #[.int .i64 t162, .int .i64 t163] 105 (0, 0)) (bl_ BK166.out) k_ hk, Kd.freshB (g := gb167) (o := .cells #[.int .i64 t164, .int .i64 t165] 105 (0, 0)) (bl_ BK167.out) k_ hk, Kd.freshB (g := gb173) (o := .cells #[.int .i64 (wrap64 (((rd_T105 x5_1 x10_2).f0) - t162)), .int .i64 (wrap64 (((rd_T105 x5_1 x10_2).f1) - t163))] 105 (0, 0)) (bl_ BK173.out) k_ hk⟩)); (case aO => exact (by (with_reducible repeat (first | apply Kd.R_alloc | apply Kd.R_drewN | apply Kd.R_drew)); exact HO205.out)); (case aS => exact (below_size (bs3_ HB.out GE166.out GE167.out GE173.out))); (case aL => have := LMc59.out; omega); intro v207 w71 ho hb hg hat; rw [← Ny206.out] at ho; have n0_ := mkA (Kd.R_after (ok := (fun k_ => some k_ ≠ (.slice Ao28 x9_2.length co28 : Value).ownBlock ∧ k_ ≠ gb166 ∧ k_ ≠ gb167 ∧ k_ ≠ gb173)) (by (with_reducible repeat (first | apply Kd.R_alloc | apply Kd.R_drewN | apply Kd.R_drew)); exact HO_5.out) hg hat); have n1_ := mkA (Kd.R_after (ok := (fun k_ => some k_ ≠ (.slice (some ad171) x5_1.length co13 : Value).ownBlock ∧ k_ ≠ gb166 ∧ k_ ≠ gb167 ∧ k_ ≠ gb173)) (by (with_reducible repeat (first | apply Kd.R_alloc | apply Kd.R_drewN | apply Kd.R_drew)); exact HO_9.out) hg hat); have n2_ := mkA (blk_grown (g := gb166) (o := .cells #[.int .i64 t162, .int .i64 t163] 105 (0, 0)) (bl_ BK166.out) hg (Kd.R_away HO205.out (fun _ hk => hk.2.2.1))); have n3_ := mkA (blk_grown (g := gb167) (o := .cells #[.int .i64 t164, .int .i64 t165] 105 (0, 0)) (bl_ BK167.out) hg (Kd.R_away HO205.out (fun _ hk => hk.2.2.2.1))); have n4_ := mkA (blk_grown (g := gb173) (o := .cells #[.int .i64 (wrap64 (((rd_T105 x5_1 x10_2).f0) - t162)), .int .i64 (wrap64 (((rd_T105 x5_1 x10_2).f1) - t163))] 105 (0, 0)) (bl_ BK173.out) hg (Kd.R_away HO205.out (fun _ hk => hk.2.2.2.2))); have n5_ := mkA (hb); have n6_ := mkA ((show Kd.C k105 w71 Ao28 y199.length y199 from by rw [Ny199.out]; exact Kd.C_take (m := (x12_3 : Int).toNat) ((Kd.R_reads' (Kd.R_after (ok := (fun k_ => some k_ ≠ (.slice (some ad171) x5_1.length co13 : Value).ownBlock ∧ k_ ≠ gb166 ∧ k_ ≠ gb167 ∧ k_ ≠ gb173)) (by (with_reducible repeat (first | apply Kd.R_alloc | apply Kd.R_drewN | apply Kd.R_drew)); exact HO_9.out) hg hat)).2.2) KL66.out)); have n7_ := mkA (ho); clear HO_5; clear HO_9; clear BK166; clear BK167; clear BK173; clear HB; clear HR202; clear HO205; have HO_5 := n0_; have HO_9 := n1_; have BK166 := n2_; have BK167 := n3_; have BK173 := n4_; have HB := n5_; have HR202 := n6_; have HO208 := n7_; clear n0_ n1_ n2_ n3_ n4_ n5_ n6_ n7_; clear ho hb hg hat; have q72 : (x12_3 : Int) ≤ ((x9_2.length : Int) : Int) := dt_; obtain ⟨i072, hi072, _, hsz72, _⟩ := info_parts info105; have hroom72 : x9_2.length ≤ co28 := (Kd.R_reads' HO_9.out).2.1; have hC72 : Kd.C k105 _ Ao28 x9_2.length x9_2 := (Kd.R_reads' HO_9.out).2.2; have q072 : (0 : Int) ≤ (x12_3 : Int) := dt_; have hcut72 := cut_from (P := Try.prog) 51 105 .i64 Try.underlying51 hi072 2 hsz72 Ao28 x9_2.length co28 x12_3 q072 q72; have hr72 := Kd.C_drop (m := (x12_3 : Int).toNat) (c := co28) hC72 (by omega) hroom72; obtain ⟨A72, hA72⟩ : ∃ A1, A1 = (if co28 = (x12_3 : Int).toNat then Ao28 else (Ao28 : Option Addr).map (·.add ((x12_3 : Int).toNat * 2))) := ⟨_, rfl⟩; obtain ⟨c72, hc72⟩ : ∃ c1, c1 = co28 - (x12_3 : Int).toNat := ⟨_, rfl⟩; have hy72 : y209.length = x9_2.length - (x12_3 : Int).toNat := (by rw [Ny209.out, List.length_drop] <;> omega); rw [show (x9_2).drop (x12_3 : Int).toNat = y209 from Ny209.out.symm] at hr72; replace hr72 : Kd.C k105 _ A72 y209.length y209 := (by rw [hA72]; exact hr72); rw [← hy72, ← hA72, ← hc72] at hcut72; have HR212 := mkA hr72; have HC212 := mkA (show y209.length ≤ c72 from by rw [hy72, hc72]; exact Nat.sub_le_sub_right hroom72 _); clear hr72 hC72 hroom72 hi072 hsz72 hc72; have KY72 := mkA hy72; have KA72 := mkA hA72; clear hy72 hA72; have KL72 := mkA (show (x12_3 : Int).toNat ≤ x9_2.length from by omega); replace q72 := eq_true q72) | ((with_reducible refine gate_builtin (b := .append) (xs := #[.tmp 89, .tmp 92]) rfl ?_); at_builtin; refine Kd.R_append_rows k105 (w0 := w) w.heap.size rfl (.tmp 89) (.tmp 92) 51 105 (.agg #[(.int .i64 0), (.int .i64 0)]) 16 rfl Try.underlying51 info105 rfl (by decide) (by omega) v207 y206 y209 _ _ _ (fun k_ => some k_ ≠ (.slice (some ad171) x5_1.length co13 : Value).ownBlock ∧ some k_ ≠ (.slice Ao28 x9_2.length co28 : Value).ownBlock ∧ k_ ≠ gb166 ∧ k_ ≠ gb167 ∧ k_ ≠ gb173) (fun _ => False) rfl rfl ?aO ?aR (fun _ _ h => h) (fun _ h => h.elim) ?aF ?aB ?aS ?aL ?_; (case aR => repeat (first | exact (by repeat (first | (with_reducible exact HR212.out) | (with_reducible refine Kd.C_alloc ?_ _) | (with_reducible refine Kd.C_drewN ?_ _) | (with_reducible refine Kd.C_drew ?_) | exact HR212.out)) | (with_reducible refine Kd.C_alloc ?_ _) | (with_reducible refine Kd.C_drewN ?_ _) | (with_reducible refine Kd.C_drew ?_))); (case aB => exact (bs3_ HB.out GE166.out GE167.out GE173.out)); (case aF => exact (fun k_ hk => ⟨Kd.fresh' (Kd.R_lt (by (with_reducible repeat (first | apply Kd.R_alloc | apply Kd.R_drewN | apply Kd.R_drew)); exact HO_5.out)) k_ hk, Kd.fresh' (Kd.R_lt (by (with_reducible repeat (first | apply Kd.R_alloc | apply Kd.R_drewN | apply Kd.R_drew)); exact HO_9.out)) k_ hk, Kd.freshB (g := gb166) (o := .cells #[.int .i64 t162, .int .i64 t163] 105 (0, 0)) (bl_ BK166.out) k_ hk, Kd.freshB (g := gb167) (o := .cells #[.int .i64 t164, .int .i64 t165] 105 (0, 0)) (bl_ BK167.out) k_ hk, Kd.freshB (g := gb173) (o := .cells #[.int .i64 (wrap64 (((rd_T105 x5_1 x10_2).f0) - t162)), .int .i64 (wrap64 (((rd_T105 x5_1 x10_2).f1) - t163))] 105 (0, 0)) (bl_ BK173.out) k_ hk⟩)); (case aO => exact (by (with_reducible repeat (first | apply Kd.R_alloc | apply Kd.R_drewN | apply Kd.R_drew)); exact HO208.out)); (case aS => exact (below_size (bs3_ HB.out GE166.out GE167.out GE173.out))); (case aL => have := LMc62.out; omega); intro v214 w73 ho hb hg hat; rw [← Ny213.out] at ho; have n0_ := mkA (Kd.R_after (ok := (fun k_ => some k_ ≠ (.slice Ao28 x9_2.length co28 : Value).ownBlock ∧ k_ ≠ gb166 ∧ k_ ≠ gb167 ∧ k_ ≠ gb173)) (by (with_reducible repeat (first | apply Kd.R_alloc | apply Kd.R_drewN | apply Kd.R_drew)); exact HO_5.out) hg hat); have n1_ := mkA (Kd.R_after (ok := (fun k_ => some k_ ≠ (.slice (some ad171) x5_1.length co13 : Value).ownBlock ∧ k_ ≠ gb166 ∧ k_ ≠ gb167 ∧ k_ ≠ gb173)) (by (with_reducible repeat (first | apply Kd.R_alloc | apply Kd.R_drewN | apply Kd.R_drew)); exact HO_9.out) hg hat); have n2_ := mkA (blk_grown (g := gb166) (o := .cells #[.int .i64 t162, .int .i64 t163] 105 (0, 0)) (bl_ BK166.out) hg (Kd.R_away HO208.out (fun _ hk => hk.2.2.1))); have n3_ := mkA (blk_grown (g := gb167) (o := .cells #[.int .i64 t164, .int .i64 t165] 105 (0, 0)) (bl_ BK167.out) hg (Kd.R_away HO208.out (fun _ hk => hk.2.2.2.1))); have n4_ := mkA (blk_grown (g := gb173) (o := .cells #[.int .i64 (wrap64 (((rd_T105 x5_1 x10_2).f0) - t162)), .int .i64 (wrap64 (((rd_T105 x5_1 x10_2).f1) - t163))] 105 (0, 0)) (bl_ BK173.out) hg (Kd.R_away HO208.out (fun _ hk => hk.2.2.2.2))); have n5_ := mkA (hb); have n6_ := mkA ((show Kd.C k105 w73 Ao28 y199.length y199 from by rw [Ny199.out]; exact Kd.C_take (m := (x12_3 : Int).toNat) ((Kd.R_reads' (Kd.R_after (ok := (fun k_ => some k_ ≠ (.slice (some ad171) x5_1.length co13 : Value).ownBlock ∧ k_ ≠ gb166 ∧ k_ ≠ gb167 ∧ k_ ≠ gb173)) (by (with_reducible repeat (first | apply Kd.R_alloc | apply Kd.R_drewN | apply Kd.R_drew)); exact HO_9.out) hg hat)).2.2) KL66.out)); have n7_ := mkA ((show Kd.C k105 w73 A72 y209.length y209 from by rw [Ny209.out, KA72.out]; exact Kd.C_drop (m := (x12_3 : Int).toNat) (c := co28) ((Kd.R_reads' (Kd.R_after (ok := (fun k_ => some k_ ≠ (.slice (some ad171) x5_1.length co13 : Value).ownBlock ∧ k_ ≠ gb166 ∧ k_ ≠ gb167 ∧ k_ ≠ gb173)) (by (with_reducible repeat (first | apply Kd.R_alloc | apply Kd.R_drewN | apply Kd.R_drew)); exact HO_9.out) hg hat)).2.2) KL72.out ((Kd.R_reads' (Kd.R_after (ok := (fun k_ => some k_ ≠ (.slice (some ad171) x5_1.length co13 : Value).ownBlock ∧ k_ ≠ gb166 ∧ k_ ≠ gb167 ∧ k_ ≠ gb173)) (by (with_reducible repeat (first | apply Kd.R_alloc | apply Kd.R_drewN | apply Kd.R_drew)); exact HO_9.out) hg hat)).2.1))); have n8_ := mkA (ho); clear HO_5; clear HO_9; clear BK166; clear BK167; clear BK173; clear HB; clear HR202; clear HR212; clear HO208; have HO_5 := n0_; have HO_9 := n1_; have BK166 := n2_; have BK167 := n3_; have BK173 := n4_; have HB := n5_; have HR202 := n6_; have HR212 := n7_; have HO215 := n8_; clear n0_ n1_ n2_ n3_ n4_ n5_ n6_ n7_ n8_; clear ho hb hg hat))
           go_roundg k3
           case measure => have := HK1.out; have := HK2.out; have := HK3.out; omega
           case rel => exact ⟨(y213), (wrap64 (x10_2 + 1)), (by first | rfl | (simp; done) | (simp [*]; done) | (simp [i64_w, i32_w]; done)), H', ⟨by have := HK1.out; have := HK2.out; have := HK3.out; omega⟩, ⟨by (with_reducible repeat (first | apply Kd.R_alloc | apply Kd.R_drewN | apply Kd.R_drew)); exact Kd.R_mono HO_5.out (fun _ hk => ⟨hk.2, ⟨hk.1.2.1, hk.1.2.2.1⟩⟩)⟩, ⟨by (with_reducible repeat (first | apply Kd.R_alloc | apply Kd.R_drewN | apply Kd.R_drew)); exact Kd.R_mono HO215.out (fun _ hk => ⟨hk.1, ⟨hk.2.2.1, hk.2.2.2.1⟩⟩)⟩, ⟨by (with_reducible repeat (first | refine blk_drewN ?_ _ | refine blk_drew ?_ | refine blk_alloc ?_ _)); exact BK166.out⟩, ⟨by (with_reducible repeat (first | refine blk_drewN ?_ _ | refine blk_drew ?_ | refine blk_alloc ?_ _)); exact BK167.out⟩, ⟨by repeat (first | (with_reducible first | exact HB.out | apply below_alloc | apply pw_below_drewN | apply below_drew1 | refine below_set ?_ GE166.out | refine below_set ?_ GE167.out | refine below_set ?_ GE173.out) | exact HB.out)⟩⟩
         rw [if_pos c29] at H
         have c29b0 : decide (0 < x12_3) = true := decide_eq_true c29
         clear c29
         obtain ⟨ji30, hji30⟩ : ∃ j_ : Int, (wrap64 (x12_3 - 1)) = j_ := ⟨_, rfl⟩
         replace H : (if 0 ≤ (ji30) then (if (ji30) < (x9_2.length : Int) then ((spec_l19Before.f (wrap64 (((rd_T105 x5_1 x10_2).f0) - t162)) (wrap64 (((rd_T105 x5_1 x10_2).f1) - t163)) ((rd_T105 x9_2 (ji30)).f0) ((rd_T105 x9_2 (ji30)).f1)).bind fun t175 => (if t175 = true then (spec_l19Turned.l2 k3 x5_1 x9_2 x10_2 ji30 t162 t163 (wrap64 (((rd_T105 x5_1 x10_2).f0) - t162)) (wrap64 (((rd_T105 x5_1 x10_2).f1) - t163))) else ((some (([] : List (S105)) : List (S105))).bind fun y176 => (if 0 ≤ x12_3 then (if x12_3 ≤ (x9_2.length : Int) then ((some (x9_2.take (x12_3 : Int).toNat : List (S105))).bind fun y179 => (if y176.length + y179.length < 8796093022208 then ((some (y176 ++ y179 : List (S105))).bind fun y183 => (if y183.length < 8796093022208 then ((some (y183 ++ [(⟨(wrap64 (((rd_T105 x5_1 x10_2).f0) - t162)), (wrap64 (((rd_T105 x5_1 x10_2).f1) - t163))⟩ : S105)] : List (S105))).bind fun y186 => ((some (x9_2.drop (x12_3 : Int).toNat : List (S105))).bind fun y189 => (if y186.length + y189.length < 8796093022208 then (spec_l19Turned.l1 k3 x5_1 (y186 ++ y189) (wrap64 (x10_2 + 1)) t162 t163) else (none)))) else (none))) else (none))) else (none)) else (none))))) else (none)) else (none)) = some r := by first | (rw [hji30] at H; exact H) | (simp only [hji30] at H ⊢; exact H)
         have hji30w : (IntKind.i64.wrap (x12_3 - 1)) = ji30 := (i64_w _).trans hji30
         by_cases c31 : 0 ≤ (ji30)
         rotate_left
         · rw [if_neg c31] at H
           exact absurd H (by simp)
         rw [if_pos c31] at H
         have c31b0 : decide (0 ≤ (ji30)) = true := decide_eq_true c31
         clear c31
         by_cases c32 : (ji30) < (x9_2.length : Int)
         rotate_left
         · rw [if_neg c32] at H
           exact absurd H (by simp)
         rw [if_pos c32] at H
         have c32b0 : decide ((ji30) < (x9_2.length : Int)) = true := decide_eq_true c32
         clear c32
         replace H := Option.bind_eq_some_iff.mp H
         obtain ⟨t175, A330, H⟩ := H
         replace H : (if t175 = true then (spec_l19Turned.l2 k3 x5_1 x9_2 x10_2 ji30 t162 t163 (wrap64 (((rd_T105 x5_1 x10_2).f0) - t162)) (wrap64 (((rd_T105 x5_1 x10_2).f1) - t163))) else ((some (([] : List (S105)) : List (S105))).bind fun y176 => (if 0 ≤ x12_3 then (if x12_3 ≤ (x9_2.length : Int) then ((some (x9_2.take (x12_3 : Int).toNat : List (S105))).bind fun y179 => (if y176.length + y179.length < 8796093022208 then ((some (y176 ++ y179 : List (S105))).bind fun y183 => (if y183.length < 8796093022208 then ((some (y183 ++ [(⟨(wrap64 (((rd_T105 x5_1 x10_2).f0) - t162)), (wrap64 (((rd_T105 x5_1 x10_2).f1) - t163))⟩ : S105)] : List (S105))).bind fun y186 => ((some (x9_2.drop (x12_3 : Int).toNat : List (S105))).bind fun y189 => (if y186.length + y189.length < 8796093022208 then (spec_l19Turned.l1 k3 x5_1 (y186 ++ y189) (wrap64 (x10_2 + 1)) t162 t163) else (none)))) else (none))) else (none))) else (none)) else (none)))) = some r := H
         have A33 := mkA A330
         clear A330
         by_cases c34 : t175 = true
         · subst c34
           have H1 : (spec_l19Turned.l2 k3 x5_1 x9_2 x10_2 ji30 t162 t163 (wrap64 (((rd_T105 x5_1 x10_2).f0) - t162)) (wrap64 (((rd_T105 x5_1 x10_2).f1) - t163))) = some r := by rw [if_pos rfl] at H; exact H
           clear H
           have H := H1
           clear H1
           have H' := mkA H
           clear H
           try go_wp2
           have n0_ := mkA (Kd.R_drew HO_5.out)
           have n1_ := mkA (Kd.R_drew HO_9.out)
           have n2_ := mkA (blk_drew BK166.out)
           have n3_ := mkA (blk_drew BK167.out)
           have n4_ := mkA (blk_drew BK173.out)
           have n5_ := mkA (below_drew1 HB.out)
           clear HO_5
           clear HO_9
           clear BK166
           clear BK167
           clear BK173
           clear HB
           have HO_5 := n0_
           have HO_9 := n1_
           have BK166 := n2_
           have BK167 := n3_
           have BK173 := n4_
           have HB := n5_
           clear n0_ n1_ n2_ n3_ n4_ n5_
           have p174 : 0 ≤ ((ji30) : Int) := dt_
           have q174 : (ji30) < (x9_2.length : Int) := dt_
           obtain ⟨ad174, e174, hx174_0, hx174_1⟩ := at_T105 (Kd.R_reads' HO_9.out).2.2 (ji30) p174 q174
           cases e174
           replace p174 := eq_true p174
           replace q174 := eq_true q174
           refine start_ (n := 11) (S := fun w' => w'.cell? ⟨gb173, 0, none⟩ = some (.int .i64 (wrap64 (((rd_T105 x5_1 x10_2).f0) - t162))) ∧ w'.cell? ⟨gb173, 1, none⟩ = some (.int .i64 (wrap64 (((rd_T105 x5_1 x10_2).f1) - t163))) ∧ w'.cell? (ad174.add (((ji30)).toNat * 2)) = some (.int .i64 ((rd_T105 x9_2 (ji30)).f0)) ∧ w'.cell? ⟨(ad174.add (((ji30)).toNat * 2)).block, (ad174.add (((ji30)).toNat * 2)).off + 1, none⟩ = some (.int .i64 ((rd_T105 x9_2 (ji30)).f1))) (ds := []) spec_l19Turned.d20 (by kernel_rfl) rfl rfl ⟨(blk_cell BK173.out 0).trans rfl, (blk_cell BK173.out 1).trans rfl, hx174_0, hx174_1⟩ (fun hHeld => ?_); refine with_tabW spec_l19Turned.tab13 spec_l19Turned.bits13 (fun HT_ HW_ => ?_)
           generalize wr.drew = w35 at HO_5 HO_9 BK166 BK167 BK173 HB hx174_0 hx174_1 hHeld ⊢
           refine p1_ HT_.out 0 67 spec_l19Turned.d21 ?_
           refine p1_ HT_.out 1 68 spec_l19Turned.d22 ?_
           refine p1_ HT_.out 2 69 spec_l19Turned.d23 ?_
           refine p1_ HT_.out 4 71 spec_l19Turned.d24 ?_
           refine p1_ HT_.out 5 72 spec_l19Turned.d25 ?_
           refine p1_ HT_.out 6 73 spec_l19Turned.d26 ?_
           refine p1_ HT_.out 7 74 spec_l19Turned.d27 ?_
           refine take_ (i := 3) (N := some 70) (v := ?_) (a' := ?_) spec_l19Turned.d28 rfl rfl (take_ofW HT_.out HW_.out (by kernel_rfl)) (fun _ _ _ h => h) (Or.inl ⟨by rfl, ?_⟩) hHeld ?_ ?_
           rotate_left
           · rintro w' ⟨s0, s1, s2, s3⟩
             go_simp
             with_reducible rfl
           rotate_left
           · simp only [Act.put, sA, sB, sC, i64_w, i32_w]
             rfl
           refine take_ (i := 8) (N := some 75) (v := ?_) (a' := ?_) spec_l19Turned.d29 rfl rfl (take_ofW HT_.out HW_.out (by kernel_rfl)) (fun _ _ _ h => h) (Or.inl ⟨by rfl, ?_⟩) hHeld ?_ ?_
           rotate_left
           · rintro w' ⟨s0, s1, s2, s3⟩
             go_simp
             with_reducible rfl
           rotate_left
           · simp only [Act.put, sA, sB, sC, i64_w, i32_w]
             rfl
           refine one_ (i := 9) (N := some 76) spec_l19Turned.d30 rfl rfl (one_of HT_.out (by kernel_rfl)) (by decide) (fun K hK => ?_)
           refine goes_ Try.func92 (by kernel_rfl) rfl #[.agg #[.int .i64 (wrap64 (((rd_T105 x5_1 x10_2).f0) - t162)), .int .i64 (wrap64 (((rd_T105 x5_1 x10_2).f1) - t163))], .agg #[.int .i64 ((rd_T105 x9_2 (ji30)).f0), .int .i64 ((rd_T105 x9_2 (ji30)).f1)]] (by rfl) rfl rfl (by (try simp only [List.map_toArray, List.map_cons, List.map_nil]); first | done | (simp only [hji30]; rfl) | rfl | (simp only [List.length_drop, List.length_take]; rfl)) ?_
           with_reducible refine (spec_l19Before.calls (wrap64 (((rd_T105 x5_1 x10_2).f0) - t162)) (wrap64 (((rd_T105 x5_1 x10_2).f1) - t163)) ((rd_T105 x9_2 (ji30)).f0) ((rd_T105 x9_2 (ji30)).f1) true _ A33.out).mono ?_
           rintro e w36 ⟨rfl, hb⟩
           have HS2_ := (hb.cell (World.block_lt_of_cell? _ _ (hHeld.2.2.1))).trans (hHeld.2.2.1)
           have HS3_ := (hb.cell (World.block_lt_of_cell? _ _ (hHeld.2.2.2))).trans (hHeld.2.2.2)
           refine ⟨_, rfl, ?_⟩
           have n0_ := mkA (Kd.R_below (by (with_reducible repeat (first | apply Kd.R_alloc | apply Kd.R_drewN | apply Kd.R_drew)); exact HO_5.out) hb)
           have n1_ := mkA (Kd.R_below (by (with_reducible repeat (first | apply Kd.R_alloc | apply Kd.R_drewN | apply Kd.R_drew)); exact HO_9.out) hb)
           have n2_ := mkA (blk_below (g := gb166) (o := .cells #[.int .i64 t162, .int .i64 t163] 105 (0, 0)) (bl_ BK166.out) hb)
           have n3_ := mkA (blk_below (g := gb167) (o := .cells #[.int .i64 t164, .int .i64 t165] 105 (0, 0)) (bl_ BK167.out) hb)
           have n4_ := mkA (blk_below (g := gb173) (o := .cells #[.int .i64 (wrap64 (((rd_T105 x5_1 x10_2).f0) - t162)), .int .i64 (wrap64 (((rd_T105 x5_1 x10_2).f1) - t163))] 105 (0, 0)) (bl_ BK173.out) hb)
           have n5_ := mkA (below_step (bs3_ HB.out GE166.out GE167.out GE173.out) hb)
           clear HO_5
           clear HO_9
           clear BK166
           clear BK167
           clear BK173
           clear HB
           have HO_5 := n0_
           have HO_9 := n1_
           have BK166 := n2_
           have BK167 := n3_
           have BK173 := n4_
           have HB := n5_
           clear n0_ n1_ n2_ n3_ n4_ n5_
           (try clear hb)
           (try clear hb2)
           (try clear hk)
           (try clear hi)
           refine hK.out _ _ ⟨(blk_cell BK173.out 0).trans rfl, (blk_cell BK173.out 1).trans rfl, HS2_, HS3_⟩ (fun hHeld => ?_)
           clear hK K
           refine norm_ (a' := ?_) ?_ ?_
           rotate_left
           · show Act.put _ (some 76) _ = _
             simp only [Act.put, sA, sB, sC, i64_w, i32_w]
             rfl
           refine p1_ HT_.out 10 77 spec_l19Turned.d31 ?_
           refine done_ (done_of HT_.out (by kernel_rfl)) ?_
           try go_wp2
           go_roundg k3
           case measure => have := HK1.out; have := HK2.out; have := HK3.out; omega
           case rel => exact ⟨(ji30), (by first | rfl | (simp; done) | (simp only [← hji30] <;> (first | rfl | simp)) | (simp [*]; done)), H', ⟨by have := HK1.out; have := HK2.out; have := HK3.out; omega⟩, ⟨by (with_reducible repeat (first | apply Kd.R_alloc | apply Kd.R_drewN | apply Kd.R_drew)); exact HO_5.out⟩, ⟨by (with_reducible repeat (first | apply Kd.R_alloc | apply Kd.R_drewN | apply Kd.R_drew)); exact HO_9.out⟩, ⟨by (with_reducible repeat (first | refine blk_drewN ?_ _ | refine blk_drew ?_ | refine blk_alloc ?_ _)); exact BK166.out⟩, ⟨by (with_reducible repeat (first | refine blk_drewN ?_ _ | refine blk_drew ?_ | refine blk_alloc ?_ _)); exact BK167.out⟩, ⟨by (with_reducible repeat (first | refine blk_drewN ?_ _ | refine blk_drew ?_ | refine blk_alloc ?_ _)); exact BK173.out⟩, ⟨by repeat (first | (with_reducible first | exact HB.out | apply below_alloc | apply pw_below_drewN | apply below_drew1 | refine below_set ?_ GE166.out | refine below_set ?_ GE167.out | refine below_set ?_ GE173.out) | exact HB.out)⟩⟩
         · replace c34 := Bool.eq_false_iff.mpr c34
           subst c34
           have H1 : ((some (([] : List (S105)) : List (S105))).bind fun y176 => (if 0 ≤ x12_3 then (if x12_3 ≤ (x9_2.length : Int) then ((some (x9_2.take (x12_3 : Int).toNat : List (S105))).bind fun y179 => (if y176.length + y179.length < 8796093022208 then ((some (y176 ++ y179 : List (S105))).bind fun y183 => (if y183.length < 8796093022208 then ((some (y183 ++ [(⟨(wrap64 (((rd_T105 x5_1 x10_2).f0) - t162)), (wrap64 (((rd_T105 x5_1 x10_2).f1) - t163))⟩ : S105)] : List (S105))).bind fun y186 => ((some (x9_2.drop (x12_3 : Int).toNat : List (S105))).bind fun y189 => (if y186.length + y189.length < 8796093022208 then (spec_l19Turned.l1 k3 x5_1 (y186 ++ y189) (wrap64 (x10_2 + 1)) t162 t163) else (none)))) else (none))) else (none))) else (none)) else (none))) = some r := by rw [if_neg (show ¬ (false = true) by decide)] at H; exact H
           clear H
           have H := H1
           clear H1
           obtain ⟨y176, hy176⟩ : ∃ y_ : List (S105), y_ = (([] : List (S105))) := ⟨_, rfl⟩
           replace H : (if 0 ≤ x12_3 then (if x12_3 ≤ (x9_2.length : Int) then ((some (x9_2.take (x12_3 : Int).toNat : List (S105))).bind fun y179 => (if y176.length + y179.length < 8796093022208 then ((some (y176 ++ y179 : List (S105))).bind fun y183 => (if y183.length < 8796093022208 then ((some (y183 ++ [(⟨(wrap64 (((rd_T105 x5_1 x10_2).f0) - t162)), (wrap64 (((rd_T105 x5_1 x10_2).f1) - t163))⟩ : S105)] : List (S105))).bind fun y186 => ((some (x9_2.drop (x12_3 : Int).toNat : List (S105))).bind fun y189 => (if y186.length + y189.length < 8796093022208 then (spec_l19Turned.l1 k3 x5_1 (y186 ++ y189) (wrap64 (x10_2 + 1)) t162 t163) else (none)))) else (none))) else (none))) else (none)) else (none)) = some r := by first | (rw [hy176]; with_reducible exact H) | (have H2_ := (Option.bind_some _ _).symm.trans H; rw [hy176]; with_reducible exact H2_) | (have H2_ := (Option.bind_some _ _).symm.trans H; with_reducible exact H2_) | with_reducible exact H | (rw [hy176]; exact H) | exact H
           have Ny176 := mkA hy176
           clear hy176
           by_cases c37 : 0 ≤ x12_3
           rotate_left
           · rw [if_neg c37] at H
             exact absurd H (by simp)
           rw [if_pos c37] at H
           have c37b0 := eq_true c37
           have c37b1 : decide (0 ≤ x12_3) = true := decide_eq_true c37
           clear c37
           by_cases c38 : x12_3 ≤ (x9_2.length : Int)
           rotate_left
           · rw [if_neg c38] at H
             exact absurd H (by simp)
           rw [if_pos c38] at H
           have c38b0 := eq_true c38
           have c38b1 : decide (x12_3 ≤ (x9_2.length : Int)) = true := decide_eq_true c38
           clear c38
           obtain ⟨y179, hy179⟩ : ∃ y_ : List (S105), y_ = (x9_2.take (x12_3 : Int).toNat) := ⟨_, rfl⟩
           replace H : (if y176.length + y179.length < 8796093022208 then ((some (y176 ++ y179 : List (S105))).bind fun y183 => (if y183.length < 8796093022208 then ((some (y183 ++ [(⟨(wrap64 (((rd_T105 x5_1 x10_2).f0) - t162)), (wrap64 (((rd_T105 x5_1 x10_2).f1) - t163))⟩ : S105)] : List (S105))).bind fun y186 => ((some (x9_2.drop (x12_3 : Int).toNat : List (S105))).bind fun y189 => (if y186.length + y189.length < 8796093022208 then (spec_l19Turned.l1 k3 x5_1 (y186 ++ y189) (wrap64 (x10_2 + 1)) t162 t163) else (none)))) else (none))) else (none)) = some r := by first | (rw [hy179]; with_reducible exact H) | (have H2_ := (Option.bind_some _ _).symm.trans H; rw [hy179]; with_reducible exact H2_) | (have H2_ := (Option.bind_some _ _).symm.trans H; with_reducible exact H2_) | with_reducible exact H | (rw [hy179]; exact H) | exact H
           have Ny179 := mkA hy179
           clear hy179
           by_cases c39 : y176.length + y179.length < 8796093022208
           rotate_left
           · rw [if_neg c39] at H
             exact absurd H (by simp)
           rw [if_pos c39] at H
           have LMc39 := mkA c39
           clear c39
           obtain ⟨y183, hy183⟩ : ∃ y_ : List (S105), y_ = (y176 ++ y179) := ⟨_, rfl⟩
           replace H : (if y183.length < 8796093022208 then ((some (y183 ++ [(⟨(wrap64 (((rd_T105 x5_1 x10_2).f0) - t162)), (wrap64 (((rd_T105 x5_1 x10_2).f1) - t163))⟩ : S105)] : List (S105))).bind fun y186 => ((some (x9_2.drop (x12_3 : Int).toNat : List (S105))).bind fun y189 => (if y186.length + y189.length < 8796093022208 then (spec_l19Turned.l1 k3 x5_1 (y186 ++ y189) (wrap64 (x10_2 + 1)) t162 t163) else (none)))) else (none)) = some r := by first | (rw [hy183]; with_reducible exact H) | (have H2_ := (Option.bind_some _ _).symm.trans H; rw [hy183]; with_reducible exact H2_) | (have H2_ := (Option.bind_some _ _).symm.trans H; with_reducible exact H2_) | with_reducible exact H | (rw [hy183]; exact H) | exact H
           have Ny183 := mkA hy183
           clear hy183
           by_cases c40 : y183.length < 8796093022208
           rotate_left
           · rw [if_neg c40] at H
             exact absurd H (by simp)
           rw [if_pos c40] at H
           have LMc40 := mkA c40
           clear c40
           obtain ⟨y186, hy186⟩ : ∃ y_ : List (S105), y_ = (y183 ++ [(⟨(wrap64 (((rd_T105 x5_1 x10_2).f0) - t162)), (wrap64 (((rd_T105 x5_1 x10_2).f1) - t163))⟩ : S105)]) := ⟨_, rfl⟩
           replace H : ((some (x9_2.drop (x12_3 : Int).toNat : List (S105))).bind fun y189 => (if y186.length + y189.length < 8796093022208 then (spec_l19Turned.l1 k3 x5_1 (y186 ++ y189) (wrap64 (x10_2 + 1)) t162 t163) else (none))) = some r := by first | (rw [hy186]; with_reducible exact H) | (have H2_ := (Option.bind_some _ _).symm.trans H; rw [hy186]; with_reducible exact H2_) | (have H2_ := (Option.bind_some _ _).symm.trans H; with_reducible exact H2_) | with_reducible exact H | (rw [hy186]; exact H) | exact H
           have Ny186 := mkA hy186
           clear hy186
           have c41b0 := eq_true (dt_ : 0 ≤ x12_3)
           have c42b0 := eq_true (dt_ : x12_3 ≤ (x9_2.length : Int))
           obtain ⟨y189, hy189⟩ : ∃ y_ : List (S105), y_ = (x9_2.drop (x12_3 : Int).toNat) := ⟨_, rfl⟩
           replace H : (if y186.length + y189.length < 8796093022208 then (spec_l19Turned.l1 k3 x5_1 (y186 ++ y189) (wrap64 (x10_2 + 1)) t162 t163) else (none)) = some r := by first | (rw [hy189]; with_reducible exact H) | (have H2_ := (Option.bind_some _ _).symm.trans H; rw [hy189]; with_reducible exact H2_) | (have H2_ := (Option.bind_some _ _).symm.trans H; with_reducible exact H2_) | with_reducible exact H | (rw [hy189]; exact H) | exact H
           have Ny189 := mkA hy189
           clear hy189
           by_cases c43 : y186.length + y189.length < 8796093022208
           rotate_left
           · rw [if_neg c43] at H
             exact absurd H (by simp)
           rw [if_pos c43] at H
           have LMc43 := mkA c43
           clear c43
           obtain ⟨y193, hy193⟩ : ∃ y_ : List (S105), y_ = (y186 ++ y189) := ⟨_, rfl⟩
           replace H : (spec_l19Turned.l1 k3 x5_1 y193 (wrap64 (x10_2 + 1)) t162 t163) = some r := by first | (rw [hy193]; with_reducible exact H) | (have H2_ := (Option.bind_some _ _).symm.trans H; rw [hy193]; with_reducible exact H2_) | (have H2_ := (Option.bind_some _ _).symm.trans H; with_reducible exact H2_) | with_reducible exact H | (rw [hy193]; exact H) | exact H
           have Ny193 := mkA hy193
           clear hy193
           have H' := mkA H
           clear H
           try go_wp2
           have n0_ := mkA (Kd.R_drew HO_5.out)
           have n1_ := mkA (Kd.R_drew HO_9.out)
           have n2_ := mkA (blk_drew BK166.out)
           have n3_ := mkA (blk_drew BK167.out)
           have n4_ := mkA (blk_drew BK173.out)
           have n5_ := mkA (below_drew1 HB.out)
           clear HO_5
           clear HO_9
           clear BK166
           clear BK167
           clear BK173
           clear HB
           have HO_5 := n0_
           have HO_9 := n1_
           have BK166 := n2_
           have BK167 := n3_
           have BK173 := n4_
           have HB := n5_
           clear n0_ n1_ n2_ n3_ n4_ n5_
           have p174 : 0 ≤ ((ji30) : Int) := dt_
           have q174 : (ji30) < (x9_2.length : Int) := dt_
           obtain ⟨ad174, e174, hx174_0, hx174_1⟩ := at_T105 (Kd.R_reads' HO_9.out).2.2 (ji30) p174 q174
           cases e174
           replace p174 := eq_true p174
           replace q174 := eq_true q174
           refine start_ (n := 11) (S := fun w' => w'.cell? ⟨gb173, 0, none⟩ = some (.int .i64 (wrap64 (((rd_T105 x5_1 x10_2).f0) - t162))) ∧ w'.cell? ⟨gb173, 1, none⟩ = some (.int .i64 (wrap64 (((rd_T105 x5_1 x10_2).f1) - t163))) ∧ w'.cell? (ad174.add (((ji30)).toNat * 2)) = some (.int .i64 ((rd_T105 x9_2 (ji30)).f0)) ∧ w'.cell? ⟨(ad174.add (((ji30)).toNat * 2)).block, (ad174.add (((ji30)).toNat * 2)).off + 1, none⟩ = some (.int .i64 ((rd_T105 x9_2 (ji30)).f1))) (ds := []) spec_l19Turned.d20 (by kernel_rfl) rfl rfl ⟨(blk_cell BK173.out 0).trans rfl, (blk_cell BK173.out 1).trans rfl, hx174_0, hx174_1⟩ (fun hHeld => ?_); refine with_tabW spec_l19Turned.tab13 spec_l19Turned.bits13 (fun HT_ HW_ => ?_)
           generalize wr.drew = w44 at HO_5 HO_9 BK166 BK167 BK173 HB hx174_0 hx174_1 hHeld ⊢
           refine p1_ HT_.out 0 67 spec_l19Turned.d21 ?_
           refine p1_ HT_.out 1 68 spec_l19Turned.d22 ?_
           refine p1_ HT_.out 2 69 spec_l19Turned.d23 ?_
           refine p1_ HT_.out 4 71 spec_l19Turned.d24 ?_
           refine p1_ HT_.out 5 72 spec_l19Turned.d25 ?_
           refine p1_ HT_.out 6 73 spec_l19Turned.d26 ?_
           refine p1_ HT_.out 7 74 spec_l19Turned.d27 ?_
           refine take_ (i := 3) (N := some 70) (v := ?_) (a' := ?_) spec_l19Turned.d28 rfl rfl (take_ofW HT_.out HW_.out (by kernel_rfl)) (fun _ _ _ h => h) (Or.inl ⟨by rfl, ?_⟩) hHeld ?_ ?_
           rotate_left
           · rintro w' ⟨s0, s1, s2, s3⟩
             go_simp
             with_reducible rfl
           rotate_left
           · simp only [Act.put, sA, sB, sC, i64_w, i32_w]
             rfl
           refine take_ (i := 8) (N := some 75) (v := ?_) (a' := ?_) spec_l19Turned.d29 rfl rfl (take_ofW HT_.out HW_.out (by kernel_rfl)) (fun _ _ _ h => h) (Or.inl ⟨by rfl, ?_⟩) hHeld ?_ ?_
           rotate_left
           · rintro w' ⟨s0, s1, s2, s3⟩
             go_simp
             with_reducible rfl
           rotate_left
           · simp only [Act.put, sA, sB, sC, i64_w, i32_w]
             rfl
           refine one_ (i := 9) (N := some 76) spec_l19Turned.d30 rfl rfl (one_of HT_.out (by kernel_rfl)) (by decide) (fun K hK => ?_)
           refine goes_ Try.func92 (by kernel_rfl) rfl #[.agg #[.int .i64 (wrap64 (((rd_T105 x5_1 x10_2).f0) - t162)), .int .i64 (wrap64 (((rd_T105 x5_1 x10_2).f1) - t163))], .agg #[.int .i64 ((rd_T105 x9_2 (ji30)).f0), .int .i64 ((rd_T105 x9_2 (ji30)).f1)]] (by rfl) rfl rfl (by (try simp only [List.map_toArray, List.map_cons, List.map_nil]); first | done | (simp only [hji30]; rfl) | rfl | (simp only [List.length_drop, List.length_take]; rfl)) ?_
           with_reducible refine (spec_l19Before.calls (wrap64 (((rd_T105 x5_1 x10_2).f0) - t162)) (wrap64 (((rd_T105 x5_1 x10_2).f1) - t163)) ((rd_T105 x9_2 (ji30)).f0) ((rd_T105 x9_2 (ji30)).f1) false _ A33.out).mono ?_
           rintro e w45 ⟨rfl, hb⟩
           have HS2_ := (hb.cell (World.block_lt_of_cell? _ _ (hHeld.2.2.1))).trans (hHeld.2.2.1)
           have HS3_ := (hb.cell (World.block_lt_of_cell? _ _ (hHeld.2.2.2))).trans (hHeld.2.2.2)
           refine ⟨_, rfl, ?_⟩
           have n0_ := mkA (Kd.R_below (by (with_reducible repeat (first | apply Kd.R_alloc | apply Kd.R_drewN | apply Kd.R_drew)); exact HO_5.out) hb)
           have n1_ := mkA (Kd.R_below (by (with_reducible repeat (first | apply Kd.R_alloc | apply Kd.R_drewN | apply Kd.R_drew)); exact HO_9.out) hb)
           have n2_ := mkA (blk_below (g := gb166) (o := .cells #[.int .i64 t162, .int .i64 t163] 105 (0, 0)) (bl_ BK166.out) hb)
           have n3_ := mkA (blk_below (g := gb167) (o := .cells #[.int .i64 t164, .int .i64 t165] 105 (0, 0)) (bl_ BK167.out) hb)
           have n4_ := mkA (blk_below (g := gb173) (o := .cells #[.int .i64 (wrap64 (((rd_T105 x5_1 x10_2).f0) - t162)), .int .i64 (wrap64 (((rd_T105 x5_1 x10_2).f1) - t163))] 105 (0, 0)) (bl_ BK173.out) hb)
           have n5_ := mkA (below_step (bs3_ HB.out GE166.out GE167.out GE173.out) hb)
           clear HO_5
           clear HO_9
           clear BK166
           clear BK167
           clear BK173
           clear HB
           have HO_5 := n0_
           have HO_9 := n1_
           have BK166 := n2_
           have BK167 := n3_
           have BK173 := n4_
           have HB := n5_
           clear n0_ n1_ n2_ n3_ n4_ n5_
           (try clear hb)
           (try clear hb2)
           (try clear hk)
           (try clear hi)
           refine hK.out _ _ ⟨(blk_cell BK173.out 0).trans rfl, (blk_cell BK173.out 1).trans rfl, HS2_, HS3_⟩ (fun hHeld => ?_)
           clear hK K
           refine norm_ (a' := ?_) ?_ ?_
           rotate_left
           · show Act.put _ (some 76) _ = _
             simp only [Act.put, sA, sB, sC, i64_w, i32_w]
             rfl
           refine p1_ HT_.out 10 77 spec_l19Turned.d31 ?_
           refine done_ (done_of HT_.out (by kernel_rfl)) ?_
           try go_wp2_with (first | ((with_reducible refine gate_dst (N := 80) rfl ?_); refine Kd.R_lit k105 _ 105 ?hg (N := 80) ?hd (xs := ([] : List (S105))) (inner := []) (ok := fun _ => True) (okp := fun _ => True) ?hr ?hp (fun _ hk => hk) trivial (Below.refl _ _) (Nat.le_refl _) (by simp) ?_; (case hd => rfl); (case hg => rfl); (case hr => first | (go_simp; done) | (go_simp; rfl)); (case hp => exact (Reps.none _ _)); intro v177 w46 ho47 hb hg_ hnew_; clear hg_ hnew_; (first | rw [← Ny176.out] at ho47 | (simp only [Int.reduceToNat] at ho47; rw [← Ny176.out] at ho47)); have n0_ := mkA (Kd.R_elder' (by (with_reducible repeat (first | apply Kd.R_alloc | apply Kd.R_drewN | apply Kd.R_drew)); exact HO_5.out) (Kd.R_base ho47) hb); have n1_ := mkA (Kd.R_elder' (by (with_reducible repeat (first | apply Kd.R_alloc | apply Kd.R_drewN | apply Kd.R_drew)); exact HO_9.out) (Kd.R_base ho47) hb); have n2_ := mkA (Kd.R_lower (Kd.R_newB (Kd.R_newB (Kd.R_newB (Kd.R_new' (Kd.R_new' ho47 (Kd.R_lt (by (with_reducible repeat (first | apply Kd.R_alloc | apply Kd.R_drewN | apply Kd.R_drew)); exact HO_5.out))) (Kd.R_lt (by (with_reducible repeat (first | apply Kd.R_alloc | apply Kd.R_drewN | apply Kd.R_drew)); exact HO_9.out))) (g := gb166) (o := .cells #[.int .i64 t162, .int .i64 t163] 105 (0, 0)) (bl_ BK166.out)) (g := gb167) (o := .cells #[.int .i64 t164, .int .i64 t165] 105 (0, 0)) (bl_ BK167.out)) (g := gb173) (o := .cells #[.int .i64 (wrap64 (((rd_T105 x5_1 x10_2).f0) - t162)), .int .i64 (wrap64 (((rd_T105 x5_1 x10_2).f1) - t163))] 105 (0, 0)) (bl_ BK173.out)) (below_size (bs3_ HB.out GE166.out GE167.out GE173.out))); have n3_ := mkA (blk_below (g := gb166) (o := .cells #[.int .i64 t162, .int .i64 t163] 105 (0, 0)) (bl_ BK166.out) hb); have n4_ := mkA (blk_below (g := gb167) (o := .cells #[.int .i64 t164, .int .i64 t165] 105 (0, 0)) (bl_ BK167.out) hb); have n5_ := mkA (blk_below (g := gb173) (o := .cells #[.int .i64 (wrap64 (((rd_T105 x5_1 x10_2).f0) - t162)), .int .i64 (wrap64 (((rd_T105 x5_1 x10_2).f1) - t163))] 105 (0, 0)) (bl_ BK173.out) hb); have n6_ := mkA (below_step (bs3_ HB.out GE166.out GE167.out GE173.out) hb); clear HO_5; clear HO_9; clear BK166; clear BK167; clear BK173; clear HB; have HO_5 := n0_; have HO_9 := n1_; have HO178 := n2_; have BK166 := n3_; have BK167 := n4_; have BK173 := n5_; have HB := n6_; clear n0_ n1_ n2_ n3_ n4_ n5_ n6_; clear hb ho47; have q48 : (x12_3 : Int) ≤ ((x9_2.length : Int) : Int) := dt_; obtain ⟨i048, hi048, _, hsz48, _⟩ := info_parts info105; have hroom48 : x9_2.length ≤ co28 := (Kd.R_reads' HO_9.out).2.1; have hC48 : Kd.C k105 _ (some ad174) x9_2.length x9_2 := (Kd.R_reads' HO_9.out).2.2; have hcut48 := cut_to (P := Try.prog) 51 105 .i64 Try.underlying51 hi048 (some ad174) x9_2.length co28 x12_3 (dt_) q48 hroom48; have hr48 := Kd.C_take (m := (x12_3 : Int).toNat) hC48 (by omega); have hy48 : y179.length = (x12_3 : Int).toNat := (by rw [Ny179.out, List.length_take]; omega); rw [← Ny179.out] at hr48; rw [← hy48] at hcut48; have HR182 := mkA hr48; have HC182 := mkA (show y179.length ≤ co28 from by omega); clear hr48 hC48 hroom48 hi048 hsz48; have KY48 := mkA hy48; clear hy48; have KL48 := mkA (show (x12_3 : Int).toNat ≤ x9_2.length from by omega); replace q48 := eq_true q48) | ((with_reducible refine gate_builtin (b := .append) (xs := #[.tmp 80, .tmp 83]) rfl ?_); at_builtin; refine Kd.R_append_rows k105 (w0 := w) w.heap.size rfl (.tmp 80) (.tmp 83) 51 105 (.agg #[(.int .i64 0), (.int .i64 0)]) 16 rfl Try.underlying51 info105 rfl (by decide) (by omega) v177 y176 y179 _ _ _ (fun k_ => some k_ ≠ (.slice (some ad171) x5_1.length co13 : Value).ownBlock ∧ some k_ ≠ (.slice (some ad174) x9_2.length co28 : Value).ownBlock ∧ k_ ≠ gb166 ∧ k_ ≠ gb167 ∧ k_ ≠ gb173) (fun _ => False) rfl rfl ?aO ?aR (fun _ _ h => h) (fun _ h => h.elim) ?aF ?aB ?aS ?aL ?_; (case aR => repeat (first | exact (by repeat (first | (with_reducible exact HR182.out) | (with_reducible refine Kd.C_alloc ?_ _) | (with_reducible refine Kd.C_drewN ?_ _) | (with_reducible refine Kd.C_drew ?_) | exact HR182.out)) | (with_reducible refine Kd.C_alloc ?_ _) | (with_reducible refine Kd.C_drewN ?_ _) | (with_reducible refine Kd.C_drew ?_))); (case aB => exact (bs3_ HB.out GE166.out GE167.out GE173.out)); (case aF => exact (fun k_ hk => ⟨Kd.fresh' (Kd.R_lt (by (with_reducible repeat (first | apply Kd.R_alloc | apply Kd.R_drewN | apply Kd.R_drew)); exact HO_5.out)) k_ hk, Kd.fresh' (Kd.R_lt (by (with_reducible repeat (first | apply Kd.R_alloc | apply Kd.R_drewN | apply Kd.R_drew)); exact HO_9.out)) k_ hk, Kd.freshB (g := gb166) (o := .cells #[.int .i64 t162, .int .i64 t163] 105 (0, 0)) (bl_ BK166.out) k_ hk, Kd.freshB (g := gb167) (o := .cells #[.int .i64 t164, .int .i64 t165] 105 (0, 0)) (bl_ BK167.out) k_ hk, Kd.freshB (g := gb173) (o := .cells #[.int .i64 (wrap64 (((rd_T105 x5_1 x10_2).f0) - t162)), .int .i64 (wrap64 (((rd_T105 x5_1 x10_2).f1) - t163))] 105 (0, 0)) (bl_ BK173.out) k_ hk⟩)); (case aO => exact (by (with_reducible repeat (first | apply Kd.R_alloc | apply Kd.R_drewN | apply Kd.R_drew)); exact Kd.R_mono HO178.out (fun _ hk => ⟨hk.1.1.1.1.2, ⟨hk.1.1.1.2, ⟨hk.1.1.2, ⟨hk.1.2, hk.2⟩⟩⟩⟩))); (case aS => exact (below_size (bs3_ HB.out GE166.out GE167.out GE173.out))); (case aL => have := LMc39.out; omega); intro v184 w49 ho hb hg hat; rw [← Ny183.out] at ho; have n0_ := mkA (Kd.R_after (ok := (fun k_ => some k_ ≠ (.slice (some ad174) x9_2.length co28 : Value).ownBlock ∧ k_ ≠ gb166 ∧ k_ ≠ gb167 ∧ k_ ≠ gb173)) (by (with_reducible repeat (first | apply Kd.R_alloc | apply Kd.R_drewN | apply Kd.R_drew)); exact HO_5.out) hg hat); have n1_ := mkA (Kd.R_after (ok := (fun k_ => some k_ ≠ (.slice (some ad171) x5_1.length co13 : Value).ownBlock ∧ k_ ≠ gb166 ∧ k_ ≠ gb167 ∧ k_ ≠ gb173)) (by (with_reducible repeat (first | apply Kd.R_alloc | apply Kd.R_drewN | apply Kd.R_drew)); exact HO_9.out) hg hat); have n2_ := mkA (blk_grown (g := gb166) (o := .cells #[.int .i64 t162, .int .i64 t163] 105 (0, 0)) (bl_ BK166.out) hg (Kd.R_away HO178.out (fun _ hk => hk.1.1.2))); have n3_ := mkA (blk_grown (g := gb167) (o := .cells #[.int .i64 t164, .int .i64 t165] 105 (0, 0)) (bl_ BK167.out) hg (Kd.R_away HO178.out (fun _ hk => hk.1.2))); have n4_ := mkA (blk_grown (g := gb173) (o := .cells #[.int .i64 (wrap64 (((rd_T105 x5_1 x10_2).f0) - t162)), .int .i64 (wrap64 (((rd_T105 x5_1 x10_2).f1) - t163))] 105 (0, 0)) (bl_ BK173.out) hg (Kd.R_away HO178.out (fun _ hk => hk.2))); have n5_ := mkA (hb); have n6_ := mkA ((show Kd.C k105 w49 (some ad174) y179.length y179 from by rw [Ny179.out]; exact Kd.C_take (m := (x12_3 : Int).toNat) ((Kd.R_reads' (Kd.R_after (ok := (fun k_ => some k_ ≠ (.slice (some ad171) x5_1.length co13 : Value).ownBlock ∧ k_ ≠ gb166 ∧ k_ ≠ gb167 ∧ k_ ≠ gb173)) (by (with_reducible repeat (first | apply Kd.R_alloc | apply Kd.R_drewN | apply Kd.R_drew)); exact HO_9.out) hg hat)).2.2) KL48.out)); have n7_ := mkA (ho); clear HO_5; clear HO_9; clear BK166; clear BK167; clear BK173; clear HB; clear HR182; clear HO178; have HO_5 := n0_; have HO_9 := n1_; have BK166 := n2_; have BK167 := n3_; have BK173 := n4_; have HB := n5_; have HR182 := n6_; have HO185 := n7_; clear n0_ n1_ n2_ n3_ n4_ n5_ n6_ n7_; clear ho hb hg hat; have hnb50 := NB173_166.out; have hnc50 := NB166_173.out; have hnb51 := NB173_167.out; have hnc51 := NB167_173.out; have hcz52_0 : w49.cell? ⟨gb173, 0, none⟩ = some (.int .i64 (wrap64 (((rd_T105 x5_1 x10_2).f0) - t162))) := (blk_cell BK173.out 0).trans rfl; have hcz52_1 : w49.cell? ⟨gb173, 1, none⟩ = some (.int .i64 (wrap64 (((rd_T105 x5_1 x10_2).f1) - t163))) := (blk_cell BK173.out 1).trans rfl; have hfz52_0 := blk_frozen BK173.out 0; have hfz52_1 := blk_frozen BK173.out 1) | ((with_reducible refine gate_builtin (b := .append) (xs := #[.tmp 85, .tmp 87]) rfl ?_); at_builtin; refine Kd.R_append k105 (w0 := w) w.heap.size rfl (.tmp 85) (.tmp 87) 51 105 (.agg #[(.int .i64 0), (.int .i64 0)]) 16 rfl Try.underlying51 info105 rfl (by decide) (by omega) v184 y183 (⟨(wrap64 (((rd_T105 x5_1 x10_2).f0) - t162)), (wrap64 (((rd_T105 x5_1 x10_2).f1) - t163))⟩ : S105) [.int .i64 (wrap64 (((rd_T105 x5_1 x10_2).f0) - t162)), .int .i64 (wrap64 (((rd_T105 x5_1 x10_2).f1) - t163))] (fun k_ => some k_ ≠ (.slice (some ad171) x5_1.length co13 : Value).ownBlock ∧ some k_ ≠ (.slice (some ad174) x9_2.length co28 : Value).ownBlock ∧ k_ ≠ gb166 ∧ k_ ≠ gb167 ∧ k_ ≠ gb173) (fun _ => False) rfl rfl ?aP (fun _ hk => hk.elim) ?aF ?aO ?aB ?aS ?aL ?_; (case aP => exact k105_mkM _ _ _ (⟨(wrap64 (((rd_T105 x5_1 x10_2).f0) - t162)), (wrap64 (((rd_T105 x5_1 x10_2).f1) - t163))⟩ : S105)); (case aB => exact (bs3_ HB.out GE166.out GE167.out GE173.out)); (case aF => exact (fun k_ hk => ⟨Kd.fresh' (Kd.R_lt (by (with_reducible repeat (first | apply Kd.R_alloc | apply Kd.R_drewN | apply Kd.R_drew)); exact HO_5.out)) k_ hk, Kd.fresh' (Kd.R_lt (by (with_reducible repeat (first | apply Kd.R_alloc | apply Kd.R_drewN | apply Kd.R_drew)); exact HO_9.out)) k_ hk, Kd.freshB (g := gb166) (o := .cells #[.int .i64 t162, .int .i64 t163] 105 (0, 0)) (bl_ BK166.out) k_ hk, Kd.freshB (g := gb167) (o := .cells #[.int .i64 t164, .int .i64 t165] 105 (0, 0)) (bl_ BK167.out) k_ hk, Kd.freshB (g := gb173) (o := .cells #[.int .i64 (wrap64 (((rd_T105 x5_1 x10_2).f0) - t162)), .int .i64 (wrap64 (((rd_T105 x5_1 x10_2).f1) - t163))] 105 (0, 0)) (bl_ BK173.out) k_ hk⟩)); (case aO => exact (by (with_reducible repeat (first | apply Kd.R_alloc | apply Kd.R_drewN | apply Kd.R_drew)); exact HO185.out)); (case aS => exact (below_size (bs3_ HB.out GE166.out GE167.out GE173.out))); (case aL => have := LMc40.out; omega); intro v187 w53 ho hb hg hat; rw [← Ny186.out] at ho; have n0_ := mkA (Kd.R_after (ok := (fun k_ => some k_ ≠ (.slice (some ad174) x9_2.length co28 : Value).ownBlock ∧ k_ ≠ gb166 ∧ k_ ≠ gb167 ∧ k_ ≠ gb173)) (by (with_reducible repeat (first | apply Kd.R_alloc | apply Kd.R_drewN | apply Kd.R_drew)); exact HO_5.out) hg hat); have n1_ := mkA (Kd.R_after (ok := (fun k_ => some k_ ≠ (.slice (some ad171) x5_1.length co13 : Value).ownBlock ∧ k_ ≠ gb166 ∧ k_ ≠ gb167 ∧ k_ ≠ gb173)) (by (with_reducible repeat (first | apply Kd.R_alloc | apply Kd.R_drewN | apply Kd.R_drew)); exact HO_9.out) hg hat); have n2_ := mkA (blk_grown (g := gb166) (o := .cells #[.int .i64 t162, .int .i64 t163] 105 (0, 0)) (bl_ BK166.out) hg (Kd.R_away HO185.out (fun _ hk => hk.2.2.1))); have n3_ := mkA (blk_grown (g := gb167) (o := .cells #[.int .i64 t164, .int .i64 t165] 105 (0, 0)) (bl_ BK167.out) hg (Kd.R_away HO185.out (fun _ hk => hk.2.2.2.1))); have n4_ := mkA (blk_grown (g := gb173) (o := .cells #[.int .i64 (wrap64 (((rd_T105 x5_1 x10_2).f0) - t162)), .int .i64 (wrap64 (((rd_T105 x5_1 x10_2).f1) - t163))] 105 (0, 0)) (bl_ BK173.out) hg (Kd.R_away HO185.out (fun _ hk => hk.2.2.2.2))); have n5_ := mkA (hb); have n6_ := mkA ((show Kd.C k105 w53 (some ad174) y179.length y179 from by rw [Ny179.out]; exact Kd.C_take (m := (x12_3 : Int).toNat) ((Kd.R_reads' (Kd.R_after (ok := (fun k_ => some k_ ≠ (.slice (some ad171) x5_1.length co13 : Value).ownBlock ∧ k_ ≠ gb166 ∧ k_ ≠ gb167 ∧ k_ ≠ gb173)) (by (with_reducible repeat (first | apply Kd.R_alloc | apply Kd.R_drewN | apply Kd.R_drew)); exact HO_9.out) hg hat)).2.2) KL48.out)); have n7_ := mkA (ho); clear HO_5; clear HO_9; clear BK166; clear BK167; clear BK173; clear HB; clear HR182; clear HO185; have HO_5 := n0_; have HO_9 := n1_; have BK166 := n2_; have BK167 := n3_; have BK173 := n4_; have HB := n5_; have HR182 := n6_; have HO188 := n7_; clear n0_ n1_ n2_ n3_ n4_ n5_ n6_ n7_; clear ho hb hg hat; have q54 : (x12_3 : Int) ≤ ((x9_2.length : Int) : Int) := dt_; obtain ⟨i054, hi054, _, hsz54, _⟩ := info_parts info105; have hroom54 : x9_2.length ≤ co28 := (Kd.R_reads' HO_9.out).2.1; have hC54 : Kd.C k105 _ (some ad174) x9_2.length x9_2 := (Kd.R_reads' HO_9.out).2.2; have q054 : (0 : Int) ≤ (x12_3 : Int) := dt_; have hcut54 := cut_from (P := Try.prog) 51 105 .i64 Try.underlying51 hi054 2 hsz54 (some ad174) x9_2.length co28 x12_3 q054 q54; have hr54 := Kd.C_drop (m := (x12_3 : Int).toNat) (c := co28) hC54 (by omega) hroom54; obtain ⟨A54, hA54⟩ : ∃ A1, A1 = (if co28 = (x12_3 : Int).toNat then (some ad174) else ((some ad174) : Option Addr).map (·.add ((x12_3 : Int).toNat * 2))) := ⟨_, rfl⟩; obtain ⟨c54, hc54⟩ : ∃ c1, c1 = co28 - (x12_3 : Int).toNat := ⟨_, rfl⟩; have hy54 : y189.length = x9_2.length - (x12_3 : Int).toNat := (by rw [Ny189.out, List.length_drop] <;> omega); rw [show (x9_2).drop (x12_3 : Int).toNat = y189 from Ny189.out.symm] at hr54; replace hr54 : Kd.C k105 _ A54 y189.length y189 := (by rw [hA54]; exact hr54); rw [← hy54, ← hA54, ← hc54] at hcut54; have HR192 := mkA hr54; have HC192 := mkA (show y189.length ≤ c54 from by rw [hy54, hc54]; exact Nat.sub_le_sub_right hroom54 _); clear hr54 hC54 hroom54 hi054 hsz54 hc54; have KY54 := mkA hy54; have KA54 := mkA hA54; clear hy54 hA54; have KL54 := mkA (show (x12_3 : Int).toNat ≤ x9_2.length from by omega); replace q54 := eq_true q54) | ((with_reducible refine gate_builtin (b := .append) (xs := #[.tmp 89, .tmp 92]) rfl ?_); at_builtin; refine Kd.R_append_rows k105 (w0 := w) w.heap.size rfl (.tmp 89) (.tmp 92) 51 105 (.agg #[(.int .i64 0), (.int .i64 0)]) 16 rfl Try.underlying51 info105 rfl (by decide) (by omega) v187 y186 y189 _ _ _ (fun k_ => some k_ ≠ (.slice (some ad171) x5_1.length co13 : Value).ownBlock ∧ some k_ ≠ (.slice (some ad174) x9_2.length co28 : Value).ownBlock ∧ k_ ≠ gb166 ∧ k_ ≠ gb167 ∧ k_ ≠ gb173) (fun _ => False) rfl rfl ?aO ?aR (fun _ _ h => h) (fun _ h => h.elim) ?aF ?aB ?aS ?aL ?_; (case aR => repeat (first | exact (by repeat (first | (with_reducible exact HR192.out) | (with_reducible refine Kd.C_alloc ?_ _) | (with_reducible refine Kd.C_drewN ?_ _) | (with_reducible refine Kd.C_drew ?_) | exact HR192.out)) | (with_reducible refine Kd.C_alloc ?_ _) | (with_reducible refine Kd.C_drewN ?_ _) | (with_reducible refine Kd.C_drew ?_))); (case aB => exact (bs3_ HB.out GE166.out GE167.out GE173.out)); (case aF => exact (fun k_ hk => ⟨Kd.fresh' (Kd.R_lt (by (with_reducible repeat (first | apply Kd.R_alloc | apply Kd.R_drewN | apply Kd.R_drew)); exact HO_5.out)) k_ hk, Kd.fresh' (Kd.R_lt (by (with_reducible repeat (first | apply Kd.R_alloc | apply Kd.R_drewN | apply Kd.R_drew)); exact HO_9.out)) k_ hk, Kd.freshB (g := gb166) (o := .cells #[.int .i64 t162, .int .i64 t163] 105 (0, 0)) (bl_ BK166.out) k_ hk, Kd.freshB (g := gb167) (o := .cells #[.int .i64 t164, .int .i64 t165] 105 (0, 0)) (bl_ BK167.out) k_ hk, Kd.freshB (g := gb173) (o := .cells #[.int .i64 (wrap64 (((rd_T105 x5_1 x10_2).f0) - t162)), .int .i64 (wrap64 (((rd_T105 x5_1 x10_2).f1) - t163))] 105 (0, 0)) (bl_ BK173.out) k_ hk⟩)); (case aO => exact (by (with_reducible repeat (first | apply Kd.R_alloc | apply Kd.R_drewN | apply Kd.R_drew)); exact HO188.out)); (case aS => exact (below_size (bs3_ HB.out GE166.out GE167.out GE173.out))); (case aL => have := LMc43.out; omega); intro v194 w55 ho hb hg hat; rw [← Ny193.out] at ho; have n0_ := mkA (Kd.R_after (ok := (fun k_ => some k_ ≠ (.slice (some ad174) x9_2.length co28 : Value).ownBlock ∧ k_ ≠ gb166 ∧ k_ ≠ gb167 ∧ k_ ≠ gb173)) (by (with_reducible repeat (first | apply Kd.R_alloc | apply Kd.R_drewN | apply Kd.R_drew)); exact HO_5.out) hg hat); have n1_ := mkA (Kd.R_after (ok := (fun k_ => some k_ ≠ (.slice (some ad171) x5_1.length co13 : Value).ownBlock ∧ k_ ≠ gb166 ∧ k_ ≠ gb167 ∧ k_ ≠ gb173)) (by (with_reducible repeat (first | apply Kd.R_alloc | apply Kd.R_drewN | apply Kd.R_drew)); exact HO_9.out) hg hat); have n2_ := mkA (blk_grown (g := gb166) (o := .cells #[.int .i64 t162, .int .i64 t163] 105 (0, 0)) (bl_ BK166.out) hg (Kd.R_away HO188.out (fun _ hk => hk.2.2.1))); have n3_ := mkA (blk_grown (g := gb167) (o := .cells #[.int .i64 t164, .int .i64 t165] 105 (0, 0)) (bl_ BK167.out) hg (Kd.R_away HO188.out (fun _ hk => hk.2.2.2.1))); have n4_ := mkA (blk_grown (g := gb173) (o := .cells #[.int .i64 (wrap64 (((rd_T105 x5_1 x10_2).f0) - t162)), .int .i64 (wrap64 (((rd_T105 x5_1 x10_2).f1) - t163))] 105 (0, 0)) (bl_ BK173.out) hg (Kd.R_away HO188.out (fun _ hk => hk.2.2.2.2))); have n5_ := mkA (hb); have n6_ := mkA ((show Kd.C k105 w55 (some ad174) y179.length y179 from by rw [Ny179.out]; exact Kd.C_take (m := (x12_3 : Int).toNat) ((Kd.R_reads' (Kd.R_after (ok := (fun k_ => some k_ ≠ (.slice (some ad171) x5_1.length co13 : Value).ownBlock ∧ k_ ≠ gb166 ∧ k_ ≠ gb167 ∧ k_ ≠ gb173)) (by (with_reducible repeat (first | apply Kd.R_alloc | apply Kd.R_drewN | apply Kd.R_drew)); exact HO_9.out) hg hat)).2.2) KL48.out)); have n7_ := mkA ((show Kd.C k105 w55 A54 y189.length y189 from by rw [Ny189.out, KA54.out]; exact Kd.C_drop (m := (x12_3 : Int).toNat) (c := co28) ((Kd.R_reads' (Kd.R_after (ok := (fun k_ => some k_ ≠ (.slice (some ad171) x5_1.length co13 : Value).ownBlock ∧ k_ ≠ gb166 ∧ k_ ≠ gb167 ∧ k_ ≠ gb173)) (by (with_reducible repeat (first | apply Kd.R_alloc | apply Kd.R_drewN | apply Kd.R_drew)); exact HO_9.out) hg hat)).2.2) KL54.out ((Kd.R_reads' (Kd.R_after (ok := (fun k_ => some k_ ≠ (.slice (some ad171) x5_1.length co13 : Value).ownBlock ∧ k_ ≠ gb166 ∧ k_ ≠ gb167 ∧ k_ ≠ gb173)) (by (with_reducible repeat (first | apply Kd.R_alloc | apply Kd.R_drewN | apply Kd.R_drew)); exact HO_9.out) hg hat)).2.1))); have n8_ := mkA (ho); clear HO_5; clear HO_9; clear BK166; clear BK167; clear BK173; clear HB; clear HR182; clear HR192; clear HO188; have HO_5 := n0_; have HO_9 := n1_; have BK166 := n2_; have BK167 := n3_; have BK173 := n4_; have HB := n5_; have HR182 := n6_; have HR192 := n7_; have HO195 := n8_; clear n0_ n1_ n2_ n3_ n4_ n5_ n6_ n7_ n8_; clear ho hb hg hat))
           go_roundg k3
           case measure => have := HK1.out; have := HK2.out; have := HK3.out; omega
           case rel => exact ⟨(y193), (wrap64 (x10_2 + 1)), (by first | rfl | (simp; done) | (simp [*]; done) | (simp [i64_w, i32_w]; done)), H', ⟨by have := HK1.out; have := HK2.out; have := HK3.out; omega⟩, ⟨by (with_reducible repeat (first | apply Kd.R_alloc | apply Kd.R_drewN | apply Kd.R_drew)); exact Kd.R_mono HO_5.out (fun _ hk => ⟨hk.2, ⟨hk.1.2.1, hk.1.2.2.1⟩⟩)⟩, ⟨by (with_reducible repeat (first | apply Kd.R_alloc | apply Kd.R_drewN | apply Kd.R_drew)); exact Kd.R_mono HO195.out (fun _ hk => ⟨hk.1, ⟨hk.2.2.1, hk.2.2.2.1⟩⟩)⟩, ⟨by (with_reducible repeat (first | refine blk_drewN ?_ _ | refine blk_drew ?_ | refine blk_alloc ?_ _)); exact BK166.out⟩, ⟨by (with_reducible repeat (first | refine blk_drewN ?_ _ | refine blk_drew ?_ | refine blk_alloc ?_ _)); exact BK167.out⟩, ⟨by repeat (first | (with_reducible first | exact HB.out | apply below_alloc | apply pw_below_drewN | apply below_drew1 | refine below_set ?_ GE166.out | refine below_set ?_ GE167.out | refine below_set ?_ GE173.out) | exact HB.out)⟩⟩
end Go.Proofs.Ytakagkflgkoiiaa.GFnExactTurnsOfPiece

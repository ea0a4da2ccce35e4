-- Written by the session's own program (gen.py) out of the translation's print. Lean checks it.
import Derived.Test.YtakagkflgkoiiaaQ
import Derived.Test.YtakagkflgkoiiaaGFnExactIsCoverx0
import Derived.Test.YtakagkflgkoiiaaGFnExactIsCoverx10
import Derived.Test.YtakagkflgkoiiaaGFnExactIsCoverx12
namespace Go.Proofs.Ytakagkflgkoiiaa.GFnExactIsCover
open Go.RowKit Go.Proofs.YtakagkflgkoiiaaW.PrintWords Go.Proofs.YtakagkflgkoiiaaW.PrintLast Go.Proofs.YtakagkflgkoiiaaW.PrintMore
open List renaming setIfInBounds_toArray → sA, set_cons_zero → sB, set_cons_succ → sC
open Go.Proofs.YtakagkflgkoiiaaW.PrintWords.Aside0 renaming mk → mkA
open Go.Proofs.YtakagkflgkoiiaaX (dt_ bc_ p0_ p1_ bl_ cb_ bs0_ bs1_ bs2_ bs3_ bs4_ bs5_ bs6_ bs7_ bs8_ bs9_ bs10_ bs11_ bs12_)
open Go.Proofs.YtakagkflgkoiiaaQ
attribute [local go_sem] max2_int min2_int max_two min_two max_three min_three max_four min_four 
set_option linter.unusedVariables false
set_option linter.unusedSimpArgs false

/-! ### spec_l19Turns: function 73 -/
mutual
def spec_l19Turns.l0 : Nat → List Int → Int → List (S53) → Option (List Int)
  | 0, _, _, _ => none
  | k + 1, x3, x4, x960 => if x4 < 8 then (spec_l19Turns.l1 k x3 x4 true 0 x960) else (some x3)
def spec_l19Turns.l1 : Nat → List Int → Int → Bool → Int → List (S53) → Option (List Int)
  | 0, _, _, _, _, _ => none
  | k + 1, x3, x4, x5, x6, x960 => if x6 < (x3.length : Int) then (if x5 = true then (if 0 ≤ x6 then ((spec_l19Turned.f k x960 (rd x3 x6)).bind fun t311 => ((spec_l19Turned.f k x960 x4).bind fun t314 => ((spec_l03Equal.f k t311 t314).bind fun t317 => (spec_l19Turns.l1 k x3 x4 (!t317) (wrap64 (x6 + 1)) x960)))) else (none)) else (spec_l19Turns.l1 k x3 x4 false (wrap64 (x6 + 1)) x960)) else (if x5 = true then (if x3.length < 17592186044416 then (spec_l19Turns.l0 k (x3 ++ [x4]) (wrap64 (x4 + 1)) x960) else (none)) else (spec_l19Turns.l0 k x3 (wrap64 (x4 + 1)) x960))
end
def spec_l19Turns.f (k : Nat) (l0 : List (S53)) : Option (List Int) := (some (([0] : List Int) : List Int)).bind fun y306 => (if 0 < (l0.length : Int) then (if ((rd_T53 l0 0).f3 = true) then (spec_l19Turns.l0 k y306 1 l0) else (some y306)) else (none))
set_option maxHeartbeats 8000000 in
set_option maxRecDepth 100000 in
theorem spec_l19Turns.calls (k : Nat) (A0 : Option Addr) (l0 : List (S53)) (r : List Int) (w : World) (hr0 : Kd.C k53 w A0 l0.length l0) (h : spec_l19Turns.f k l0 = some r) :
 Calls Try.prog 73 #[.pointer A0] w fun e w' => ∃ v0_ : Value, e = .returned (v0_) ∧ Kd.R (Kd.int .i64) 2 w' w.heap.size (fun _ => True) v0_ r ∧ Below w.heap.size w w' := by
 have HR0 := mkA hr0
 clear hr0
 have HB := mkA (Below.refl w.heap.size w)
 unfold spec_l19Turns.f at h
 have H := h
 clear h
 obtain ⟨y306, hy306⟩ := gy_ ([0] : List Int)
 rw [← hy306] at H
 (try with_reducible replace H := bso_ H)
 have Ny306 := mkA hy306
 clear hy306
 revert H
 refine ng_ fun c2 => ?_
 intro H
 have c2b0 := decide_eq_true c2
 have c2b1 : decide (0 < l0.length) = true := decide_eq_true (by omega)
 clear c2
 obtain ⟨bq3, hbq3⟩ : ∃ b_ : Bool, b_ = ((rd_T53 l0 0).f3) := ⟨_, rfl⟩
 replace H : (if (bq3 = true) then (spec_l19Turns.l0 k y306 1 l0) else (some y306)) = some r := by rw [← hbq3] at H; exact H
 have Nbq3 := mkA hbq3
 clear hbq3
 by_cases c4 : (bq3 = true)
 rotate_left
 · replace c4 := Bool.eq_false_iff.mpr c4
   subst c4
   rw [if_neg Bool.false_ne_true] at H
   obtain rfl := Option.some.inj H
   go_enter Try.func73, Try.ntmps73
   go_wp2_with (first | ((with_reducible refine gt_ 7 ?_); refine Kd.R_lit (Kd.int .i64) _ 2 ?hg (N := 7) ?hd (xs := ([0] : List Int)) (inner := [.int .i64 0]) (ok := fun _ => True) (okp := fun _ => True) ?hr ?hp (fun _ hk => hk) trivial (Below.refl _ _) (Nat.le_refl _) (by simp) ?_; (case hd => rfl); (case hg => rfl); (case hr => first | (go_simp; done) | (go_simp; rfl)); (case hp => exact (Reps.one (show Kd.M (Kd.int .i64) _ _ _ 0 [.int .i64 0] from rfl) (Reps.none _ _))); intro v307 w25 ho26 hb hg_ hnew_; clear hg_ hnew_; (first | rw [← Ny306.out] at ho26 | (simp only [Int.reduceToNat] at ho26; rw [← Ny306.out] at ho26)); have HO308 := mkA (Kd.R_lower ho26 (below_size (bs0_ HB.out))); replace HB := mkA (below_step (bs0_ HB.out) hb); clear hb ho26; have p309 : 0 ≤ (0 : Int) := (by omega); have q309 : 0 < (l0.length : Int) := dt_; obtain ⟨ad309, A309_1, c309_1, e309, hx309_0, hx309_1, hx309_2, hx309_3, hl309_1, hi309_1⟩ := at0_T53 HR0.out q309; (try rw [← Nbq3.out] at hx309_3); cases e309; have qi309 : (0 < l0.length) = True := eq_true (by omega); replace hx309_0 := bc_ HB.out hx309_0; replace hx309_1 := bc_ HB.out hx309_1; replace hx309_2 := bc_ HB.out hx309_2; replace hx309_3 := bc_ HB.out hx309_3; have HR309_1 := mkA hi309_1; have HC309_1 := mkA hl309_1; clear hi309_1 hl309_1; replace p309 := eq_true p309; replace q309 := eq_true q309))
   go_ret
   exact ⟨_, re_, r_ HO308.out, bs0_ HB.out⟩
 subst c4
 rw [if_pos rfl] at H
 have H' := mkA H
 clear H
 go_enter Try.func73, Try.ntmps73
 go_wp2_with (first | ((with_reducible refine gt_ 7 ?_); refine Kd.R_lit (Kd.int .i64) _ 2 ?hg (N := 7) ?hd (xs := ([0] : List Int)) (inner := [.int .i64 0]) (ok := fun _ => True) (okp := fun _ => True) ?hr ?hp (fun _ hk => hk) trivial (Below.refl _ _) (Nat.le_refl _) (by simp) ?_; (case hd => rfl); (case hg => rfl); (case hr => first | (go_simp; done) | (go_simp; rfl)); (case hp => exact (Reps.one (show Kd.M (Kd.int .i64) _ _ _ 0 [.int .i64 0] from rfl) (Reps.none _ _))); intro v307 w5 ho6 hb hg_ hnew_; clear hg_ hnew_; (first | rw [← Ny306.out] at ho6 | (simp only [Int.reduceToNat] at ho6; rw [← Ny306.out] at ho6)); have HO308 := mkA (Kd.R_lower ho6 (below_size (bs0_ HB.out))); replace HB := mkA (below_step (bs0_ HB.out) hb); clear hb ho6; have p309 : 0 ≤ (0 : Int) := (by omega); have q309 : 0 < (l0.length : Int) := dt_; obtain ⟨ad309, A309_1, c309_1, e309, hx309_0, hx309_1, hx309_2, hx309_3, hl309_1, hi309_1⟩ := at0_T53 HR0.out q309; (try rw [← Nbq3.out] at hx309_3); cases e309; have qi309 : (0 < l0.length) = True := eq_true (by omega); replace hx309_0 := bc_ HB.out hx309_0; replace hx309_1 := bc_ HB.out hx309_1; replace hx309_2 := bc_ HB.out hx309_2; replace hx309_3 := bc_ HB.out hx309_3; have HR309_1 := mkA hi309_1; have HC309_1 := mkA hl309_1; clear hi309_1 hl309_1; replace p309 := eq_true p309; replace q309 := eq_true q309))
 go_loopg [3, 4] k (fun kq v3 v4 w' => ∃ (x3_1 : List Int) (x4_1 : Int), v4 = .int .i64 x4_1 ∧ Aside0 (spec_l19Turns.l0 kq x3_1 x4_1 l0 = some r) ∧ Aside0 (kq ≤ k) ∧ Aside0 (Kd.R (Kd.int .i64) 2 w' w.heap.size (fun _ => True) v3 x3_1) ∧ Aside0 (Below w.heap.size w w'))
 case atStart => exact ⟨(y306), (1), rf_, H', ⟨Nat.le_refl _⟩, ⟨r_ HO308.out⟩, ⟨bs0_ HB.out⟩⟩
 case round =>
  clear H'
  try clear c2 c2b0 c2b1 c4
  try clear hx309_0 hx309_1 hx309_2 hx309_3
  try clear p309
  try clear q309
  obtain ⟨x3_1, x4_1, rfl, HA, HK1, HO_3, HB⟩ := hrel
  cases gk with
  | zero => exact absurd HA.out (by simp [spec_l19Turns.l0])
  | succ k1 =>
   have H := HA.out
   clear HA
   simp only [spec_l19Turns.l0] at H
   by_cases c7 : x4_1 < 8
   rotate_left
   · rw [if_neg c7] at H
     have c7b0 := decide_eq_false c7
     clear c7
     obtain rfl := Option.some.inj H
     go_wp2
     go_ret
     exact ⟨_, re_, r_ HO_3.out, bs0_ HB.out⟩
   rw [if_pos c7] at H
   have c7b0 := decide_eq_true c7
   clear c7
   have H' := mkA H
   clear H
   go_wp2
   go_loopg [5, 6] k1 (fun kq v5 v6 w' => ∃ (x5_2 : Bool) (x6_2 : Int), v5 = .bool x5_2 ∧ v6 = .int .i64 x6_2 ∧ Aside0 (spec_l19Turns.l1 kq x3_1 x4_1 x5_2 x6_2 l0 = some r) ∧ Aside0 (kq ≤ k1) ∧ Aside0 (Kd.R (Kd.int .i64) 2 w' w.heap.size (fun _ => True) u3 x3_1) ∧ Aside0 (Below w.heap.size w w'))
   case atStart => exact ⟨(true), (0), rf_, rf_, H', ⟨Nat.le_refl _⟩, ⟨r_ HO_3.out⟩, ⟨bs0_ HB.out⟩⟩
   case round =>
    clear H'
    try clear c2 c2b0 c2b1 c4 c7 c7b0
    try clear hx309_0 hx309_1 hx309_2 hx309_3
    try clear p309
    try clear q309
    obtain ⟨x5_2, x6_2, rfl, rfl, HA, HK2, HO_3, HB⟩ := hrel
    cases gk with
    | zero => exact absurd HA.out (by simp [spec_l19Turns.l1])
    | succ k2 =>
     have H := HA.out
     clear HA
     simp only [spec_l19Turns.l1] at H
     by_cases c8 : x6_2 < (x3_1.length : Int)
     rotate_left
     · rw [if_neg c8] at H
       have c8b0 := decide_eq_false c8
       clear c8
       by_cases c20 : x5_2 = true
       rotate_left
       · replace c20 := Bool.eq_false_iff.mpr c20
         subst c20
         rw [if_neg Bool.false_ne_true] at H
         have H' := mkA H
         clear H
         obtain ⟨Ao24, co24, eo24⟩ := Kd.R_slice HO_3.out
         subst eo24
         go_wp2
         go_roundg k2
         case measure => have := HK1.out; have := HK2.out; omega
         case rel => exact ⟨(x3_1), (wrap64 (x4_1 + 1)), rf_, H', ⟨on2_ HK1.out HK2.out⟩, ⟨r_ HO_3.out⟩, ⟨bs0_ HB.out⟩⟩
       subst c20
       rw [if_pos rfl] at H
       revert H
       refine ng_ fun c21 => ?_
       intro H
       have LMc21 := mkA c21
       clear c21
       obtain ⟨y318, hy318⟩ := gy_ (x3_1 ++ [x4_1] : List Int)
       rw [← hy318] at H
       (try with_reducible replace H := bso_ H)
       have Ny318 := mkA hy318
       clear hy318
       have H' := mkA H
       clear H
       obtain ⟨Ao22, co22, eo22⟩ := Kd.R_slice HO_3.out
       subst eo22
       go_wp2_with (first | ((with_reducible refine gate_builtin (b := .append) (xs := #[.tmp 39, .tmp 41]) rfl ?_); at_builtin; refine Kd.R_append (Kd.int .i64) (w0 := w) w.heap.size rfl (.tmp 39) (.tmp 41) 22 2 (.int .i64 0) 8 rfl Try.underlying22 info2 rfl (by decide) (by omega) (.slice Ao22 x3_1.length co22) x3_1 x4_1 [.int .i64 x4_1] (fun _ => True) (fun _ => False) rfl rfl ?aP (fun _ hk => hk.elim) ?aF ?aO ?aB ?aS ?aL ?_; (case aP => exact rfl); (case aB => exact (bs0_ HB.out)); (case aF => exact (fun _ _ => trivial)); (case aO => exact (r_ HO_3.out)); (case aS => exact (below_size (bs0_ HB.out))); (case aL => have := LMc21.out; omega); intro v319 w23 ho hb hg hat; rw [← Ny318.out] at ho; replace HB := mkA (hb); have HO320 := mkA (ho); clear HO_3; clear ho hb hg hat))
       go_roundg k2
       case measure => have := HK1.out; have := HK2.out; omega
       case rel => exact ⟨(y318), (wrap64 (x4_1 + 1)), rf_, H', ⟨on2_ HK1.out HK2.out⟩, ⟨r_ HO320.out⟩, ⟨bs0_ HB.out⟩⟩
     rw [if_pos c8] at H
     have c8b0 := decide_eq_true c8
     clear c8
     by_cases c9 : x5_2 = true
     rotate_left
     · replace c9 := Bool.eq_false_iff.mpr c9
       subst c9
       rw [if_neg Bool.false_ne_true] at H
       have H' := mkA H
       clear H
       obtain ⟨Ao19, co19, eo19⟩ := Kd.R_slice HO_3.out
       subst eo19
       go_wp2
       go_roundg k2
       case measure => have := HK1.out; have := HK2.out; omega
       case rel => exact ⟨(false), (wrap64 (x6_2 + 1)), rf_, rf_, H', ⟨on2_ HK1.out HK2.out⟩, ⟨r_ HO_3.out⟩, ⟨bs0_ HB.out⟩⟩
     subst c9
     rw [if_pos rfl] at H
     revert H
     refine ng_ fun c10 => ob_ fun t311 A11 => ob_ fun t314 A12 => ob_ fun t317 A13 => ?_
     intro H
     have c10b0 := decide_eq_true c10
     clear c10
     have H' := mkA H
     clear H
     obtain ⟨Ao14, co14, eo14⟩ := Kd.R_slice HO_3.out
     subst eo14
     obtain ⟨ad310, e310, hx310_0⟩ := Kd.at_int (Kd.R_reads' HO_3.out).2.2 x6_2 dt_ dt_
     cases e310
     have p310 : (0 ≤ (x6_2 : Int)) = True := eq_true dt_
     have q310 : (x6_2 < (x3_1.length : Int)) = True := eq_true dt_
     go_wp2_with (first | (go_at_call 95; (with_reducible refine (spec_l19Turned.calls k2 _ l0 (rd x3_1 x6_2) t311 _ ?side1 A11.out).mono ?_); (case side1 => exact cb_ HR0.out HB.out); rintro e w15 ⟨v312, rfl, ho0, hb⟩; replace HO_3 := mkA (Kd.R_below (r_ HO_3.out) hb); have HO313 := mkA (Kd.R_lower ho0 (below_size (bs0_ HB.out))); replace HB := mkA (below_step (bs0_ HB.out) hb); (try clear hb); (try clear hb2); (try clear hk); (try clear hi); (try clear ho0)) | (go_at_call 95; (with_reducible refine (spec_l19Turned.calls k2 _ l0 x4_1 t314 _ ?side1 A12.out).mono ?_); (case side1 => exact cb_ HR0.out HB.out); rintro e w16 ⟨v315, rfl, ho0, hb⟩; replace HO_3 := mkA (Kd.R_below (r_ HO_3.out) hb); have HO316 := mkA (Kd.R_lower (Kd.R_new' ho0 (Kd.R_lt (r_ HO313.out))) (below_size (bs0_ HB.out))); replace HO313 := mkA (Kd.R_elder' (r_ HO313.out) (Kd.R_base ho0) hb); replace HB := mkA (below_step (bs0_ HB.out) hb); (try clear hb); (try clear hb2); (try clear hk); (try clear hi); (try clear ho0); obtain ⟨Ao17, co17, eo17⟩ := Kd.R_slice HO313.out; subst eo17; obtain ⟨Ao18, co18, eo18⟩ := Kd.R_slice HO316.out; subst eo18) | (go_at_call 94; (with_reducible refine (spec_l03Equal.calls k2 _ _ t311 _ _ t314 t317 _ ?side1 ?side2 ?side3 ?side4 A13.out).mono ?_); (case side1 => repeat (first | exact (Kd.R_reads' HO313.out).2.2 | (with_reducible refine Kd.C_alloc ?_ _) | (with_reducible refine Kd.C_drewN ?_ _) | (with_reducible refine Kd.C_drew ?_))); (case side2 => exact (Kd.R_reads' HO313.out).2.1); (case side3 => repeat (first | exact (Kd.R_reads' HO316.out).2.2 | (with_reducible refine Kd.C_alloc ?_ _) | (with_reducible refine Kd.C_drewN ?_ _) | (with_reducible refine Kd.C_drew ?_))); (case side4 => exact (Kd.R_reads' HO316.out).2.1); rintro e w' ⟨rfl, ⟨nd, rfl⟩⟩))
     go_roundg k2
     case measure => have := HK1.out; have := HK2.out; omega
     case rel => exact ⟨(!t317), (wrap64 (x6_2 + 1)), rf_, rf_, H', ⟨on2_ HK1.out HK2.out⟩, ⟨r_ HO_3.out⟩, ⟨bs0_ HB.out⟩⟩
/-! ### spec_l03Shifted: function 100 -/
def spec_l03Shifted.l0 : Nat → List (S105) → Int → Int → List (S105) → Int → Option ((List (S105)))
  | 0, _, _, _, _, _ => none
  | k + 1, x0, x1, x2, x7, x8 => if x8 < (x0.length : Int) then (if 0 ≤ x8 then (if x7.length < 8796093022208 then (spec_l03Shifted.l0 k x0 x1 x2 (x7 ++ [(⟨wrap64 (((rd_T105 x0 x8).f0) + x1), wrap64 (((rd_T105 x0 x8).f1) + x2)⟩ : S105)]) (wrap64 (x8 + 1))) else (none)) else (none)) else (some x7)
def spec_l03Shifted.f (k : Nat) (l0 : List (S105)) (a1 : Int) (a2 : Int) : Option ((List (S105))) := spec_l03Shifted.l0 k l0 a1 a2 (([] : List (S105))) 0
def spec_l03Shifted.T5 : Bool × List (List Nat × List Nat) := (true, [([], []), ([], []), ([], []), ([1, 2], [1, 2]), ([3], [3]), ([4], [4]), ([], []), ([5, 6], [5, 6]), ([], []), ([], []), ([8, 9], [8, 9]), ([10], [10]), ([11], [11]), ([], []), ([12, 13], [12, 13]), ([7, 14], [7, 14]), ([15], [15]), ([0, 16], [0, 16]), ([17, 17, 0, 1, 2, 3, 4, 5, 6, 7, 8, 9, 10, 11, 12, 13, 14, 15, 16, 17], [0, 17])])
def spec_l03Shifted.B5 : List Nat := [0, 0, 0, 6, 14, 30, 0, 126, 0, 0, 768, 1792, 3840, 0, 16128, 32766, 65534, 131071, 262143]
theorem spec_l03Shifted.tab5 : rtab .any (opsOf Try.f100 5) = spec_l03Shifted.T5 := by kernel_rfl
theorem spec_l03Shifted.bits5 : waitsOk spec_l03Shifted.T5.2 spec_l03Shifted.B5 = true := by kernel_rfl
set_option maxHeartbeats 8000000 in
set_option maxRecDepth 100000 in
theorem spec_l03Shifted.calls (k : Nat) (A0 : Option Addr) (c0 : Nat) (l0 : List (S105)) (a1 : Int) (a2 : Int) (r : List (S105)) (w : World) (hr0 : Kd.C k105 w A0 l0.length l0) (hc0 : l0.length ≤ c0) (h : spec_l03Shifted.f k l0 a1 a2 = some r) :
 Calls Try.prog 100 #[.slice A0 l0.length c0, .int .i64 a1, .int .i64 a2] w fun e w' => ∃ v0_ : Value, e = .returned (v0_) ∧ Kd.R k105 105 w' w.heap.size (fun _ => True) v0_ r ∧ Below w.heap.size w w' := by
 have hu105 := Try.underlying105
 have HR0 := mkA hr0
 have HC0 := mkA hc0
 clear hr0 hc0
 have HB := mkA (Below.refl w.heap.size w)
 unfold spec_l03Shifted.f at h
 have H := h
 clear h
 obtain ⟨y321, hy321⟩ := gy_ (([] : List (S105)) : List (S105))
 replace H : (spec_l03Shifted.l0 k l0 a1 a2 y321 0) = some r := hs_ H hy321
 have Ny321 := mkA hy321
 clear hy321
 have H' := mkA H
 clear H
 go_enter Try.func100, Try.ntmps100
 go_wp2_with (first | ((with_reducible refine gt_ 9 ?_); refine Kd.R_lit k105 _ 105 ?hg (N := 9) ?hd (xs := ([] : List (S105))) (inner := []) (ok := fun _ => True) (okp := fun _ => True) ?hr ?hp (fun _ hk => hk) trivial (Below.refl _ _) (Nat.le_refl _) (by simp) ?_; (case hd => rfl); (case hg => rfl); (case hr => first | (go_simp; done) | (go_simp; rfl)); (case hp => exact (Reps.none _ _)); intro v322 w4 ho5 hb hg_ hnew_; clear hg_ hnew_; (first | rw [← Ny321.out] at ho5 | (simp only [Int.reduceToNat] at ho5; rw [← Ny321.out] at ho5)); have HO323 := mkA (Kd.R_lower ho5 (below_size (bs0_ HB.out))); replace HB := mkA (below_step (bs0_ HB.out) hb); clear hb ho5))
 go_loopg [7, 8] k (fun kq v7 v8 w' => ∃ (x7_1 : List (S105)) (x8_1 : Int), v8 = .int .i64 x8_1 ∧ Aside0 (spec_l03Shifted.l0 kq l0 a1 a2 x7_1 x8_1 = some r) ∧ Aside0 (kq ≤ k) ∧ Aside0 (Kd.R k105 105 w' w.heap.size (fun _ => True) v7 x7_1) ∧ Aside0 (Below w.heap.size w w'))
 case atStart => exact ⟨(y321), (0), rf_, H', ⟨Nat.le_refl _⟩, ⟨r_ HO323.out⟩, ⟨bs0_ HB.out⟩⟩
 case round =>
  clear H'
  obtain ⟨x7_1, x8_1, rfl, HA, HK1, HO_7, HB⟩ := hrel
  cases gk with
  | zero => exact absurd HA.out (by simp [spec_l03Shifted.l0])
  | succ k1 =>
   have H := HA.out
   clear HA
   simp only [spec_l03Shifted.l0] at H
   by_cases c6 : x8_1 < (l0.length : Int)
   rotate_left
   · rw [if_neg c6] at H
     have c6b0 := decide_eq_false c6
     clear c6
     obtain rfl := Option.some.inj H
     go_wp2
     go_ret
     exact ⟨_, re_, r_ HO_7.out, bs0_ HB.out⟩
   rw [if_pos c6] at H
   have c6b0 := decide_eq_true c6
   clear c6
   revert H
   refine ng_ fun c7 => ng_ fun c8 => ?_
   intro H
   have c7b0 := decide_eq_true c7
   clear c7
   have LMc8 := mkA c8
   clear c8
   obtain ⟨y326, hy326⟩ := gy_ (x7_1 ++ [(⟨wrap64 (((rd_T105 l0 x8_1).f0) + a1), wrap64 (((rd_T105 l0 x8_1).f1) + a2)⟩ : S105)] : List (S105))
   rw [← hy326] at H
   (try with_reducible replace H := bso_ H)
   have Ny326 := mkA hy326
   clear hy326
   have H' := mkA H
   clear H
   try go_wp2
   replace HO_7 := mkA (Kd.R_drew HO_7.out)
   replace HB := mkA (below_drew1 HB.out)
   obtain ⟨ad324, e324, hw324_0, hw324_1⟩ := at_T105 HR0.out x8_1 dt_ dt_
   cases e324
   obtain ⟨hx324_0, hx324_1⟩ := b2_ HB.out hw324_0 hw324_1
   have p324 : (0 ≤ (x8_1 : Int)) = True := eq_true dt_
   have q324 : (x8_1 < (l0.length : Int)) = True := eq_true dt_
   obtain ⟨ad325, e325, hw325_0, hw325_1⟩ := at_T105 HR0.out x8_1 dt_ dt_
   obtain rfl : ad324 = ad325 := (by injection e325)
   obtain ⟨hx325_0, hx325_1⟩ := b2_ HB.out hw325_0 hw325_1
   have p325 : (0 ≤ (x8_1 : Int)) = True := eq_true dt_
   have q325 : (x8_1 < (l0.length : Int)) = True := eq_true dt_
   refine st_ 19 (fun w' => C_ hw324_0 w' ∧ C_ hw324_1 w' ∧ C_ hw325_0 w' ∧ C_ hw325_1 w') [] spec_l03Shifted.tab5 spec_l03Shifted.bits5 sp_ fun hHeld HT_ HW_ => ?_
   generalize wr.drew = w9 at HO_7 HB hx324_0 hx324_1 hx325_0 hx325_1 hHeld ⊢
   refine a1_ 0 16 (h := a1_ 1 17 (h := a1_ 2 18 (h := a1_ 3 19 (h := a1_ 4 20 (h := a1_ 6 22 (h := a1_ 8 24 (h := a1_ 9 25 (h := a1_ 10 26 (h := a1_ 11 27 (h := a1_ 13 29 (h := tk_ 5 21 (h := a1_ 7 23 (h := tk_ 12 28 (h := a1_ 14 30 (h := a1_ 15 31 (h := ?_))))))))))))))))
   refine on_ 16 32 fun K hK => ?_
   refine value_ (w1 := ?_) (v := ?_) (by rfl) rfl ?_ ?_
   rotate_left 2
   · go_simp
     constructor
     · rfl
     · rfl
   refine hK.out _ _ ⟨(World.cell?_alloc_lt _ _ _ (World.block_lt_of_cell? _ _ ((bc_ HB.out hw324_0 :)))).trans ((bc_ HB.out hw324_0 :)), (World.cell?_alloc_lt _ _ _ (World.block_lt_of_cell? _ _ ((bc_ HB.out hw324_1 :)))).trans ((bc_ HB.out hw324_1 :)), (World.cell?_alloc_lt _ _ _ (World.block_lt_of_cell? _ _ ((bc_ HB.out hw325_0 :)))).trans ((bc_ HB.out hw325_0 :)), (World.cell?_alloc_lt _ _ _ (World.block_lt_of_cell? _ _ ((bc_ HB.out hw325_1 :)))).trans ((bc_ HB.out hw325_1 :))⟩ (fun hHeld => ?_)
   clear hK K
   refine nm_ 32 ?_
   refine on_ 17 33 fun K hK => ?_
   refine Kd.R_append_step k105 (w0 := w) w.heap.size (by rfl) (.tmp 16) (.tmp 32) 51 105 (.agg #[(.int .i64 0), (.int .i64 0)]) 16 rfl Try.underlying51 info105 rfl (by decide) (by omega) u7 x7_1 (⟨wrap64 (((rd_T105 l0 x8_1).f0) + a1), wrap64 (((rd_T105 l0 x8_1).f1) + a2)⟩ : S105) [.int .i64 (wrap64 (((rd_T105 l0 x8_1).f0) + a1)), .int .i64 (wrap64 (((rd_T105 l0 x8_1).f1) + a2))] (fun _ => True) (fun _ => False) rfl rfl ?aP (fun _ hk => hk.elim) ?aF ?aO ?aB ?aS ?aL ?_
   (case aP => exact k105_mkM _ _ _ (⟨wrap64 (((rd_T105 l0 x8_1).f0) + a1), wrap64 (((rd_T105 l0 x8_1).f1) + a2)⟩ : S105))
   (case aB => exact (bs0_ HB.out))
   (case aF => exact (fun _ _ => trivial))
   (case aO => exact (r_ HO_7.out))
   (case aS => exact (below_size (bs0_ HB.out)))
   (case aL => have := LMc8.out; omega)
   intro v327 w10 ho hb hg hat
   rw [← Ny326.out] at ho
   replace HB := mkA (hb)
   have HO328 := mkA (ho)
   clear HO_7
   clear ho hb hg hat
   refine hK.out _ _ sp_ fun hHeld => ?_
   clear hK K
   refine nm_ 33 ?_
   refine a1_ 18 7 (h := ?_)
   refine dn_ ?_
   try go_wp2
   go_roundg k1
   case measure => have := HK1.out; omega
   case rel => exact ⟨(y326), (wrap64 (x8_1 + 1)), rf_, H', ⟨om_ HK1.out⟩, ⟨r_ HO328.out⟩, ⟨bs0_ HB.out⟩⟩
/-! ### spec_l19Cells: function 77 -/
def spec_l19Cells.f (k : Nat) (l0 : List (S53)) (a1 : Int) (a2 : Int) (a3 : Int) : Option ((List (S105))) := (spec_l19Turned.f k l0 a3).bind fun t329 => ((spec_l03Shifted.f k t329 a1 a2).bind fun t332 => (some t332))
set_option maxHeartbeats 8000000 in
set_option maxRecDepth 100000 in
theorem spec_l19Cells.calls (k : Nat) (A0 : Option Addr) (l0 : List (S53)) (a1 : Int) (a2 : Int) (a3 : Int) (r : List (S105)) (w : World) (hr0 : Kd.C k53 w A0 l0.length l0) (h : spec_l19Cells.f k l0 a1 a2 a3 = some r) :
 Calls Try.prog 77 #[.pointer A0, .int .i64 a1, .int .i64 a2, .int .i64 a3] w fun e w' => ∃ v0_ : Value, e = .returned (v0_) ∧ Kd.R k105 105 w' w.heap.size (fun _ => True) v0_ r ∧ Below w.heap.size w w' := by
 have HR0 := mkA hr0
 clear hr0
 have HB := mkA (Below.refl w.heap.size w)
 unfold spec_l19Cells.f at h
 have H := h
 clear h
 revert H
 refine ob_ fun t329 A5 => ob_ fun t332 A6 => ?_
 intro H
 obtain rfl := Option.some.inj H
 go_enter Try.func77, Try.ntmps77
 go_wp2_with (first | ((with_reducible refine gk_ 95 ?_); refine gl_ (some 11) Try.func95 #[.pointer A0, .int .i64 a3] ?_; (with_reducible refine (spec_l19Turned.calls k _ l0 a3 t329 _ ?side1 A5.out).mono ?_); (case side1 => repeat (first | exact HR0.out | (with_reducible refine Kd.C_alloc ?_ _) | (with_reducible refine Kd.C_drewN ?_ _) | (with_reducible refine Kd.C_drew ?_))); rintro e w7 ⟨v330, rfl, ho0, hb⟩; refine ⟨_, rfl, ?_⟩; have HO331 := mkA (Kd.R_lower ho0 (below_size (bs0_ HB.out))); replace HB := mkA (below_step (bs0_ HB.out) hb); (try clear hb); (try clear hb2); (try clear hk); (try clear hi); (try clear ho0); obtain ⟨Ao8, co8, eo8⟩ := Kd.R_slice HO331.out; subst eo8) | ((with_reducible refine gk_ 100 ?_); refine gl_ (some 14) Try.func100 #[.slice Ao8 t329.length co8, .int .i64 a1, .int .i64 a2] ?_; (with_reducible refine (spec_l03Shifted.calls k _ _ t329 a1 a2 t332 _ ?side1 ?side2 A6.out).mono ?_); (case side1 => repeat (first | exact (Kd.R_reads' HO331.out).2.2 | (with_reducible refine Kd.C_alloc ?_ _) | (with_reducible refine Kd.C_drewN ?_ _) | (with_reducible refine Kd.C_drew ?_))); (case side2 => exact (Kd.R_reads' HO331.out).2.1); rintro e w9 ⟨v333, rfl, ho0, hb⟩; refine ⟨_, rfl, ?_⟩; have HO334 := mkA (Kd.R_lower (Kd.R_new' ho0 (Kd.R_lt (r_ HO331.out))) (below_size (bs0_ HB.out))); replace HO331 := mkA (Kd.R_elder' (r_ HO331.out) (Kd.R_base ho0) hb); replace HB := mkA (below_step (bs0_ HB.out) hb); (try clear hb); (try clear hb2); (try clear hk); (try clear hi); (try clear ho0)))
 go_ret
 exact ⟨_, re_, by refine r_ ?_; exact Kd.R_mono HO334.out (fun _ hk => trivial), bs0_ HB.out⟩
/-! ### spec_l00Has: function 103 -/
def spec_l00Has.l0 : Nat → List Int → Int → Int → Option (Bool)
  | 0, _, _, _ => none
  | k + 1, x0, x1, x5 => if x5 < (x0.length : Int) then (if 0 ≤ x5 then (if (rd x0 x5) = x1 then (some true) else (spec_l00Has.l0 k x0 x1 (wrap64 (x5 + 1)))) else (none)) else (some false)
def spec_l00Has.f (k : Nat) (l0 : List Int) (a1 : Int) : Option (Bool) := spec_l00Has.l0 k l0 a1 0
set_option maxHeartbeats 8000000 in
set_option maxRecDepth 100000 in
theorem spec_l00Has.calls (k : Nat) (A0 : Option Addr) (c0 : Nat) (l0 : List Int) (a1 : Int) (r : Bool) (w : World) (hr0 : Kd.C (Kd.int .i64) w A0 l0.length l0) (hc0 : l0.length ≤ c0) (h : spec_l00Has.f k l0 a1 = some r) :
 Calls Try.prog 103 #[.slice A0 l0.length c0, .int .i64 a1] w fun e w' => e = .returned (.bool r) ∧ Drawn0 w w' := by
 have HR0 := mkA hr0
 have HC0 := mkA hc0
 clear hr0 hc0
 unfold spec_l00Has.f at h
 have H := h
 clear h
 have H' := mkA H
 clear H
 go_enter Try.func103, Try.ntmps103
 go_wp2
 go_loopg [5] k (fun kq v5 w' => ∃ (x5_1 : Int), v5 = .int .i64 x5_1 ∧ Aside0 (spec_l00Has.l0 kq l0 a1 x5_1 = some r) ∧ Aside0 (kq ≤ k) ∧ Drawn0 w w')
 case atStart => exact ⟨(0), rf_, H', ⟨Nat.le_refl _⟩, by repeat (first | exact Drawn0.refl _ | apply Drawn0.step)⟩
 case round =>
  clear H'
  obtain ⟨x5_1, rfl, HA, HK1, ⟨m1, rfl⟩⟩ := hrel
  cases gk with
  | zero => exact absurd HA.out (by simp [spec_l00Has.l0])
  | succ k1 =>
   have H := HA.out
   clear HA
   simp only [spec_l00Has.l0] at H
   by_cases c3 : x5_1 < (l0.length : Int)
   rotate_left
   · rw [if_neg c3] at H
     have c3b0 := decide_eq_false c3
     clear c3
     obtain rfl := Option.some.inj H
     go_wp2
     go_ret
     exact ⟨by first | rfl | (simp; done) | (simp [*]; done) | (simp [i64_w, i32_w]; done), by repeat (first | exact Drawn0.refl _ | apply Drawn0.step)⟩
   rw [if_pos c3] at H
   have c3b0 := decide_eq_true c3
   clear c3
   revert H
   refine ng_ fun c4 => ?_
   intro H
   have c4b0 := decide_eq_true c4
   clear c4
   by_cases c5 : (rd l0 x5_1) = a1
   · rw [if_pos c5] at H
     have c5b0 : ((rd l0 x5_1) == a1) = true := beq_iff_eq.mpr c5
     have c5b1 : ((rd l0 x5_1) != a1) = false := bne_eq_false_iff_eq.mpr c5
     clear c5
     obtain rfl := Option.some.inj H
     obtain ⟨ad335, e335, hx335_0⟩ := Kd.at_int HR0.out x5_1 dt_ dt_
     cases e335
     have p335 : (0 ≤ (x5_1 : Int)) = True := eq_true dt_
     have q335 : (x5_1 < (l0.length : Int)) = True := eq_true dt_
     go_wp2
     go_ret
     exact ⟨by first | rfl | (simp; done) | (simp [*]; done) | (simp [i64_w, i32_w]; done), by repeat (first | exact Drawn0.refl _ | apply Drawn0.step)⟩
   · rw [if_neg c5] at H
     have c5b0 : ((rd l0 x5_1) == a1) = false := beq_eq_false_iff_ne.mpr c5
     have c5b1 : ((rd l0 x5_1) != a1) = true := bne_iff_ne.mpr c5
     have H' := mkA H
     clear H
     obtain ⟨ad335, e335, hx335_0⟩ := Kd.at_int HR0.out x5_1 dt_ dt_
     cases e335
     have p335 : (0 ≤ (x5_1 : Int)) = True := eq_true dt_
     have q335 : (x5_1 < (l0.length : Int)) = True := eq_true dt_
     go_wp2
     go_roundg k1
     case measure => have := HK1.out; omega
     case rel => exact ⟨(wrap64 (x5_1 + 1)), rf_, H', ⟨om_ HK1.out⟩, by repeat (first | exact Drawn0.refl _ | apply Drawn0.step)⟩
end Go.Proofs.Ytakagkflgkoiiaa.GFnExactIsCover

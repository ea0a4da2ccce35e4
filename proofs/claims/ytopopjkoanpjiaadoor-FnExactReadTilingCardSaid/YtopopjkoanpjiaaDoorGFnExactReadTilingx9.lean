-- Written by the session's own program (gen.py) out of the translation's print. Lean checks it.
import Derived.Test.YtopopjkoanpjiaaDoorGFnExactReadTilingx0
import Derived.Test.YtopopjkoanpjiaaDoorGFnExactReadTilingx6
import Derived.Test.YtopopjkoanpjiaaDoorGFnExactReadTilingx8
namespace Go.Proofs.YtopopjkoanpjiaaDoor.GFnExactReadTiling
open Go.RowKit Go.Proofs.YtopopjkoanpjiaaDoorW.PrintWords Go.Proofs.YtopopjkoanpjiaaDoorW.PrintLast Go.Proofs.YtopopjkoanpjiaaDoorW.PrintMore
attribute [local go_sem] max2_int min2_int max_two min_two max_three min_three max_four min_four   -- for this text's walks alone
set_option linter.unusedVariables false
set_option linter.unusedSimpArgs false

/-! ### impl_Decimal: function 37 -/
def impl_Decimal.f (a0 : Int) (l1 : List (Unit)) : Option (ByteArray) := (Go.Proofs.YtopopjkoanpjiaaDoorX.strconv_FormatInt.f a0 10 l1).bind fun t254 => (some t254)
set_option maxHeartbeats 8000000 in
set_option maxRecDepth 100000 in
theorem impl_Decimal.calls (a0 : Int) (l1 : List (Unit)) (r : ByteArray) (w : World) (hr1 : Kd.C Go.Proofs.YtopopjkoanpjiaaDoorX.kLib w (some ⟨0, 0, none⟩) l1.length l1) (h : impl_Decimal.f a0 l1 = some r) :
    Calls Tryd.prog 37 #[.int .i64 a0] w fun e w' => e = .returned (.string r) ∧ Below w.heap.size w w' := by
  have HR1 := Aside0.mk hr1
  clear hr1
  have HB := Aside0.mk (Below.refl w.heap.size w)
  have H : ((Go.Proofs.YtopopjkoanpjiaaDoorX.strconv_FormatInt.f a0 10 l1).bind fun t254 => (some t254)) = some r := h
  clear h
  replace H := Option.bind_eq_some_iff.mp H
  obtain ⟨t254, A30, H⟩ := H
  replace H : (some t254) = some r := H
  have A3 := Aside0.mk A30
  clear A30
  obtain rfl := Option.some.inj H
  go_enter Tryd.func37, Tryd.ntmps37
  go_wp2_with (first | ((with_reducible refine gate_callee (f := 51) rfl ?_); refine goesL_ (some 4) rfl rfl Tryd.func51 (by kernel_rfl) rfl #[.int .i64 a0, .int .i64 10] rfl (by (try simp only [List.map_toArray, List.map_cons, List.map_nil]); first | done | rfl | (simp only [List.length_drop, List.length_take]; rfl)) ?_; (with_reducible refine (Go.Proofs.YtopopjkoanpjiaaDoorX.strconv_FormatInt.calls a0 10 l1 t254 _ ?side1 A3.out).mono ?_); (case side1 => repeat (first | exact HR1.out | (with_reducible refine Kd.C_alloc ?_ _) | (with_reducible refine Kd.C_drewN ?_ _) | (with_reducible refine Kd.C_drew ?_))); rintro e w4 ⟨rfl, hb⟩; refine ⟨_, rfl, ?_⟩; have n0_ := Aside0.mk (below_step (by repeat (first | (with_reducible first | exact HB.out | apply below_alloc | apply pw_below_drewN | apply below_drew1) | exact HB.out)) hb); clear HB; have HB := n0_; clear n0_; (try clear hb); (try clear hb2); (try clear hk); (try clear hi)))
  go_ret
  exact ⟨by first | rfl | (simp [errW_none, errW_some] <;> rfl) | (simp [*, errW_none, errW_some] <;> rfl), by repeat (first | (with_reducible first | exact HB.out | apply below_alloc | apply pw_below_drewN | apply below_drew1) | exact HB.out)⟩

/-! ### impl_ReadDecimal: function 44 -/
mutual
def impl_ReadDecimal.j0 : Nat → ByteArray → ByteArray → List (Unit) → Option (Int × Bool)
  | 0, _, _, _ => none
  | k + 1, x0, x4, x961 => if (x4.size : Int) < 1 then (impl_ReadDecimal.j1 k x0 x4 true x961) else (impl_ReadDecimal.j1 k x0 x4 (decide ((x4.size : Int) > 18)) x961)
def impl_ReadDecimal.j1 : Nat → ByteArray → ByteArray → Bool → List (Unit) → Option (Int × Bool)
  | 0, _, _, _, _ => none
  | k + 1, x0, x4, x19, x961 => if x19 = true then (some (0, false)) else (impl_ReadDecimal.l0 k x0 x4 0 0 x961)
def impl_ReadDecimal.l0 : Nat → ByteArray → ByteArray → Int → Int → List (Unit) → Option (Int × Bool)
  | 0, _, _, _, _, _ => none
  | k + 1, x0, x4, x5, x6, x961 => if x6 < (x4.size : Int) then (if 0 ≤ x6 then (if (bt x4 x6) < 48 then (some (0, false)) else (if (bt x4 x6) > 57 then (some (0, false)) else (impl_ReadDecimal.l0 k x0 x4 (wrap64 ((wrap64 (x5 * 10)) + (((bt x4 x6) - 48) % 256))) (wrap64 (x6 + 1)) x961))) else (none)) else (if (x4.size : Int) < (x0.size : Int) then ((impl_Decimal.f (wrap64 (-x5)) x961).bind fun t256 => (if t256.toList = x0.toList then (some (wrap64 (-x5), true)) else (some (0, false)))) else ((impl_Decimal.f x5 x961).bind fun t257 => (if t257.toList = x0.toList then (some (x5, true)) else (some (0, false)))))
end
def impl_ReadDecimal.f (k : Nat) (a0 : ByteArray) (l1 : List (Unit)) : Option (Int × Bool) := (Go.Proofs.YtopopjkoanpjiaaDoorX.strings_HasPrefix.f a0 (⟨#[45]⟩ : ByteArray)).bind fun t255 => (if t255 = true then (if 1 ≤ (a0.size : Int) then (impl_ReadDecimal.j0 k a0 (a0.extract 1 a0.size) l1) else (none)) else (impl_ReadDecimal.j0 k a0 a0 l1))
theorem impl_ReadDecimal.mono_l : ∀ k, (∀ y0 y1 y2, LeO (impl_ReadDecimal.j0 k y0 y1 y2) (impl_ReadDecimal.j0 (k + 1) y0 y1 y2)) ∧ (∀ y0 y1 y2 y3, LeO (impl_ReadDecimal.j1 k y0 y1 y2 y3) (impl_ReadDecimal.j1 (k + 1) y0 y1 y2 y3)) ∧ (∀ y0 y1 y2 y3 y4, LeO (impl_ReadDecimal.l0 k y0 y1 y2 y3 y4) (impl_ReadDecimal.l0 (k + 1) y0 y1 y2 y3 y4))
  | 0 => ⟨fun _ _ _ r h => by simp [impl_ReadDecimal.j0] at h, fun _ _ _ _ r h => by simp [impl_ReadDecimal.j1] at h, fun _ _ _ _ _ r h => by simp [impl_ReadDecimal.l0] at h⟩
  | k + 1 => by
    obtain ⟨ih0, ih1, ih2⟩ := impl_ReadDecimal.mono_l k
    refine ⟨?_, ?_, ?_⟩
    · intro y0 y1 y2
      unfold impl_ReadDecimal.j0
      repeat' first
      | (with_reducible exact ih0 _ _ _)
      | (with_reducible exact ih1 _ _ _ _)
      | (with_reducible exact ih2 _ _ _ _ _)
      | (with_reducible exact LeO.refl _)
      | (with_reducible exact LeO.none _)
      | (with_reducible refine LeO.ite ?_ ?_)
      | (with_reducible refine LeO.bind ?_ (fun _ => ?_))
      | exact ih0 _ _ _
      | exact ih1 _ _ _ _
      | exact ih2 _ _ _ _ _
      | exact LeO.none _
      | refine LeO.ite ?_ ?_
      | refine LeO.bind ?_ (fun _ => ?_)
    · intro y0 y1 y2 y3
      unfold impl_ReadDecimal.j1
      repeat' first
      | (with_reducible exact ih0 _ _ _)
      | (with_reducible exact ih1 _ _ _ _)
      | (with_reducible exact ih2 _ _ _ _ _)
      | (with_reducible exact LeO.refl _)
      | (with_reducible exact LeO.none _)
      | (with_reducible refine LeO.ite ?_ ?_)
      | (with_reducible refine LeO.bind ?_ (fun _ => ?_))
      | exact ih0 _ _ _
      | exact ih1 _ _ _ _
      | exact ih2 _ _ _ _ _
      | exact LeO.none _
      | refine LeO.ite ?_ ?_
      | refine LeO.bind ?_ (fun _ => ?_)
    · intro y0 y1 y2 y3 y4
      unfold impl_ReadDecimal.l0
      repeat' first
      | (with_reducible exact ih0 _ _ _)
      | (with_reducible exact ih1 _ _ _ _)
      | (with_reducible exact ih2 _ _ _ _ _)
      | (with_reducible exact LeO.refl _)
      | (with_reducible exact LeO.none _)
      | (with_reducible refine LeO.ite ?_ ?_)
      | (with_reducible refine LeO.bind ?_ (fun _ => ?_))
      | exact ih0 _ _ _
      | exact ih1 _ _ _ _
      | exact ih2 _ _ _ _ _
      | exact LeO.none _
      | refine LeO.ite ?_ ?_
      | refine LeO.bind ?_ (fun _ => ?_)
theorem impl_ReadDecimal.mono : ∀ a0 a1 k, LeO (impl_ReadDecimal.f k a0 a1) (impl_ReadDecimal.f (k + 1) a0 a1) := by
  intro a0 a1 k
  obtain ⟨ih0, ih1, ih2⟩ := impl_ReadDecimal.mono_l k
  unfold impl_ReadDecimal.f
  repeat' first
      | (with_reducible exact ih0 _ _ _)
      | (with_reducible exact ih1 _ _ _ _)
      | (with_reducible exact ih2 _ _ _ _ _)
      | (with_reducible exact LeO.refl _)
      | (with_reducible exact LeO.none _)
      | (with_reducible refine LeO.ite ?_ ?_)
      | (with_reducible refine LeO.bind ?_ (fun _ => ?_))
      | exact ih0 _ _ _
      | exact ih1 _ _ _ _
      | exact ih2 _ _ _ _ _
      | exact LeO.none _
      | refine LeO.ite ?_ ?_
      | refine LeO.bind ?_ (fun _ => ?_)
open List renaming setIfInBounds_toArray → sA, set_cons_zero → sB, set_cons_succ → sC
open Go.Proofs.YtopopjkoanpjiaaDoorW.PrintWords.Aside0 renaming mk → mkA
open Go.Proofs.YtopopjkoanpjiaaDoorX (dt_ bc_ p0_ p1_ bl_ cb_ bs0_ bs1_ bs2_ bs3_ bs4_ bs5_ bs6_ bs7_ bs8_ bs9_ bs10_ bs11_ bs12_)
set_option maxHeartbeats 8000000 in
set_option maxRecDepth 100000 in
theorem impl_ReadDecimal.calls (k : Nat) (a0 : ByteArray) (l1 : List (Unit)) (r1 : Int) (r2 : Bool) (w : World) (hr1 : Kd.C Go.Proofs.YtopopjkoanpjiaaDoorX.kLib w (some ⟨0, 0, none⟩) l1.length l1) (h : impl_ReadDecimal.f k a0 l1 = some (r1, r2)) :
 Calls Tryd.prog 44 #[.string a0] w fun e w' => e = .returned (.tuple #[.int .i64 r1, .bool r2]) ∧ Below w.heap.size w w' := by
 have HR1 := mkA hr1
 clear hr1
 have HB := mkA (Below.refl w.heap.size w)
 have H : ((Go.Proofs.YtopopjkoanpjiaaDoorX.strings_HasPrefix.f a0 (⟨#[45]⟩ : ByteArray)).bind fun t255 => (if t255 = true then (if 1 ≤ (a0.size : Int) then (impl_ReadDecimal.j0 k a0 (a0.extract 1 a0.size) l1) else (none)) else (impl_ReadDecimal.j0 k a0 a0 l1))) = some (r1, r2) := h
 clear h
 replace H := Option.bind_eq_some_iff.mp H
 obtain ⟨t255, A30, H⟩ := H
 replace H : (if t255 = true then (if 1 ≤ (a0.size : Int) then (impl_ReadDecimal.j0 k a0 (a0.extract 1 a0.size) l1) else (none)) else (impl_ReadDecimal.j0 k a0 a0 l1)) = some (r1, r2) := H
 have A3 := mkA A30
 clear A30
 have HC4 := mkA H
 clear H
 go_enter Tryd.func44, Tryd.ntmps44
 go_upto_if 9 with (first | ((with_reducible refine gate_callee (f := 58) rfl ?_); refine goesL_ (some 9) rfl rfl Tryd.func58 (by kernel_rfl) rfl #[.string a0, .string (⟨#[45]⟩ : ByteArray)] rfl (by (try simp only [List.map_toArray, List.map_cons, List.map_nil]); first | done | rfl | (simp only [List.length_drop, List.length_take]; rfl)) ?_; (with_reducible refine (Go.Proofs.YtopopjkoanpjiaaDoorX.strings_HasPrefix.calls a0 (⟨#[45]⟩ : ByteArray) t255 _ A3.out).mono ?_); rintro e w' ⟨rfl, ⟨nd, rfl⟩⟩; refine ⟨_, rfl, ?_⟩))
 (try simp only [Act.put, sA, sB, sC])
 go_cut [4] (fun v4 wc => ∃ (kq : Nat) (x4_3 : ByteArray), v4 = .string x4_3 ∧ Aside0 (impl_ReadDecimal.j0 kq a0 x4_3 l1 = some (r1, r2)) ∧ Aside0 (kq ≤ k) ∧ Aside0 (Below w.heap.size w wc))
 case first =>
  have H := HC4.out
  clear HC4
  by_cases c5 : t255 = true
  rotate_left
  · replace c5 := Bool.eq_false_iff.mpr c5
    subst c5
    have H1 : (impl_ReadDecimal.j0 k a0 a0 l1) = some (r1, r2) := by rw [if_neg (show ¬ (false = true) by decide)] at H; exact H
    clear H
    have H := H1
    clear H1
    have H' := mkA H
    clear H
    go_wp2
    go_meet
    case rel => exact ⟨_, (a0), (by first | rfl | (simp; done) | (simp [*]; done) | (simp [i64_w, i32_w]; done)), H', ⟨by first | omega | exact Nat.le_refl _⟩, ⟨by repeat (first | (with_reducible first | exact HB.out | apply below_alloc | apply pw_below_drewN | apply below_drew1) | exact HB.out)⟩⟩
  subst c5
  have H1 : (if 1 ≤ (a0.size : Int) then (impl_ReadDecimal.j0 k a0 (a0.extract 1 a0.size) l1) else (none)) = some (r1, r2) := by rw [if_pos rfl] at H; exact H
  clear H
  have H := H1
  clear H1
  by_cases c6 : 1 ≤ (a0.size : Int)
  rotate_left
  · rw [if_neg c6] at H
    exact absurd H (by simp)
  rw [if_pos c6] at H
  have c6b0 := eq_true c6
  have c6b1 : decide (1 ≤ (a0.size : Int)) = true := decide_eq_true c6
  clear c6
  have H' := mkA H
  clear H
  go_wp2
  go_meet
  case rel => exact ⟨_, (a0.extract 1 a0.size), (by first | rfl | (simp; done) | (simp [*]; done) | (simp [i64_w, i32_w]; done)), H', ⟨by first | omega | exact Nat.le_refl _⟩, ⟨by repeat (first | (with_reducible first | exact HB.out | apply below_alloc | apply pw_below_drewN | apply below_drew1) | exact HB.out)⟩⟩
 case rest =>
  clear HC4
  try clear p2
  try clear c4
  try clear c5
  try clear c6
  try clear c6b0
  try clear c6b1
  obtain ⟨kq, x4_3, rfl, HA, HJ3, HB⟩ := hcut
  cases kq with
  | zero => exact absurd HA.out (by simp [impl_ReadDecimal.j0])
  | succ kj3 =>
   have H := HA.out
   clear HA
   simp only [impl_ReadDecimal.j0] at H
   have HC7 := mkA H
   clear H
   go_upto_region 4 with (fail)
   go_cut [19] (fun v19 wc => ∃ (kq : Nat) (x19_6 : Bool), v19 = .bool x19_6 ∧ Aside0 (impl_ReadDecimal.j1 kq a0 x4_3 x19_6 l1 = some (r1, r2)) ∧ Aside0 (kq ≤ kj3) ∧ Aside0 (Below w.heap.size w wc))
   case first =>
    have H := HC7.out
    clear HC7
    by_cases c8 : (x4_3.size : Int) < 1
    · rw [if_pos c8] at H
      have c8b0 : decide ((x4_3.size : Int) < 1) = true := decide_eq_true c8
      have c8b1 : decide (x4_3.size < 1) = true := decide_eq_true (by omega)
      clear c8
      (first | rw [c8b0] | (simp only [i64_w, i32_w]; rw [c8b0]) | skip)
      have H' := mkA H
      clear H
      go_wp2
      go_meet
      case rel => exact ⟨_, (true), (by first | rfl | (simp; done) | (simp [*]; done) | (simp [i64_w, i32_w]; done)), H', ⟨by have := HJ3.out; first | omega | exact Nat.le_refl _⟩, ⟨by repeat (first | (with_reducible first | exact HB.out | apply below_alloc | apply pw_below_drewN | apply below_drew1) | exact HB.out)⟩⟩
    · rw [if_neg c8] at H
      have c8b0 : decide ((x4_3.size : Int) < 1) = false := decide_eq_false c8
      have c8b1 : decide (x4_3.size < 1) = false := decide_eq_false (by omega)
      clear c8
      (first | rw [c8b0] | (simp only [i64_w, i32_w]; rw [c8b0]) | skip)
      have H' := mkA H
      clear H
      go_wp2
      go_meet
      case rel => exact ⟨_, (decide ((x4_3.size : Int) > 18)), (by first | rfl | (simp; done) | (simp [*]; done) | (simp [i64_w, i32_w]; done)), H', ⟨by have := HJ3.out; first | omega | exact Nat.le_refl _⟩, ⟨by repeat (first | (with_reducible first | exact HB.out | apply below_alloc | apply pw_below_drewN | apply below_drew1) | exact HB.out)⟩⟩
   case rest =>
    clear HC7
    try clear p2
    try clear c4
    try clear c5
    try clear c6
    try clear c6b0
    try clear c6b1
    try clear c8
    try clear c8b0
    try clear c8b1
    try clear p2
    obtain ⟨kq, x19_6, rfl, HA, HJ6, HB⟩ := hcut
    cases kq with
    | zero => exact absurd HA.out (by simp [impl_ReadDecimal.j1])
    | succ kj6 =>
     have H := HA.out
     clear HA
     simp only [impl_ReadDecimal.j1] at H
     by_cases c9 : x19_6 = true
     · subst c9
       have H1 : (some (0, false)) = some (r1, r2) := by rw [if_pos rfl] at H; exact H
       clear H
       have H := H1
       clear H1
       simp only [Option.some.injEq, Prod.mk.injEq] at H
       obtain ⟨rfl, rfl⟩ := H
       go_wp2
       go_ret2
       exact ⟨by first | rfl | (simp [errW_none, errW_some] <;> rfl) | (simp [*, errW_none, errW_some] <;> rfl), by repeat (first | (with_reducible first | exact HB.out | apply below_alloc | apply pw_below_drewN | apply below_drew1) | exact HB.out)⟩
     · replace c9 := Bool.eq_false_iff.mpr c9
       subst c9
       have H1 : (impl_ReadDecimal.l0 kj6 a0 x4_3 0 0 l1) = some (r1, r2) := by rw [if_neg (show ¬ (false = true) by decide)] at H; exact H
       clear H
       have H := H1
       clear H1
       have H' := mkA H
       clear H
       go_wp2
       go_loopg [5, 6] kj6 (fun kq v5 v6 w' => ∃ (x5_3 : Int) (x6_3 : Int), v5 = .int .i64 x5_3 ∧ v6 = .int .i64 x6_3 ∧ Aside0 (impl_ReadDecimal.l0 kq a0 x4_3 x5_3 x6_3 l1 = some (r1, r2)) ∧ Aside0 (kq ≤ kj6) ∧ Aside0 (Below w.heap.size w w'))
       case atStart => exact ⟨(0), (0), (by first | rfl | (simp; done) | (simp [*]; done) | (simp [i64_w, i32_w]; done)), (by first | rfl | (simp; done) | (simp [*]; done) | (simp [i64_w, i32_w]; done)), H', ⟨Nat.le_refl _⟩, ⟨by repeat (first | (with_reducible first | exact HB.out | apply below_alloc | apply pw_below_drewN | apply below_drew1) | exact HB.out)⟩⟩
       case round =>
        clear H'
        try clear p2
        try clear c4
        try clear c5
        try clear c6
        try clear c6b0
        try clear c6b1
        try clear c8
        try clear c8b0
        try clear c8b1
        try clear c9
        try clear p2
        obtain ⟨x5_3, x6_3, rfl, rfl, HA, HK3, HB⟩ := hrel
        cases gk with
        | zero => exact absurd HA.out (by simp [impl_ReadDecimal.l0])
        | succ k3 =>
         have H := HA.out
         clear HA
         simp only [impl_ReadDecimal.l0] at H
         by_cases c10 : x6_3 < (x4_3.size : Int)
         rotate_left
         · rw [if_neg c10] at H
           have c10b0 : decide (x6_3 < (x4_3.size : Int)) = false := decide_eq_false c10
           clear c10
           by_cases c17 : (x4_3.size : Int) < (a0.size : Int)
           · rw [if_pos c17] at H
             have c17b0 : decide ((x4_3.size : Int) < (a0.size : Int)) = true := decide_eq_true c17
             have c17b1 : decide (x4_3.size < a0.size) = true := decide_eq_true (Int.ofNat_lt.mp c17)
             clear c17
             replace H := Option.bind_eq_some_iff.mp H
             obtain ⟨t256, A180, H⟩ := H
             replace H : (if t256.toList = a0.toList then (some (wrap64 (-x5_3), true)) else (some (0, false))) = some (r1, r2) := H
             have A18 := mkA A180
             clear A180
             by_cases c19 : t256.toList = a0.toList
             rotate_left
             · rw [if_neg c19] at H
               have c19b0 : (t256.toList == a0.toList) = false := beq_eq_false_iff_ne.mpr c19
               have c19b1 : (t256.toList != a0.toList) = true := bne_iff_ne.mpr c19
               simp only [Option.some.injEq, Prod.mk.injEq] at H
               obtain ⟨rfl, rfl⟩ := H
               go_wp2_with (first | ((with_reducible refine gate_callee (f := 37) rfl ?_); refine goesL_ (some 52) rfl rfl Tryd.func37 (by kernel_rfl) rfl #[.int .i64 (wrap64 (-x5_3))] rfl (by (try simp only [List.map_toArray, List.map_cons, List.map_nil]); first | done | rfl | (simp only [List.length_drop, List.length_take]; rfl)) ?_; (with_reducible refine (impl_Decimal.calls (wrap64 (-x5_3)) l1 t256 _ ?side1 A18.out).mono ?_); (case side1 => exact cb_ HR1.out HB.out); rintro e w21 ⟨rfl, hb⟩; refine ⟨_, rfl, ?_⟩; have n0_ := mkA (below_step (bs0_ HB.out) hb); clear HB; have HB := n0_; clear n0_; (try clear hb); (try clear hb2); (try clear hk); (try clear hi)))
               go_ret2
               exact ⟨by first | rfl | (simp [errW_none, errW_some] <;> rfl) | (simp [*, errW_none, errW_some] <;> rfl), by repeat (first | (with_reducible first | exact HB.out | apply below_alloc | apply pw_below_drewN | apply below_drew1) | exact HB.out)⟩
             rw [if_pos c19] at H
             have c19b0 : (t256.toList == a0.toList) = true := beq_iff_eq.mpr c19
             have c19b1 : (t256.toList != a0.toList) = false := bne_eq_false_iff_eq.mpr c19
             clear c19
             simp only [Option.some.injEq, Prod.mk.injEq] at H
             obtain ⟨rfl, rfl⟩ := H
             go_wp2_with (first | ((with_reducible refine gate_callee (f := 37) rfl ?_); refine goesL_ (some 52) rfl rfl Tryd.func37 (by kernel_rfl) rfl #[.int .i64 (wrap64 (-x5_3))] rfl (by (try simp only [List.map_toArray, List.map_cons, List.map_nil]); first | done | rfl | (simp only [List.length_drop, List.length_take]; rfl)) ?_; (with_reducible refine (impl_Decimal.calls (wrap64 (-x5_3)) l1 t256 _ ?side1 A18.out).mono ?_); (case side1 => exact cb_ HR1.out HB.out); rintro e w20 ⟨rfl, hb⟩; refine ⟨_, rfl, ?_⟩; have n0_ := mkA (below_step (bs0_ HB.out) hb); clear HB; have HB := n0_; clear n0_; (try clear hb); (try clear hb2); (try clear hk); (try clear hi)))
             go_ret2
             exact ⟨by first | rfl | (simp [errW_none, errW_some] <;> rfl) | (simp [*, errW_none, errW_some] <;> rfl), by repeat (first | (with_reducible first | exact HB.out | apply below_alloc | apply pw_below_drewN | apply below_drew1) | exact HB.out)⟩
           · rw [if_neg c17] at H
             have c17b0 : decide ((x4_3.size : Int) < (a0.size : Int)) = false := decide_eq_false c17
             have c17b1 : decide (x4_3.size < a0.size) = false := decide_eq_false (fun h => c17 (Int.ofNat_lt.mpr h))
             clear c17
             replace H := Option.bind_eq_some_iff.mp H
             obtain ⟨t257, A220, H⟩ := H
             replace H : (if t257.toList = a0.toList then (some (x5_3, true)) else (some (0, false))) = some (r1, r2) := H
             have A22 := mkA A220
             clear A220
             by_cases c23 : t257.toList = a0.toList
             · rw [if_pos c23] at H
               have c23b0 : (t257.toList == a0.toList) = true := beq_iff_eq.mpr c23
               have c23b1 : (t257.toList != a0.toList) = false := bne_eq_false_iff_eq.mpr c23
               clear c23
               simp only [Option.some.injEq, Prod.mk.injEq] at H
               obtain ⟨rfl, rfl⟩ := H
               go_wp2_with (first | ((with_reducible refine gate_callee (f := 37) rfl ?_); refine goesL_ (some 52) rfl rfl Tryd.func37 (by kernel_rfl) rfl #[.int .i64 x5_3] rfl (by (try simp only [List.map_toArray, List.map_cons, List.map_nil]); first | done | rfl | (simp only [List.length_drop, List.length_take]; rfl)) ?_; (with_reducible refine (impl_Decimal.calls x5_3 l1 t257 _ ?side1 A22.out).mono ?_); (case side1 => exact cb_ HR1.out HB.out); rintro e w24 ⟨rfl, hb⟩; refine ⟨_, rfl, ?_⟩; have n0_ := mkA (below_step (bs0_ HB.out) hb); clear HB; have HB := n0_; clear n0_; (try clear hb); (try clear hb2); (try clear hk); (try clear hi)))
               go_ret2
               exact ⟨by first | rfl | (simp [errW_none, errW_some] <;> rfl) | (simp [*, errW_none, errW_some] <;> rfl), by repeat (first | (with_reducible first | exact HB.out | apply below_alloc | apply pw_below_drewN | apply below_drew1) | exact HB.out)⟩
             · rw [if_neg c23] at H
               have c23b0 : (t257.toList == a0.toList) = false := beq_eq_false_iff_ne.mpr c23
               have c23b1 : (t257.toList != a0.toList) = true := bne_iff_ne.mpr c23
               simp only [Option.some.injEq, Prod.mk.injEq] at H
               obtain ⟨rfl, rfl⟩ := H
               go_wp2_with (first | ((with_reducible refine gate_callee (f := 37) rfl ?_); refine goesL_ (some 52) rfl rfl Tryd.func37 (by kernel_rfl) rfl #[.int .i64 x5_3] rfl (by (try simp only [List.map_toArray, List.map_cons, List.map_nil]); first | done | rfl | (simp only [List.length_drop, List.length_take]; rfl)) ?_; (with_reducible refine (impl_Decimal.calls x5_3 l1 t257 _ ?side1 A22.out).mono ?_); (case side1 => exact cb_ HR1.out HB.out); rintro e w25 ⟨rfl, hb⟩; refine ⟨_, rfl, ?_⟩; have n0_ := mkA (below_step (bs0_ HB.out) hb); clear HB; have HB := n0_; clear n0_; (try clear hb); (try clear hb2); (try clear hk); (try clear hi)))
               go_ret2
               exact ⟨by first | rfl | (simp [errW_none, errW_some] <;> rfl) | (simp [*, errW_none, errW_some] <;> rfl), by repeat (first | (with_reducible first | exact HB.out | apply below_alloc | apply pw_below_drewN | apply below_drew1) | exact HB.out)⟩

         rw [if_pos c10] at H
         have c10b0 : decide (x6_3 < (x4_3.size : Int)) = true := decide_eq_true c10
         clear c10
         by_cases c11 : 0 ≤ x6_3
         rotate_left
         · rw [if_neg c11] at H
           exact absurd H (by simp)
         rw [if_pos c11] at H
         have c11b0 : decide (0 ≤ x6_3) = true := decide_eq_true c11
         clear c11
         by_cases c13 : (bt x4_3 x6_3) < 48
         · rw [if_pos c13] at H
           have c13b0 : decide ((bt x4_3 x6_3) < 48) = true := decide_eq_true c13
           clear c13
           simp only [Option.some.injEq, Prod.mk.injEq] at H
           obtain ⟨rfl, rfl⟩ := H
           have p12 : 0 ≤ (x6_3 : Int) := dt_
           have q12 : x6_3 < (x4_3.size : Int) := dt_
           have hx12 := bt_at x4_3 x6_3
           replace p12 := eq_true p12
           replace q12 := eq_true q12
           go_wp2
           go_ret2
           exact ⟨by first | rfl | (simp [errW_none, errW_some] <;> rfl) | (simp [*, errW_none, errW_some] <;> rfl), by repeat (first | (with_reducible first | exact HB.out | apply below_alloc | apply pw_below_drewN | apply below_drew1) | exact HB.out)⟩
         · rw [if_neg c13] at H
           have c13b0 : decide ((bt x4_3 x6_3) < 48) = false := decide_eq_false c13
           clear c13
           by_cases c15 : (bt x4_3 x6_3) > 57
           · rw [if_pos c15] at H
             have c15b0 : decide (57 < (bt x4_3 x6_3)) = true := decide_eq_true c15
             clear c15
             simp only [Option.some.injEq, Prod.mk.injEq] at H
             obtain ⟨rfl, rfl⟩ := H
             have p12 : 0 ≤ (x6_3 : Int) := dt_
             have q12 : x6_3 < (x4_3.size : Int) := dt_
             have hx12 := bt_at x4_3 x6_3
             replace p12 := eq_true p12
             replace q12 := eq_true q12
             have p14 : 0 ≤ (x6_3 : Int) := dt_
             have q14 : x6_3 < (x4_3.size : Int) := dt_
             have hx14 := bt_at x4_3 x6_3
             replace p14 := eq_true p14
             replace q14 := eq_true q14
             go_wp2
             go_ret2
             exact ⟨by first | rfl | (simp [errW_none, errW_some] <;> rfl) | (simp [*, errW_none, errW_some] <;> rfl), by repeat (first | (with_reducible first | exact HB.out | apply below_alloc | apply pw_below_drewN | apply below_drew1) | exact HB.out)⟩
           · rw [if_neg c15] at H
             have c15b0 : decide (57 < (bt x4_3 x6_3)) = false := decide_eq_false c15
             clear c15
             have H' := mkA H
             clear H
             have p12 : 0 ≤ (x6_3 : Int) := dt_
             have q12 : x6_3 < (x4_3.size : Int) := dt_
             have hx12 := bt_at x4_3 x6_3
             replace p12 := eq_true p12
             replace q12 := eq_true q12
             have p14 : 0 ≤ (x6_3 : Int) := dt_
             have q14 : x6_3 < (x4_3.size : Int) := dt_
             have hx14 := bt_at x4_3 x6_3
             replace p14 := eq_true p14
             replace q14 := eq_true q14
             have p16 : 0 ≤ (x6_3 : Int) := dt_
             have q16 : x6_3 < (x4_3.size : Int) := dt_
             have hx16 := bt_at x4_3 x6_3
             replace p16 := eq_true p16
             replace q16 := eq_true q16
             go_wp2
             go_roundg k3
             case measure => have := HJ3.out; have := HJ6.out; have := HK3.out; omega
             case rel => exact ⟨(wrap64 ((wrap64 (x5_3 * 10)) + (((bt x4_3 x6_3) - 48) % 256))), (wrap64 (x6_3 + 1)), (by first | rfl | (simp; done) | (simp [*]; done) | (simp [i64_w, i32_w]; done)), (by first | rfl | (simp; done) | (simp [*]; done) | (simp [i64_w, i32_w]; done)), H', ⟨by have := HJ3.out; have := HJ6.out; have := HK3.out; omega⟩, ⟨by repeat (first | (with_reducible first | exact HB.out | apply below_alloc | apply pw_below_drewN | apply below_drew1) | exact HB.out)⟩⟩
/-! ### impl_ReadList: function 24 -/
def impl_ReadList.l0 : Nat → List Int → List ByteArray → Int → Int → List (Unit) → Option (List Int × Bool)
  | 0, _, _, _, _, _ => none
  | k + 1, x4, x13, x14, x15, x961 => if x15 < x14 then (if 0 ≤ x15 then (if x15 < (x13.length : Int) then ((impl_ReadDecimal.f k (rdOf ByteArray.empty x13 x15) x961).bind fun bt265 => (if bt265.2 = true then ((impl_within.f bt265.1 (-1000000000000) 1000000000000).bind fun t267 => (if t267 = true then (if x4.length < 17592186044416 then (impl_ReadList.l0 k (x4 ++ [bt265.1]) x13 x14 (wrap64 (x15 + 1)) x961) else (none)) else (some (([] : List Int), false)))) else (some (([] : List Int), false)))) else (none)) else (none)) else (if (x4.length : Int) > 64 then (some (([] : List Int), false)) else (some (x4, true)))
def impl_ReadList.f (k : Nat) (a0 : ByteArray) (l1 : List (Unit)) : Option (List Int × Bool) := if a0.toList = ([45] : List UInt8) then (some (([] : List Int), true)) else ((Go.Proofs.YtopopjkoanpjiaaDoorX.strings_Split.f a0 (⟨#[44]⟩ : ByteArray) l1).bind fun t261 => (impl_ReadList.l0 k (([] : List Int)) t261 (t261.length : Int) 0 l1))
theorem impl_ReadList.mono_l : ∀ k, (∀ y0 y1 y2 y3 y4, LeO (impl_ReadList.l0 k y0 y1 y2 y3 y4) (impl_ReadList.l0 (k + 1) y0 y1 y2 y3 y4))
  | 0 => fun _ _ _ _ _ r h => by simp [impl_ReadList.l0] at h
  | k + 1 => by
    have ih0 := impl_ReadList.mono_l k
    · intro y0 y1 y2 y3 y4
      unfold impl_ReadList.l0
      repeat' first
      | (with_reducible exact ih0 _ _ _ _ _)
      | (with_reducible exact impl_ReadDecimal.mono _ _ _)
      | (with_reducible exact LeO.refl _)
      | (with_reducible exact LeO.none _)
      | (with_reducible refine LeO.ite ?_ ?_)
      | (with_reducible refine LeO.bind ?_ (fun _ => ?_))
      | exact ih0 _ _ _ _ _
      | exact impl_ReadDecimal.mono _ _ _
      | exact LeO.none _
      | refine LeO.ite ?_ ?_
      | refine LeO.bind ?_ (fun _ => ?_)
theorem impl_ReadList.mono : ∀ a0 a1 k, LeO (impl_ReadList.f k a0 a1) (impl_ReadList.f (k + 1) a0 a1) := by
  intro a0 a1 k
  have ih0 := impl_ReadList.mono_l k
  unfold impl_ReadList.f
  repeat' first
      | (with_reducible exact ih0 _ _ _ _ _)
      | (with_reducible exact impl_ReadDecimal.mono _ _ _)
      | (with_reducible exact LeO.refl _)
      | (with_reducible exact LeO.none _)
      | (with_reducible refine LeO.ite ?_ ?_)
      | (with_reducible refine LeO.bind ?_ (fun _ => ?_))
      | exact ih0 _ _ _ _ _
      | exact impl_ReadDecimal.mono _ _ _
      | exact LeO.none _
      | refine LeO.ite ?_ ?_
      | refine LeO.bind ?_ (fun _ => ?_)
open List renaming setIfInBounds_toArray → sA, set_cons_zero → sB, set_cons_succ → sC
open Go.Proofs.YtopopjkoanpjiaaDoorW.PrintWords.Aside0 renaming mk → mkA
open Go.Proofs.YtopopjkoanpjiaaDoorX (dt_ bc_ p0_ p1_ bl_ cb_ bs0_ bs1_ bs2_ bs3_ bs4_ bs5_ bs6_ bs7_ bs8_ bs9_ bs10_ bs11_ bs12_)
set_option maxHeartbeats 8000000 in
set_option maxRecDepth 100000 in
theorem impl_ReadList.calls (k : Nat) (a0 : ByteArray) (l1 : List (Unit)) (r1 : List Int) (r2 : Bool) (w : World) (hr1 : Kd.C Go.Proofs.YtopopjkoanpjiaaDoorX.kLib w (some ⟨0, 0, none⟩) l1.length l1) (h : impl_ReadList.f k a0 l1 = some (r1, r2)) :
 Calls Tryd.prog 24 #[.string a0] w fun e w' => ∃ v0_ : Value, e = .returned (.tuple #[v0_, .bool r2]) ∧ Kd.R (Kd.int .i64) 2 w' w.heap.size (fun _ => True) v0_ r1 ∧ Below w.heap.size w w' := by
 have HR1 := mkA hr1
 clear hr1
 have HB := mkA (Below.refl w.heap.size w)
 have H : (if a0.toList = ([45] : List UInt8) then (some (([] : List Int), true)) else ((Go.Proofs.YtopopjkoanpjiaaDoorX.strings_Split.f a0 (⟨#[44]⟩ : ByteArray) l1).bind fun t261 => (impl_ReadList.l0 k (([] : List Int)) t261 (t261.length : Int) 0 l1))) = some (r1, r2) := h
 clear h
 by_cases c3 : a0.toList = ([45] : List UInt8)
 · rw [if_pos c3] at H
   have c3b0 : (a0.toList == ([45] : List UInt8)) = true := beq_iff_eq.mpr c3
   have c3b1 : (a0.toList != ([45] : List UInt8)) = false := bne_eq_false_iff_eq.mpr c3
   clear c3
   simp only [Option.some.injEq, Prod.mk.injEq] at H
   obtain ⟨rfl, rfl⟩ := H
   go_enter Tryd.func24, Tryd.ntmps24
   go_wp2
   go_ret2
   exact ⟨_, by first | rfl | (simp [errW_none, errW_some] <;> rfl) | (simp [*, errW_none, errW_some] <;> rfl), by first | exact Kd.R_nil _ _ _ _ _ | exact Kd.N_nil _ _ _ _ _ | exact Kd.V_nil _ _ _ _ _ | exact Kd.Q_nil _ _ _ _ _ | exact Kd.S_nil _ _ _ _ _, by repeat (first | (with_reducible first | exact HB.out | apply below_alloc | apply pw_below_drewN | apply below_drew1) | exact HB.out)⟩
 · rw [if_neg c3] at H
   have c3b0 : (a0.toList == ([45] : List UInt8)) = false := beq_eq_false_iff_ne.mpr c3
   have c3b1 : (a0.toList != ([45] : List UInt8)) = true := bne_iff_ne.mpr c3
   obtain ⟨y258, hy258⟩ : ∃ y_ : List Int, y_ = (([] : List Int)) := ⟨_, rfl⟩
   replace H : ((Go.Proofs.YtopopjkoanpjiaaDoorX.strings_Split.f a0 (⟨#[44]⟩ : ByteArray) l1).bind fun t261 => (impl_ReadList.l0 k y258 t261 (t261.length : Int) 0 l1)) = some (r1, r2) := by first | (rw [hy258]; with_reducible exact H) | (have H2_ := (Option.bind_some _ _).symm.trans H; rw [hy258]; with_reducible exact H2_) | (have H2_ := (Option.bind_some _ _).symm.trans H; with_reducible exact H2_) | with_reducible exact H | (rw [hy258]; exact H) | exact H
   have Ny258 := mkA hy258
   clear hy258
   replace H := Option.bind_eq_some_iff.mp H
   obtain ⟨t261, A40, H⟩ := H
   replace H : (impl_ReadList.l0 k y258 t261 (t261.length : Int) 0 l1) = some (r1, r2) := H
   have A4 := mkA A40
   clear A40
   have H' := mkA H
   clear H
   go_enter Tryd.func24, Tryd.ntmps24
   go_wp2_with (first | ((with_reducible refine gate_dst (N := 11) rfl ?_); refine Kd.R_lit (Kd.int .i64) _ 2 ?hg (N := 11) ?hd (xs := ([] : List Int)) (inner := []) (ok := fun _ => True) (okp := fun _ => True) ?hr ?hp (fun _ hk => hk) trivial (Below.refl _ _) (Nat.le_refl _) (by simp) ?_; (case hd => rfl); (case hg => rfl); (case hr => first | (go_simp; done) | (go_simp; rfl)); (case hp => exact (Reps.none _ _)); intro v259 w5 ho6 hb hg_ hnew_; clear hg_ hnew_; (first | rw [← Ny258.out] at ho6 | (simp only [Int.reduceToNat] at ho6; rw [← Ny258.out] at ho6)); have n0_ := mkA (Kd.R_lower ho6 (below_size (bs0_ HB.out))); have n1_ := mkA (below_step (bs0_ HB.out) hb); clear HB; have HO260 := n0_; have HB := n1_; clear n0_ n1_; clear hb ho6) | ((with_reducible refine gate_callee (f := 23) rfl ?_); refine goesL_ (some 13) rfl rfl Tryd.func23 (by kernel_rfl) rfl #[.string a0, .string (⟨#[44]⟩ : ByteArray)] rfl (by (try simp only [List.map_toArray, List.map_cons, List.map_nil]); first | done | rfl | (simp only [List.length_drop, List.length_take]; rfl)) ?_; (with_reducible refine (Go.Proofs.YtopopjkoanpjiaaDoorX.strings_Split.calls a0 (⟨#[44]⟩ : ByteArray) l1 t261 _ ?side1 A4.out).mono ?_); (case side1 => exact cb_ HR1.out HB.out); rintro e w7 ⟨v262, rfl, ho0, hb⟩; refine ⟨_, rfl, ?_⟩; have n0_ := mkA (Kd.R_below (by (with_reducible repeat (first | apply Kd.R_alloc | apply Kd.R_drewN | apply Kd.R_drew)); exact HO260.out) hb); have n1_ := mkA (Kd.R_lower ho0 (below_size (bs0_ HB.out))); have n2_ := mkA (below_step (bs0_ HB.out) hb); clear HO260; clear HB; have HO260 := n0_; have HO263 := n1_; have HB := n2_; clear n0_ n1_ n2_; (try clear hb); (try clear hb2); (try clear hk); (try clear hi); (try clear ho0); obtain ⟨Ao8, co8, eo8⟩ := Kd.R_slice HO263.out; subst eo8))
   go_loopg [4, 15] k (fun kq v4 v15 w' => ∃ (x4_1 : List Int) (x15_1 : Int), v15 = .int .i64 x15_1 ∧ Aside0 (impl_ReadList.l0 kq x4_1 t261 (t261.length : Int) x15_1 l1 = some (r1, r2)) ∧ Aside0 (kq ≤ k) ∧ Aside0 (Kd.R (Kd.int .i64) 2 w' w.heap.size (fun _ => True) v4 x4_1) ∧ Aside0 (Kd.R Kd.string 9 w' w.heap.size (fun _ => True) (.slice Ao8 t261.length co8) t261) ∧ Aside0 (Below w.heap.size w w'))
   case atStart => exact ⟨(y258), (0), (by first | rfl | (simp; done) | (simp [*]; done) | (simp [i64_w, i32_w]; done)), H', ⟨Nat.le_refl _⟩, ⟨by (with_reducible repeat (first | apply Kd.R_alloc | apply Kd.R_drewN | apply Kd.R_drew)); exact HO260.out⟩, ⟨by (with_reducible repeat (first | apply Kd.R_alloc | apply Kd.R_drewN | apply Kd.R_drew)); exact HO263.out⟩, ⟨by repeat (first | (with_reducible first | exact HB.out | apply below_alloc | apply pw_below_drewN | apply below_drew1) | exact HB.out)⟩⟩
   case round =>
    clear H'
    try clear c2
    try clear p2
    try clear c3
    try clear c3b0
    try clear c3b1
    obtain ⟨x4_1, x15_1, rfl, HA, HK1, HO_4, HO_13, HB⟩ := hrel
    cases gk with
    | zero => exact absurd HA.out (by simp [impl_ReadList.l0])
    | succ k1 =>
     have H := HA.out
     clear HA
     simp only [impl_ReadList.l0] at H
     by_cases c9 : x15_1 < (t261.length : Int)
     rotate_left
     · rw [if_neg c9] at H
       have c9b0 : decide (x15_1 < (t261.length : Int)) = false := decide_eq_false c9
       clear c9
       by_cases c21 : (x4_1.length : Int) > 64
       · rw [if_pos c21] at H
         have c21b0 : decide (64 < (x4_1.length : Int)) = true := decide_eq_true c21
         have c21b1 : decide (64 < x4_1.length) = true := decide_eq_true (by omega)
         clear c21
         simp only [Option.some.injEq, Prod.mk.injEq] at H
         obtain ⟨rfl, rfl⟩ := H
         obtain ⟨Ao22, co22, eo22⟩ := Kd.R_slice HO_4.out
         subst eo22
         go_wp2
         go_ret2
         exact ⟨_, by first | rfl | (simp [errW_none, errW_some] <;> rfl) | (simp [*, errW_none, errW_some] <;> rfl), by first | exact Kd.R_nil _ _ _ _ _ | exact Kd.N_nil _ _ _ _ _ | exact Kd.V_nil _ _ _ _ _ | exact Kd.Q_nil _ _ _ _ _ | exact Kd.S_nil _ _ _ _ _, by repeat (first | (with_reducible first | exact HB.out | apply below_alloc | apply pw_below_drewN | apply below_drew1) | exact HB.out)⟩
       · rw [if_neg c21] at H
         have c21b0 : decide (64 < (x4_1.length : Int)) = false := decide_eq_false c21
         have c21b1 : decide (64 < x4_1.length) = false := decide_eq_false (by omega)
         clear c21
         simp only [Option.some.injEq, Prod.mk.injEq] at H
         obtain ⟨rfl, rfl⟩ := H
         obtain ⟨Ao23, co23, eo23⟩ := Kd.R_slice HO_4.out
         subst eo23
         go_wp2
         go_ret2
         exact ⟨_, by first | rfl | (simp [errW_none, errW_some] <;> rfl) | (simp [*, errW_none, errW_some] <;> rfl), by (with_reducible repeat (first | apply Kd.R_alloc | apply Kd.R_drewN | apply Kd.R_drew)); exact HO_4.out, by repeat (first | (with_reducible first | exact HB.out | apply below_alloc | apply pw_below_drewN | apply below_drew1) | exact HB.out)⟩

     rw [if_pos c9] at H
     have c9b0 : decide (x15_1 < (t261.length : Int)) = true := decide_eq_true c9
     clear c9
     by_cases c10 : 0 ≤ x15_1
     rotate_left
     · rw [if_neg c10] at H
       exact absurd H (by simp)
     rw [if_pos c10] at H
     have c10b0 : decide (0 ≤ x15_1) = true := decide_eq_true c10
     clear c10
     by_cases c11 : x15_1 < (t261.length : Int)
     rotate_left
     · rw [if_neg c11] at H
       exact absurd H (by simp)
     rw [if_pos c11] at H
     have c11b0 : decide (x15_1 < (t261.length : Int)) = true := decide_eq_true c11
     clear c11
     replace H := Option.bind_eq_some_iff.mp H
     obtain ⟨⟨t265, t266⟩, A120, H⟩ := H
     replace H : (if t266 = true then ((impl_within.f t265 (-1000000000000) 1000000000000).bind fun t267 => (if t267 = true then (if x4_1.length < 17592186044416 then (impl_ReadList.l0 k1 (x4_1 ++ [t265]) t261 (t261.length : Int) (wrap64 (x15_1 + 1)) l1) else (none)) else (some (([] : List Int), false)))) else (some (([] : List Int), false))) = some (r1, r2) := H
     have A12 := mkA A120
     clear A120
     by_cases c13 : t266 = true
     rotate_left
     · replace c13 := Bool.eq_false_iff.mpr c13
       subst c13
       have H1 : (some (([] : List Int), false)) = some (r1, r2) := by rw [if_neg (show ¬ (false = true) by decide)] at H; exact H
       clear H
       have H := H1
       clear H1
       simp only [Option.some.injEq, Prod.mk.injEq] at H
       obtain ⟨rfl, rfl⟩ := H
       have p264 : 0 ≤ (x15_1 : Int) := dt_
       have q264 : x15_1 < (t261.length : Int) := dt_
       obtain ⟨ad264, e264, hx264_0⟩ := Kd.at_string (Kd.R_reads' HO_13.out).2.2 x15_1 p264 q264
       cases e264
       replace p264 := eq_true p264
       replace q264 := eq_true q264
       go_wp2_with (first | ((with_reducible refine gate_callee (f := 44) rfl ?_); refine goesL_ (some 21) rfl rfl Tryd.func44 (by kernel_rfl) rfl #[.string (rdOf ByteArray.empty t261 x15_1)] rfl (by (try simp only [List.map_toArray, List.map_cons, List.map_nil]); first | done | rfl | (simp only [List.length_drop, List.length_take]; rfl)) ?_; (with_reducible refine (impl_ReadDecimal.calls k1 (rdOf ByteArray.empty t261 x15_1) l1 t265 false _ ?side1 A12.out).mono ?_); (case side1 => exact cb_ HR1.out HB.out); rintro e w20 ⟨rfl, hb⟩; refine ⟨_, rfl, ?_⟩; have n0_ := mkA (Kd.R_below (by (with_reducible repeat (first | apply Kd.R_alloc | apply Kd.R_drewN | apply Kd.R_drew)); exact HO_4.out) hb); have n1_ := mkA (Kd.R_below (by (with_reducible repeat (first | apply Kd.R_alloc | apply Kd.R_drewN | apply Kd.R_drew)); exact HO_13.out) hb); have n2_ := mkA (below_step (bs0_ HB.out) hb); clear HO_4; clear HO_13; clear HB; have HO_4 := n0_; have HO_13 := n1_; have HB := n2_; clear n0_ n1_ n2_; (try clear hb); (try clear hb2); (try clear hk); (try clear hi)))
       go_ret2
       exact ⟨_, by first | rfl | (simp [errW_none, errW_some] <;> rfl) | (simp [*, errW_none, errW_some] <;> rfl), by first | exact Kd.R_nil _ _ _ _ _ | exact Kd.N_nil _ _ _ _ _ | exact Kd.V_nil _ _ _ _ _ | exact Kd.Q_nil _ _ _ _ _ | exact Kd.S_nil _ _ _ _ _, by repeat (first | (with_reducible first | exact HB.out | apply below_alloc | apply pw_below_drewN | apply below_drew1) | exact HB.out)⟩
     subst c13
     have H1 : ((impl_within.f t265 (-1000000000000) 1000000000000).bind fun t267 => (if t267 = true then (if x4_1.length < 17592186044416 then (impl_ReadList.l0 k1 (x4_1 ++ [t265]) t261 (t261.length : Int) (wrap64 (x15_1 + 1)) l1) else (none)) else (some (([] : List Int), false)))) = some (r1, r2) := by rw [if_pos rfl] at H; exact H
     clear H
     have H := H1
     clear H1
     replace H := Option.bind_eq_some_iff.mp H
     obtain ⟨t267, A140, H⟩ := H
     replace H : (if t267 = true then (if x4_1.length < 17592186044416 then (impl_ReadList.l0 k1 (x4_1 ++ [t265]) t261 (t261.length : Int) (wrap64 (x15_1 + 1)) l1) else (none)) else (some (([] : List Int), false))) = some (r1, r2) := H
     have A14 := mkA A140
     clear A140
     by_cases c15 : t267 = true
     rotate_left
     · replace c15 := Bool.eq_false_iff.mpr c15
       subst c15
       have H1 : (some (([] : List Int), false)) = some (r1, r2) := by rw [if_neg (show ¬ (false = true) by decide)] at H; exact H
       clear H
       have H := H1
       clear H1
       simp only [Option.some.injEq, Prod.mk.injEq] at H
       obtain ⟨rfl, rfl⟩ := H
       have p264 : 0 ≤ (x15_1 : Int) := dt_
       have q264 : x15_1 < (t261.length : Int) := dt_
       obtain ⟨ad264, e264, hx264_0⟩ := Kd.at_string (Kd.R_reads' HO_13.out).2.2 x15_1 p264 q264
       cases e264
       replace p264 := eq_true p264
       replace q264 := eq_true q264
       go_wp2_with (first | ((with_reducible refine gate_callee (f := 44) rfl ?_); refine goesL_ (some 21) rfl rfl Tryd.func44 (by kernel_rfl) rfl #[.string (rdOf ByteArray.empty t261 x15_1)] rfl (by (try simp only [List.map_toArray, List.map_cons, List.map_nil]); first | done | rfl | (simp only [List.length_drop, List.length_take]; rfl)) ?_; (with_reducible refine (impl_ReadDecimal.calls k1 (rdOf ByteArray.empty t261 x15_1) l1 t265 true _ ?side1 A12.out).mono ?_); (case side1 => exact cb_ HR1.out HB.out); rintro e w19 ⟨rfl, hb⟩; refine ⟨_, rfl, ?_⟩; have n0_ := mkA (Kd.R_below (by (with_reducible repeat (first | apply Kd.R_alloc | apply Kd.R_drewN | apply Kd.R_drew)); exact HO_4.out) hb); have n1_ := mkA (Kd.R_below (by (with_reducible repeat (first | apply Kd.R_alloc | apply Kd.R_drewN | apply Kd.R_drew)); exact HO_13.out) hb); have n2_ := mkA (below_step (bs0_ HB.out) hb); clear HO_4; clear HO_13; clear HB; have HO_4 := n0_; have HO_13 := n1_; have HB := n2_; clear n0_ n1_ n2_; (try clear hb); (try clear hb2); (try clear hk); (try clear hi)) | (go_at_call 31; (with_reducible refine (impl_within.calls t265 (-1000000000000) 1000000000000 false _ A14.out).mono ?_); rintro e w' ⟨rfl, ⟨nd, rfl⟩⟩))
       go_ret2
       exact ⟨_, by first | rfl | (simp [errW_none, errW_some] <;> rfl) | (simp [*, errW_none, errW_some] <;> rfl), by first | exact Kd.R_nil _ _ _ _ _ | exact Kd.N_nil _ _ _ _ _ | exact Kd.V_nil _ _ _ _ _ | exact Kd.Q_nil _ _ _ _ _ | exact Kd.S_nil _ _ _ _ _, by repeat (first | (with_reducible first | exact HB.out | apply below_alloc | apply pw_below_drewN | apply below_drew1) | exact HB.out)⟩
     subst c15
     have H1 : (if x4_1.length < 17592186044416 then (impl_ReadList.l0 k1 (x4_1 ++ [t265]) t261 (t261.length : Int) (wrap64 (x15_1 + 1)) l1) else (none)) = some (r1, r2) := by rw [if_pos rfl] at H; exact H
     clear H
     have H := H1
     clear H1
     by_cases c16 : x4_1.length < 17592186044416
     rotate_left
     · rw [if_neg c16] at H
       exact absurd H (by simp)
     rw [if_pos c16] at H
     have LMc16 := mkA c16
     clear c16
     obtain ⟨y268, hy268⟩ : ∃ y_ : List Int, y_ = (x4_1 ++ [t265]) := ⟨_, rfl⟩
     replace H : (impl_ReadList.l0 k1 y268 t261 (t261.length : Int) (wrap64 (x15_1 + 1)) l1) = some (r1, r2) := by first | (rw [hy268]; with_reducible exact H) | (have H2_ := (Option.bind_some _ _).symm.trans H; rw [hy268]; with_reducible exact H2_) | (have H2_ := (Option.bind_some _ _).symm.trans H; with_reducible exact H2_) | with_reducible exact H | (rw [hy268]; exact H) | exact H
     have Ny268 := mkA hy268
     clear hy268
     have H' := mkA H
     clear H
     have p264 : 0 ≤ (x15_1 : Int) := dt_
     have q264 : x15_1 < (t261.length : Int) := dt_
     obtain ⟨ad264, e264, hx264_0⟩ := Kd.at_string (Kd.R_reads' HO_13.out).2.2 x15_1 p264 q264
     cases e264
     replace p264 := eq_true p264
     replace q264 := eq_true q264
     go_wp2_with (first | ((with_reducible refine gate_callee (f := 44) rfl ?_); refine goesL_ (some 21) rfl rfl Tryd.func44 (by kernel_rfl) rfl #[.string (rdOf ByteArray.empty t261 x15_1)] rfl (by (try simp only [List.map_toArray, List.map_cons, List.map_nil]); first | done | rfl | (simp only [List.length_drop, List.length_take]; rfl)) ?_; (with_reducible refine (impl_ReadDecimal.calls k1 (rdOf ByteArray.empty t261 x15_1) l1 t265 true _ ?side1 A12.out).mono ?_); (case side1 => exact cb_ HR1.out HB.out); rintro e w17 ⟨rfl, hb⟩; refine ⟨_, rfl, ?_⟩; have n0_ := mkA (Kd.R_below (by (with_reducible repeat (first | apply Kd.R_alloc | apply Kd.R_drewN | apply Kd.R_drew)); exact HO_4.out) hb); have n1_ := mkA (Kd.R_below (by (with_reducible repeat (first | apply Kd.R_alloc | apply Kd.R_drewN | apply Kd.R_drew)); exact HO_13.out) hb); have n2_ := mkA (below_step (bs0_ HB.out) hb); clear HO_4; clear HO_13; clear HB; have HO_4 := n0_; have HO_13 := n1_; have HB := n2_; clear n0_ n1_ n2_; (try clear hb); (try clear hb2); (try clear hk); (try clear hi)) | (go_at_call 31; (with_reducible refine (impl_within.calls t265 (-1000000000000) 1000000000000 true _ A14.out).mono ?_); rintro e w' ⟨rfl, ⟨nd, rfl⟩⟩) | ((with_reducible refine gate_builtin (b := .append) (xs := #[.tmp 31, .tmp 33]) rfl ?_); at_builtin; refine Kd.R_append (Kd.int .i64) (w0 := w) w.heap.size rfl (.tmp 31) (.tmp 33) 22 2 (.int .i64 0) 8 rfl Tryd.underlying22 info2 rfl (by decide) (by omega) u4 x4_1 t265 [.int .i64 t265] (fun _ => True) (fun _ => False) rfl rfl ?aP (fun _ hk => hk.elim) ?aF ?aO ?aB ?aS ?aL ?_; (case aP => exact rfl); (case aB => exact (bs0_ HB.out)); (case aF => exact (fun _ _ => trivial)); (case aO => exact (by (with_reducible repeat (first | apply Kd.R_alloc | apply Kd.R_drewN | apply Kd.R_drew)); exact HO_4.out)); (case aS => exact (below_size (bs0_ HB.out))); (case aL => have := LMc16.out; omega); intro v269 w18 ho hb hg hat; rw [← Ny268.out] at ho; have n0_ := mkA (Kd.R_over' (by (with_reducible repeat (first | apply Kd.R_alloc | apply Kd.R_drewN | apply Kd.R_drew)); exact HO_13.out) (Kd.R_typed (by (with_reducible repeat (first | apply Kd.R_alloc | apply Kd.R_drewN | apply Kd.R_drew)); exact HO_4.out)) (by decide) hg); have n1_ := mkA (hb); have n2_ := mkA (ho); clear HO_13; clear HB; clear HO_4; have HO_13 := n0_; have HB := n1_; have HO270 := n2_; clear n0_ n1_ n2_; clear ho hb hg hat))
     go_roundg k1
     case measure => have := HK1.out; omega
     case rel => exact ⟨(y268), (wrap64 (x15_1 + 1)), (by first | rfl | (simp; done) | (simp [*]; done) | (simp [i64_w, i32_w]; done)), H', ⟨by have := HK1.out; omega⟩, ⟨by (with_reducible repeat (first | apply Kd.R_alloc | apply Kd.R_drewN | apply Kd.R_drew)); exact HO270.out⟩, ⟨by (with_reducible repeat (first | apply Kd.R_alloc | apply Kd.R_drewN | apply Kd.R_drew)); exact HO_13.out⟩, ⟨by repeat (first | (with_reducible first | exact HB.out | apply below_alloc | apply pw_below_drewN | apply below_drew1) | exact HB.out)⟩⟩
/-! ### impl_ReadTiling: function 11 -/
def impl_ReadTiling.l0 : Nat → List ByteArray → Int → Int → List (Unit) → Int → Int → List Int → Option (Int × Int × List Int × Bool)
  | 0, _, _, _, _, _, _, _ => none
  | k + 1, x11, x12, x13, x961, x273000, x273001, x273002 => if x13 < x12 then (if 0 ≤ x13 then (if x13 < (x11.length : Int) then ((impl_ReadList.f k (rdOf ByteArray.empty x11 x13) x961).bind fun bt277 => (if bt277.2 = true then (if x13 > 0 then (if (bt277.1.length : Int) = x273000 then (if x273002.length + bt277.1.length < 17592186044416 then (impl_ReadTiling.l0 k x11 x12 (wrap64 (x13 + 1)) x961 (bt277.1.length : Int) (wrap64 (x273001 + 1)) (x273002 ++ bt277.1)) else (none)) else (some (0, 0, ([] : List Int), false))) else (if x273002.length + bt277.1.length < 17592186044416 then (impl_ReadTiling.l0 k x11 x12 (wrap64 (x13 + 1)) x961 (bt277.1.length : Int) (wrap64 (x273001 + 1)) (x273002 ++ bt277.1)) else (none))) else (some (0, 0, ([] : List Int), false)))) else (none)) else (none)) else ((impl_ValidTiling.f k x273000 x273001 x273002).bind fun t287 => (if t287 = true then (some (x273000, x273001, x273002, true)) else (some (0, 0, ([] : List Int), false))))
def impl_ReadTiling.f (k : Nat) (a0 : ByteArray) (l1 : List (Unit)) : Option (Int × Int × List Int × Bool) := (Go.Proofs.YtopopjkoanpjiaaDoorX.strings_Split.f a0 (⟨#[47]⟩ : ByteArray) l1).bind fun t273 => (impl_ReadTiling.l0 k t273 (t273.length : Int) 0 l1 0 0 ([] : List Int))
theorem impl_ReadTiling.mono_l : ∀ k, (∀ y0 y1 y2 y3 y4 y5 y6, LeO (impl_ReadTiling.l0 k y0 y1 y2 y3 y4 y5 y6) (impl_ReadTiling.l0 (k + 1) y0 y1 y2 y3 y4 y5 y6))
  | 0 => fun _ _ _ _ _ _ _ r h => by simp [impl_ReadTiling.l0] at h
  | k + 1 => by
    have ih0 := impl_ReadTiling.mono_l k
    · intro y0 y1 y2 y3 y4 y5 y6
      unfold impl_ReadTiling.l0
      repeat' first
      | (with_reducible exact ih0 _ _ _ _ _ _ _)
      | (with_reducible exact impl_ReadList.mono _ _ _)
      | (with_reducible exact impl_ValidTiling.mono _ _ _ _)
      | (with_reducible exact LeO.refl _)
      | (with_reducible exact LeO.none _)
      | (with_reducible refine LeO.ite ?_ ?_)
      | (with_reducible refine LeO.bind ?_ (fun _ => ?_))
      | exact ih0 _ _ _ _ _ _ _
      | exact impl_ReadList.mono _ _ _
      | exact impl_ValidTiling.mono _ _ _ _
      | exact LeO.none _
      | refine LeO.ite ?_ ?_
      | refine LeO.bind ?_ (fun _ => ?_)
theorem impl_ReadTiling.mono : ∀ a0 a1 k, LeO (impl_ReadTiling.f k a0 a1) (impl_ReadTiling.f (k + 1) a0 a1) := by
  intro a0 a1 k
  have ih0 := impl_ReadTiling.mono_l k
  unfold impl_ReadTiling.f
  repeat' first
      | (with_reducible exact ih0 _ _ _ _ _ _ _)
      | (with_reducible exact impl_ReadList.mono _ _ _)
      | (with_reducible exact impl_ValidTiling.mono _ _ _ _)
      | (with_reducible exact LeO.refl _)
      | (with_reducible exact LeO.none _)
      | (with_reducible refine LeO.ite ?_ ?_)
      | (with_reducible refine LeO.bind ?_ (fun _ => ?_))
      | exact ih0 _ _ _ _ _ _ _
      | exact impl_ReadList.mono _ _ _
      | exact impl_ValidTiling.mono _ _ _ _
      | exact LeO.none _
      | refine LeO.ite ?_ ?_
      | refine LeO.bind ?_ (fun _ => ?_)
open List renaming setIfInBounds_toArray → sA, set_cons_zero → sB, set_cons_succ → sC
open Go.Proofs.YtopopjkoanpjiaaDoorW.PrintWords.Aside0 renaming mk → mkA
open Go.Proofs.YtopopjkoanpjiaaDoorX (dt_ bc_ p0_ p1_ bl_ cb_ bs0_ bs1_ bs2_ bs3_ bs4_ bs5_ bs6_ bs7_ bs8_ bs9_ bs10_ bs11_ bs12_)
set_option maxHeartbeats 8000000 in
set_option maxRecDepth 100000 in
theorem impl_ReadTiling.calls (k : Nat) (a0 : ByteArray) (l1 : List (Unit)) (r1 : Int) (r2 : Int) (r3 : List Int) (r4 : Bool) (w : World) (hr1 : Kd.C Go.Proofs.YtopopjkoanpjiaaDoorX.kLib w (some ⟨0, 0, none⟩) l1.length l1) (h : impl_ReadTiling.f k a0 l1 = some (r1, r2, r3, r4)) :
 Calls Tryd.prog 11 #[.string a0] w fun e w' => ∃ v2_ : Value, e = .returned (.tuple #[.agg #[.int .i64 r1, .int .i64 r2, v2_], .bool r4]) ∧ Kd.R (Kd.int .i64) 2 w' w.heap.size (fun _ => True) v2_ r3 ∧ Below w.heap.size w w' := by
 have hu27 := Tryd.underlying27
 have HR1 := mkA hr1
 clear hr1
 have HB := mkA (Below.refl w.heap.size w)
 have H : ((Go.Proofs.YtopopjkoanpjiaaDoorX.strings_Split.f a0 (⟨#[47]⟩ : ByteArray) l1).bind fun t273 => (impl_ReadTiling.l0 k t273 (t273.length : Int) 0 l1 0 0 ([] : List Int))) = some (r1, r2, r3, r4) := h
 clear h
 replace H := Option.bind_eq_some_iff.mp H
 obtain ⟨t273, A30, H⟩ := H
 replace H : (impl_ReadTiling.l0 k t273 (t273.length : Int) 0 l1 0 0 ([] : List Int)) = some (r1, r2, r3, r4) := H
 have A3 := mkA A30
 clear A30
 have H' := mkA H
 clear H
 go_enter Tryd.func11, Tryd.ntmps11
 go_wp2_with (first | ((with_reducible refine gate_dst (N := 2) rfl ?_); (try (refine gate_guard (by rfl) ?_; dsimp only)); refine box_event ?hg (N := 2) ?hd (cs := #[.int .i64 0, .int .i64 0, .slice none 0 0]) (t := 27) ?hr ?_; (case hd => rfl); (case hg => rfl); (case hr => first | (go_simp; done) | (go_simp; rfl)); intro gb271 hg w4 hbox hb; have n0_ := mkA (below_step (bs0_ HB.out) hb); have n1_ := mkA (hbox); have n2_ := mkA ((by rw [hg]; exact (below_size (bs0_ HB.out)) : w.heap.size ≤ gb271)); have n3_ := mkA ((by rw [hg]; exact (below_size (bs0_ HB.out)) : w.heap.size ≤ gb271)); clear HB; have HB := n0_; have BK271 := n1_; have GW271 := n2_; have GE271 := n3_; clear n0_ n1_ n2_ n3_; clear hb hbox hg) | ((with_reducible refine gate_dst (N := 4) rfl ?_); (try (refine gate_guard (by rfl) ?_; dsimp only)); refine box_event ?hg (N := 4) ?hd (cs := #[.int .i64 0, .int .i64 0, .slice none 0 0]) (t := 27) ?hr ?_; (case hd => rfl); (case hg => rfl); (case hr => first | (go_simp; done) | (go_simp; rfl)); intro gb272 hg w5 hbox hb; have n0_ := mkA (blk_below (g := gb271) (o := .cells #[.int .i64 0, .int .i64 0, .slice none 0 0] 27 (0, 0)) (bl_ BK271.out) hb); have n1_ := mkA (below_step (bs1_ HB.out GE271.out) hb); have n2_ := mkA (hbox); have n3_ := mkA ((by rw [hg]; exact (below_size (bs1_ HB.out GE271.out)) : w.heap.size ≤ gb272)); have n4_ := mkA ((by rw [hg]; exact (below_size (bs1_ HB.out GE271.out)) : w.heap.size ≤ gb272)); have n5_ := mkA ((by rw [hg]; exact Nat.ne_of_lt (blk_lt (g := gb271) (o := .cells #[.int .i64 0, .int .i64 0, .slice none 0 0] 27 (0, 0)) (bl_ BK271.out)) : gb271 ≠ gb272)); have n6_ := mkA ((by rw [hg]; exact Nat.ne_of_gt (blk_lt (g := gb271) (o := .cells #[.int .i64 0, .int .i64 0, .slice none 0 0] 27 (0, 0)) (bl_ BK271.out)) : gb272 ≠ gb271)); clear BK271; clear HB; have BK271 := n0_; have HB := n1_; have BK272 := n2_; have GW272 := n3_; have GE272 := n4_; have NB271_272 := n5_; have NB272_271 := n6_; clear n0_ n1_ n2_ n3_ n4_ n5_ n6_; clear hb hbox hg; have hnb6 := NB272_271.out; have hnc6 := NB271_272.out; have hcz7_0 : w5.cell? ⟨gb272, 0, none⟩ = some (.int .i64 0) := (blk_cell BK272.out 0).trans rfl; have hcz7_1 : w5.cell? ⟨gb272, 1, none⟩ = some (.int .i64 0) := (blk_cell BK272.out 1).trans rfl; have hcz7_2 : w5.cell? ⟨gb272, 2, none⟩ = some (.slice none 0 0) := (blk_cell BK272.out 2).trans rfl; have hfz7_0 := blk_frozen BK272.out 0; have hfz7_1 := blk_frozen BK272.out 1; have hfz7_2 := blk_frozen BK272.out 2) | ((with_reducible refine gate_callee (f := 23) rfl ?_); refine goesL_ (some 11) rfl rfl Tryd.func23 (by kernel_rfl) rfl #[.string a0, .string (⟨#[47]⟩ : ByteArray)] rfl (by (try simp only [List.map_toArray, List.map_cons, List.map_nil]); first | done | rfl | (simp only [List.length_drop, List.length_take]; rfl)) ?_; (with_reducible refine (Go.Proofs.YtopopjkoanpjiaaDoorX.strings_Split.calls a0 (⟨#[47]⟩ : ByteArray) l1 t273 _ ?side1 A3.out).mono ?_); (case side1 => exact Kd.C_below HR1.out (bs2_ HB.out GE271.out GE272.out)); rintro e w8 ⟨v274, rfl, ho0, hb⟩; refine ⟨_, rfl, ?_⟩; have n0_ := mkA (Kd.R_lower ho0 (below_size (bs2_ HB.out GE271.out GE272.out))); have n1_ := mkA (blk_below (g := gb271) (o := .cells #[.int .i64 0, .int .i64 0, .slice none 0 0] 27 (0, 0)) (by (with_reducible repeat (first | refine blk_drewN ?_ _ | refine blk_drew ?_ | refine blk_alloc ?_ _)); refine blk_far ?_ NB271_272.out _; (with_reducible repeat (first | refine blk_drewN ?_ _ | refine blk_drew ?_ | refine blk_alloc ?_ _)); refine blk_far ?_ NB271_272.out _; (with_reducible repeat (first | refine blk_drewN ?_ _ | refine blk_drew ?_ | refine blk_alloc ?_ _)); refine blk_far ?_ NB271_272.out _; (with_reducible repeat (first | refine blk_drewN ?_ _ | refine blk_drew ?_ | refine blk_alloc ?_ _)); exact BK271.out) hb); have n2_ := mkA (blk_below (g := gb272) (o := .cells #[.int .i64 0, .int .i64 0, .slice none 0 0] 27 (0, 0)) (by (with_reducible repeat (first | refine blk_drewN ?_ _ | refine blk_drew ?_ | refine blk_alloc ?_ _)); refine blk_put (cs := #[.int .i64 0, .int .i64 0, .slice none 0 0]) ?_ 2 _ rfl; (with_reducible repeat (first | refine blk_drewN ?_ _ | refine blk_drew ?_ | refine blk_alloc ?_ _)); refine blk_put (cs := #[.int .i64 0, .int .i64 0, .slice none 0 0]) ?_ 1 _ rfl; (with_reducible repeat (first | refine blk_drewN ?_ _ | refine blk_drew ?_ | refine blk_alloc ?_ _)); refine blk_put (cs := #[.int .i64 0, .int .i64 0, .slice none 0 0]) ?_ 0 _ rfl; (with_reducible repeat (first | refine blk_drewN ?_ _ | refine blk_drew ?_ | refine blk_alloc ?_ _)); exact BK272.out) hb); have n3_ := mkA (below_step (bs2_ HB.out GE271.out GE272.out) hb); clear BK271; clear BK272; clear HB; have HO275 := n0_; have BK271 := n1_; have BK272 := n2_; have HB := n3_; clear n0_ n1_ n2_ n3_; (try clear hb); (try clear hb2); (try clear hk); (try clear hi); (try clear ho0); obtain ⟨Ao9, co9, eo9⟩ := Kd.R_slice HO275.out; subst eo9))
 go_loopg [13] k (fun kq v13 w' => ∃ (x13_1 : Int) (x272000_1 : Int) (x272001_1 : Int) (x273000_1 : Int) (x273001_1 : Int) (x273002_1 : List Int) (u273002 : Value), v13 = .int .i64 x13_1 ∧ Aside0 (impl_ReadTiling.l0 kq t273 (t273.length : Int) x13_1 l1 x273000_1 x273001_1 x273002_1 = some (r1, r2, r3, r4)) ∧ Aside0 (kq ≤ k) ∧ Aside0 (Kd.R Kd.string 9 w' w.heap.size (fun _ => True) (.slice Ao9 t273.length co9) t273) ∧ Aside0 (Kd.R (Kd.int .i64) 2 w' w.heap.size (fun _ => True) u273002 x273002_1) ∧ Aside0 (w'.heap[gb271]? = some (.cells #[.int .i64 x272000_1, .int .i64 x272001_1, (.slice none 0 0)] 27 (0, 0))) ∧ Aside0 (w'.heap[gb272]? = some (.cells #[.int .i64 x273000_1, .int .i64 x273001_1, u273002] 27 (0, 0))) ∧ Aside0 (Below w.heap.size w w'))
 case atStart => exact ⟨(0), (0), (0), (0), (0), (([] : List Int)), (.slice none 0 0), (by first | rfl | (simp; done) | (simp [*]; done) | (simp [i64_w, i32_w]; done)), H', ⟨Nat.le_refl _⟩, ⟨by (with_reducible repeat (first | apply Kd.R_alloc | apply Kd.R_drewN | apply Kd.R_drew)); exact HO275.out⟩, ⟨by first | exact Kd.R_nil _ _ _ _ _ | exact Kd.N_nil _ _ _ _ _ | exact Kd.V_nil _ _ _ _ _ | exact Kd.Q_nil _ _ _ _ _ | exact Kd.S_nil _ _ _ _ _⟩, ⟨by (with_reducible repeat (first | refine blk_drewN ?_ _ | refine blk_drew ?_ | refine blk_alloc ?_ _)); exact BK271.out⟩, ⟨by (with_reducible repeat (first | refine blk_drewN ?_ _ | refine blk_drew ?_ | refine blk_alloc ?_ _)); exact BK272.out⟩, ⟨by repeat (first | (with_reducible first | exact HB.out | apply below_alloc | apply pw_below_drewN | apply below_drew1 | refine below_set ?_ GE271.out | refine below_set ?_ GE272.out) | exact HB.out)⟩⟩
 case round =>
  clear H'
  try clear c1
  try clear c2
  try clear p2
  try clear c6
  try clear hcz7_0
  try clear hcz7_1
  try clear hcz7_2
  try clear hfz7_0
  try clear hfz7_1
  try clear hfz7_2
  obtain ⟨x13_1, x272000_1, x272001_1, x273000_1, x273001_1, x273002_1, u273002, rfl, HA, HK1, HO_11, HO_273002, BK271, BK272, HB⟩ := hrel
  cases gk with
  | zero => exact absurd HA.out (by simp [impl_ReadTiling.l0])
  | succ k1 =>
   have H := HA.out
   clear HA
   simp only [impl_ReadTiling.l0] at H
   by_cases c10 : x13_1 < (t273.length : Int)
   rotate_left
   · rw [if_neg c10] at H
     have c10b0 : decide (x13_1 < (t273.length : Int)) = false := decide_eq_false c10
     clear c10
     replace H := Option.bind_eq_some_iff.mp H
     obtain ⟨t287, A410, H⟩ := H
     replace H : (if t287 = true then (some (x273000_1, x273001_1, x273002_1, true)) else (some (0, 0, ([] : List Int), false))) = some (r1, r2, r3, r4) := H
     have A41 := mkA A410
     clear A410
     by_cases c42 : t287 = true
     · subst c42
       have H1 : (some (x273000_1, x273001_1, x273002_1, true)) = some (r1, r2, r3, r4) := by rw [if_pos rfl] at H; exact H
       clear H
       have H := H1
       clear H1
       simp only [Option.some.injEq, Prod.mk.injEq] at H
       obtain ⟨rfl, rfl, rfl, rfl⟩ := H
       have hnb43 := NB272_271.out
       have hnc43 := NB271_272.out
       have hcz44_0 : wr.cell? ⟨gb272, 0, none⟩ = some (.int .i64 x273000_1) := (blk_cell BK272.out 0).trans rfl
       have hcz44_1 : wr.cell? ⟨gb272, 1, none⟩ = some (.int .i64 x273001_1) := (blk_cell BK272.out 1).trans rfl
       have hcz44_2 : wr.cell? ⟨gb272, 2, none⟩ = some (u273002) := (blk_cell BK272.out 2).trans rfl
       have hfz44_0 := blk_frozen BK272.out 0
       have hfz44_1 := blk_frozen BK272.out 1
       have hfz44_2 := blk_frozen BK272.out 2
       obtain ⟨Ao45, co45, eo45⟩ := Kd.R_slice HO_273002.out
       subst eo45
       go_wp2_with (first | ((with_reducible refine gate_callee (f := 18) rfl ?_); refine goesL_ (some 51) rfl rfl Tryd.func18 (by kernel_rfl) rfl #[.agg #[.int .i64 x273000_1, .int .i64 x273001_1, .slice Ao45 x273002_1.length co45]] rfl (by (try simp only [List.map_toArray, List.map_cons, List.map_nil]); first | done | rfl | (simp only [List.length_drop, List.length_take]; rfl)) ?_; (with_reducible refine (impl_ValidTiling.calls k1 x273000_1 x273001_1 _ _ x273002_1 true _ ?side1 ?side2 A41.out).mono ?_); (case side1 => repeat (first | exact (Kd.R_reads' HO_273002.out).2.2 | (with_reducible refine Kd.C_alloc ?_ _) | (with_reducible refine Kd.C_drewN ?_ _) | (with_reducible refine Kd.C_drew ?_))); (case side2 => exact (Kd.R_reads' HO_273002.out).2.1); rintro e w46 ⟨rfl, hb⟩; refine ⟨_, rfl, ?_⟩; have n0_ := mkA (Kd.R_below (by (with_reducible repeat (first | apply Kd.R_alloc | apply Kd.R_drewN | apply Kd.R_drew)); exact HO_11.out) hb); have n1_ := mkA (Kd.R_below (by (with_reducible repeat (first | apply Kd.R_alloc | apply Kd.R_drewN | apply Kd.R_drew)); exact HO_273002.out) hb); have n2_ := mkA (blk_below (g := gb271) (o := .cells #[.int .i64 x272000_1, .int .i64 x272001_1, .slice none 0 0] 27 (0, 0)) (bl_ BK271.out) hb); have n3_ := mkA (blk_below (g := gb272) (o := .cells #[.int .i64 x273000_1, .int .i64 x273001_1, .slice Ao45 x273002_1.length co45] 27 (0, 0)) (bl_ BK272.out) hb); have n4_ := mkA (below_step (bs2_ HB.out GE271.out GE272.out) hb); clear HO_11; clear HO_273002; clear BK271; clear BK272; clear HB; have HO_11 := n0_; have HO_273002 := n1_; have BK271 := n2_; have BK272 := n3_; have HB := n4_; clear n0_ n1_ n2_ n3_ n4_; (try clear hb); (try clear hb2); (try clear hk); (try clear hi); have hcz47_0 : w46.cell? ⟨gb272, 0, none⟩ = some (.int .i64 x273000_1) := (blk_cell BK272.out 0).trans rfl; have hcz47_1 : w46.cell? ⟨gb272, 1, none⟩ = some (.int .i64 x273001_1) := (blk_cell BK272.out 1).trans rfl; have hcz47_2 : w46.cell? ⟨gb272, 2, none⟩ = some (.slice Ao45 x273002_1.length co45) := (blk_cell BK272.out 2).trans rfl; have hfz47_0 := blk_frozen BK272.out 0; have hfz47_1 := blk_frozen BK272.out 1; have hfz47_2 := blk_frozen BK272.out 2; have hcz48_0 : w46.cell? ⟨gb271, 0, none⟩ = some (.int .i64 x272000_1) := (blk_cell BK271.out 0).trans rfl; have hcz48_1 : w46.cell? ⟨gb271, 1, none⟩ = some (.int .i64 x272001_1) := (blk_cell BK271.out 1).trans rfl; have hcz48_2 : w46.cell? ⟨gb271, 2, none⟩ = some (.slice none 0 0) := (blk_cell BK271.out 2).trans rfl; have hfz48_0 := blk_frozen BK271.out 0; have hfz48_1 := blk_frozen BK271.out 1; have hfz48_2 := blk_frozen BK271.out 2))
       refine bodyPost_ret (results_ct rfl _ _ gb271 27 #[.int .i64 x273000_1, .int .i64 x273001_1, .slice Ao45 x273002_1.length co45] (0, 0) _ rfl (by (with_reducible repeat (first | refine blk_drewN ?_ _ | refine blk_drew ?_ | refine blk_alloc ?_ _)); refine blk_put (cs := #[.int .i64 x273000_1, .int .i64 x273001_1, .slice none 0 0]) ?_ 2 _ rfl; (with_reducible repeat (first | refine blk_drewN ?_ _ | refine blk_drew ?_ | refine blk_alloc ?_ _)); refine blk_put (cs := #[.int .i64 x273000_1, .int .i64 x272001_1, .slice none 0 0]) ?_ 1 _ rfl; (with_reducible repeat (first | refine blk_drewN ?_ _ | refine blk_drew ?_ | refine blk_alloc ?_ _)); refine blk_put (cs := #[.int .i64 x272000_1, .int .i64 x272001_1, .slice none 0 0]) ?_ 0 _ rfl; (with_reducible repeat (first | refine blk_drewN ?_ _ | refine blk_drew ?_ | refine blk_alloc ?_ _)); exact BK271.out) Tryd.underlying27 rfl (by kernel_rfl)) rfl ?_
       exact ⟨_, by first | rfl | (simp [errW_none, errW_some] <;> rfl) | (simp [*, errW_none, errW_some] <;> rfl), by (with_reducible repeat (first | apply Kd.R_alloc | apply Kd.R_drewN | apply Kd.R_drew)); exact Kd.R_mono (Kd.R_far (p := ⟨gb271, 2, none⟩) (Kd.R_far (p := ⟨gb271, 1, none⟩) (Kd.R_far (p := ⟨gb271, 0, none⟩) (Kd.R_types HO_273002.out BK271.out (by decide)) (fun _ hk => hk.2) (.int .i64 x273000_1)) (fun _ hk => hk.2) (.int .i64 x273001_1)) (fun _ hk => hk.2) (.slice Ao45 x273002_1.length co45)) (fun _ hk => trivial), by repeat (first | (with_reducible first | exact HB.out | apply below_alloc | apply pw_below_drewN | apply below_drew1 | refine below_set ?_ GE271.out | refine below_set ?_ GE272.out) | exact HB.out)⟩
     · replace c42 := Bool.eq_false_iff.mpr c42
       subst c42
       have H1 : (some (0, 0, ([] : List Int), false)) = some (r1, r2, r3, r4) := by rw [if_neg (show ¬ (false = true) by decide)] at H; exact H
       clear H
       have H := H1
       clear H1
       simp only [Option.some.injEq, Prod.mk.injEq] at H
       obtain ⟨rfl, rfl, rfl, rfl⟩ := H
       have hnb49 := NB272_271.out
       have hnc49 := NB271_272.out
       have hcz50_0 : wr.cell? ⟨gb272, 0, none⟩ = some (.int .i64 x273000_1) := (blk_cell BK272.out 0).trans rfl
       have hcz50_1 : wr.cell? ⟨gb272, 1, none⟩ = some (.int .i64 x273001_1) := (blk_cell BK272.out 1).trans rfl
       have hcz50_2 : wr.cell? ⟨gb272, 2, none⟩ = some (u273002) := (blk_cell BK272.out 2).trans rfl
       have hfz50_0 := blk_frozen BK272.out 0
       have hfz50_1 := blk_frozen BK272.out 1
       have hfz50_2 := blk_frozen BK272.out 2
       obtain ⟨Ao51, co51, eo51⟩ := Kd.R_slice HO_273002.out
       subst eo51
       go_wp2_with (first | ((with_reducible refine gate_callee (f := 18) rfl ?_); refine goesL_ (some 51) rfl rfl Tryd.func18 (by kernel_rfl) rfl #[.agg #[.int .i64 x273000_1, .int .i64 x273001_1, .slice Ao51 x273002_1.length co51]] rfl (by (try simp only [List.map_toArray, List.map_cons, List.map_nil]); first | done | rfl | (simp only [List.length_drop, List.length_take]; rfl)) ?_; (with_reducible refine (impl_ValidTiling.calls k1 x273000_1 x273001_1 _ _ x273002_1 false _ ?side1 ?side2 A41.out).mono ?_); (case side1 => repeat (first | exact (Kd.R_reads' HO_273002.out).2.2 | (with_reducible refine Kd.C_alloc ?_ _) | (with_reducible refine Kd.C_drewN ?_ _) | (with_reducible refine Kd.C_drew ?_))); (case side2 => exact (Kd.R_reads' HO_273002.out).2.1); rintro e w52 ⟨rfl, hb⟩; refine ⟨_, rfl, ?_⟩; have n0_ := mkA (Kd.R_below (by (with_reducible repeat (first | apply Kd.R_alloc | apply Kd.R_drewN | apply Kd.R_drew)); exact HO_11.out) hb); have n1_ := mkA (Kd.R_below (by (with_reducible repeat (first | apply Kd.R_alloc | apply Kd.R_drewN | apply Kd.R_drew)); exact HO_273002.out) hb); have n2_ := mkA (blk_below (g := gb271) (o := .cells #[.int .i64 x272000_1, .int .i64 x272001_1, .slice none 0 0] 27 (0, 0)) (bl_ BK271.out) hb); have n3_ := mkA (blk_below (g := gb272) (o := .cells #[.int .i64 x273000_1, .int .i64 x273001_1, .slice Ao51 x273002_1.length co51] 27 (0, 0)) (bl_ BK272.out) hb); have n4_ := mkA (below_step (bs2_ HB.out GE271.out GE272.out) hb); clear HO_11; clear HO_273002; clear BK271; clear BK272; clear HB; have HO_11 := n0_; have HO_273002 := n1_; have BK271 := n2_; have BK272 := n3_; have HB := n4_; clear n0_ n1_ n2_ n3_ n4_; (try clear hb); (try clear hb2); (try clear hk); (try clear hi); have hcz53_0 : w52.cell? ⟨gb271, 0, none⟩ = some (.int .i64 x272000_1) := (blk_cell BK271.out 0).trans rfl; have hcz53_1 : w52.cell? ⟨gb271, 1, none⟩ = some (.int .i64 x272001_1) := (blk_cell BK271.out 1).trans rfl; have hcz53_2 : w52.cell? ⟨gb271, 2, none⟩ = some (.slice none 0 0) := (blk_cell BK271.out 2).trans rfl; have hfz53_0 := blk_frozen BK271.out 0; have hfz53_1 := blk_frozen BK271.out 1; have hfz53_2 := blk_frozen BK271.out 2))
       refine bodyPost_ret (results_ct rfl _ _ gb271 27 #[.int .i64 0, .int .i64 0, .slice none 0 0] (0, 0) _ rfl (by (with_reducible repeat (first | refine blk_drewN ?_ _ | refine blk_drew ?_ | refine blk_alloc ?_ _)); refine blk_put (cs := #[.int .i64 0, .int .i64 0, .slice none 0 0]) ?_ 2 _ rfl; (with_reducible repeat (first | refine blk_drewN ?_ _ | refine blk_drew ?_ | refine blk_alloc ?_ _)); refine blk_put (cs := #[.int .i64 0, .int .i64 x272001_1, .slice none 0 0]) ?_ 1 _ rfl; (with_reducible repeat (first | refine blk_drewN ?_ _ | refine blk_drew ?_ | refine blk_alloc ?_ _)); refine blk_put (cs := #[.int .i64 x272000_1, .int .i64 x272001_1, .slice none 0 0]) ?_ 0 _ rfl; (with_reducible repeat (first | refine blk_drewN ?_ _ | refine blk_drew ?_ | refine blk_alloc ?_ _)); exact BK271.out) Tryd.underlying27 rfl (by kernel_rfl)) rfl ?_
       exact ⟨_, by first | rfl | (simp [errW_none, errW_some] <;> rfl) | (simp [*, errW_none, errW_some] <;> rfl), by first | exact Kd.R_nil _ _ _ _ _ | exact Kd.N_nil _ _ _ _ _ | exact Kd.V_nil _ _ _ _ _ | exact Kd.Q_nil _ _ _ _ _ | exact Kd.S_nil _ _ _ _ _, by repeat (first | (with_reducible first | exact HB.out | apply below_alloc | apply pw_below_drewN | apply below_drew1 | refine below_set ?_ GE271.out | refine below_set ?_ GE272.out) | exact HB.out)⟩

   rw [if_pos c10] at H
   have c10b0 : decide (x13_1 < (t273.length : Int)) = true := decide_eq_true c10
   clear c10
   by_cases c11 : 0 ≤ x13_1
   rotate_left
   · rw [if_neg c11] at H
     exact absurd H (by simp)
   rw [if_pos c11] at H
   have c11b0 : decide (0 ≤ x13_1) = true := decide_eq_true c11
   clear c11
   by_cases c12 : x13_1 < (t273.length : Int)
   rotate_left
   · rw [if_neg c12] at H
     exact absurd H (by simp)
   rw [if_pos c12] at H
   have c12b0 : decide (x13_1 < (t273.length : Int)) = true := decide_eq_true c12
   clear c12
   replace H := Option.bind_eq_some_iff.mp H
   obtain ⟨⟨t277, t278⟩, A130, H⟩ := H
   replace H : (if t278 = true then (if x13_1 > 0 then (if (t277.length : Int) = x273000_1 then (if x273002_1.length + t277.length < 17592186044416 then (impl_ReadTiling.l0 k1 t273 (t273.length : Int) (wrap64 (x13_1 + 1)) l1 (t277.length : Int) (wrap64 (x273001_1 + 1)) (x273002_1 ++ t277)) else (none)) else (some (0, 0, ([] : List Int), false))) else (if x273002_1.length + t277.length < 17592186044416 then (impl_ReadTiling.l0 k1 t273 (t273.length : Int) (wrap64 (x13_1 + 1)) l1 (t277.length : Int) (wrap64 (x273001_1 + 1)) (x273002_1 ++ t277)) else (none))) else (some (0, 0, ([] : List Int), false))) = some (r1, r2, r3, r4) := H
   have A13 := mkA A130
   clear A130
   by_cases c14 : t278 = true
   rotate_left
   · replace c14 := Bool.eq_false_iff.mpr c14
     subst c14
     have H1 : (some (0, 0, ([] : List Int), false)) = some (r1, r2, r3, r4) := by rw [if_neg (show ¬ (false = true) by decide)] at H; exact H
     clear H
     have H := H1
     clear H1
     simp only [Option.some.injEq, Prod.mk.injEq] at H
     obtain ⟨rfl, rfl, rfl, rfl⟩ := H
     have p276 : 0 ≤ (x13_1 : Int) := dt_
     have q276 : x13_1 < (t273.length : Int) := dt_
     obtain ⟨ad276, e276, hx276_0⟩ := Kd.at_string (Kd.R_reads' HO_11.out).2.2 x13_1 p276 q276
     cases e276
     replace p276 := eq_true p276
     replace q276 := eq_true q276
     go_wp2_with (first | ((with_reducible refine gate_callee (f := 24) rfl ?_); refine goesL_ (some 20) rfl rfl Tryd.func24 (by kernel_rfl) rfl #[.string (rdOf ByteArray.empty t273 x13_1)] rfl (by (try simp only [List.map_toArray, List.map_cons, List.map_nil]); first | done | rfl | (simp only [List.length_drop, List.length_take]; rfl)) ?_; (with_reducible refine (impl_ReadList.calls k1 (rdOf ByteArray.empty t273 x13_1) l1 t277 false _ ?side1 A13.out).mono ?_); (case side1 => exact cb_ HR1.out HB.out); rintro e w38 ⟨v279, rfl, ho0, hb⟩; refine ⟨_, rfl, ?_⟩; have n0_ := mkA (Kd.R_below (by (with_reducible repeat (first | apply Kd.R_alloc | apply Kd.R_drewN | apply Kd.R_drew)); exact HO_11.out) hb); have n1_ := mkA (Kd.R_elder' (by (with_reducible repeat (first | apply Kd.R_alloc | apply Kd.R_drewN | apply Kd.R_drew)); exact HO_273002.out) (Kd.R_base ho0) hb); have n2_ := mkA (Kd.R_lower (Kd.R_new' ho0 (Kd.R_lt (by (with_reducible repeat (first | apply Kd.R_alloc | apply Kd.R_drewN | apply Kd.R_drew)); exact HO_273002.out))) (below_size (bs2_ HB.out GE271.out GE272.out))); have n3_ := mkA (blk_below (g := gb271) (o := .cells #[.int .i64 x272000_1, .int .i64 x272001_1, .slice none 0 0] 27 (0, 0)) (bl_ BK271.out) hb); have n4_ := mkA (blk_below (g := gb272) (o := .cells #[.int .i64 x273000_1, .int .i64 x273001_1, u273002] 27 (0, 0)) (bl_ BK272.out) hb); have n5_ := mkA (below_step (bs2_ HB.out GE271.out GE272.out) hb); clear HO_11; clear HO_273002; clear BK271; clear BK272; clear HB; have HO_11 := n0_; have HO_273002 := n1_; have HO280 := n2_; have BK271 := n3_; have BK272 := n4_; have HB := n5_; clear n0_ n1_ n2_ n3_ n4_ n5_; (try clear hb); (try clear hb2); (try clear hk); (try clear hi); (try clear ho0); have hnb39 := NB271_272.out; have hnc39 := NB272_271.out; have hcz40_0 : w38.cell? ⟨gb271, 0, none⟩ = some (.int .i64 x272000_1) := (blk_cell BK271.out 0).trans rfl; have hcz40_1 : w38.cell? ⟨gb271, 1, none⟩ = some (.int .i64 x272001_1) := (blk_cell BK271.out 1).trans rfl; have hcz40_2 : w38.cell? ⟨gb271, 2, none⟩ = some (.slice none 0 0) := (blk_cell BK271.out 2).trans rfl; have hfz40_0 := blk_frozen BK271.out 0; have hfz40_1 := blk_frozen BK271.out 1; have hfz40_2 := blk_frozen BK271.out 2))
     refine bodyPost_ret (results_ct rfl _ _ gb271 27 #[.int .i64 0, .int .i64 0, .slice none 0 0] (0, 0) _ rfl (by (with_reducible repeat (first | refine blk_drewN ?_ _ | refine blk_drew ?_ | refine blk_alloc ?_ _)); refine blk_put (cs := #[.int .i64 0, .int .i64 0, .slice none 0 0]) ?_ 2 _ rfl; (with_reducible repeat (first | refine blk_drewN ?_ _ | refine blk_drew ?_ | refine blk_alloc ?_ _)); refine blk_put (cs := #[.int .i64 0, .int .i64 x272001_1, .slice none 0 0]) ?_ 1 _ rfl; (with_reducible repeat (first | refine blk_drewN ?_ _ | refine blk_drew ?_ | refine blk_alloc ?_ _)); refine blk_put (cs := #[.int .i64 x272000_1, .int .i64 x272001_1, .slice none 0 0]) ?_ 0 _ rfl; (with_reducible repeat (first | refine blk_drewN ?_ _ | refine blk_drew ?_ | refine blk_alloc ?_ _)); exact BK271.out) Tryd.underlying27 rfl (by kernel_rfl)) rfl ?_
     exact ⟨_, by first | rfl | (simp [errW_none, errW_some] <;> rfl) | (simp [*, errW_none, errW_some] <;> rfl), by first | exact Kd.R_nil _ _ _ _ _ | exact Kd.N_nil _ _ _ _ _ | exact Kd.V_nil _ _ _ _ _ | exact Kd.Q_nil _ _ _ _ _ | exact Kd.S_nil _ _ _ _ _, by repeat (first | (with_reducible first | exact HB.out | apply below_alloc | apply pw_below_drewN | apply below_drew1 | refine below_set ?_ GE271.out | refine below_set ?_ GE272.out) | exact HB.out)⟩
   subst c14
   have H1 : (if x13_1 > 0 then (if (t277.length : Int) = x273000_1 then (if x273002_1.length + t277.length < 17592186044416 then (impl_ReadTiling.l0 k1 t273 (t273.length : Int) (wrap64 (x13_1 + 1)) l1 (t277.length : Int) (wrap64 (x273001_1 + 1)) (x273002_1 ++ t277)) else (none)) else (some (0, 0, ([] : List Int), false))) else (if x273002_1.length + t277.length < 17592186044416 then (impl_ReadTiling.l0 k1 t273 (t273.length : Int) (wrap64 (x13_1 + 1)) l1 (t277.length : Int) (wrap64 (x273001_1 + 1)) (x273002_1 ++ t277)) else (none))) = some (r1, r2, r3, r4) := by rw [if_pos rfl] at H; exact H
   clear H
   have H := H1
   clear H1
   by_cases c15 : x13_1 > 0
   rotate_left
   · rw [if_neg c15] at H
     have c15b0 : decide (0 < x13_1) = false := decide_eq_false c15
     clear c15
     by_cases c30 : x273002_1.length + t277.length < 17592186044416
     rotate_left
     · rw [if_neg c30] at H
       exact absurd H (by simp)
     rw [if_pos c30] at H
     have LMc30 := mkA c30
     clear c30
     obtain ⟨y284, hy284⟩ : ∃ y_ : List Int, y_ = (x273002_1 ++ t277) := ⟨_, rfl⟩
     replace H : (impl_ReadTiling.l0 k1 t273 (t273.length : Int) (wrap64 (x13_1 + 1)) l1 (t277.length : Int) (wrap64 (x273001_1 + 1)) y284) = some (r1, r2, r3, r4) := by first | (rw [hy284]; with_reducible exact H) | (have H2_ := (Option.bind_some _ _).symm.trans H; rw [hy284]; with_reducible exact H2_) | (have H2_ := (Option.bind_some _ _).symm.trans H; with_reducible exact H2_) | with_reducible exact H | (rw [hy284]; exact H) | exact H
     have Ny284 := mkA hy284
     clear hy284
     have H' := mkA H
     clear H
     have p276 : 0 ≤ (x13_1 : Int) := dt_
     have q276 : x13_1 < (t273.length : Int) := dt_
     obtain ⟨ad276, e276, hx276_0⟩ := Kd.at_string (Kd.R_reads' HO_11.out).2.2 x13_1 p276 q276
     cases e276
     replace p276 := eq_true p276
     replace q276 := eq_true q276
     go_wp2_with (first | ((with_reducible refine gate_callee (f := 24) rfl ?_); refine goesL_ (some 20) rfl rfl Tryd.func24 (by kernel_rfl) rfl #[.string (rdOf ByteArray.empty t273 x13_1)] rfl (by (try simp only [List.map_toArray, List.map_cons, List.map_nil]); first | done | rfl | (simp only [List.length_drop, List.length_take]; rfl)) ?_; (with_reducible refine (impl_ReadList.calls k1 (rdOf ByteArray.empty t273 x13_1) l1 t277 true _ ?side1 A13.out).mono ?_); (case side1 => exact cb_ HR1.out HB.out); rintro e w31 ⟨v279, rfl, ho0, hb⟩; refine ⟨_, rfl, ?_⟩; have n0_ := mkA (Kd.R_below (by (with_reducible repeat (first | apply Kd.R_alloc | apply Kd.R_drewN | apply Kd.R_drew)); exact HO_11.out) hb); have n1_ := mkA (Kd.R_elder' (by (with_reducible repeat (first | apply Kd.R_alloc | apply Kd.R_drewN | apply Kd.R_drew)); exact HO_273002.out) (Kd.R_base ho0) hb); have n2_ := mkA (Kd.R_lower (Kd.R_new' ho0 (Kd.R_lt (by (with_reducible repeat (first | apply Kd.R_alloc | apply Kd.R_drewN | apply Kd.R_drew)); exact HO_273002.out))) (below_size (bs2_ HB.out GE271.out GE272.out))); have n3_ := mkA (blk_below (g := gb271) (o := .cells #[.int .i64 x272000_1, .int .i64 x272001_1, .slice none 0 0] 27 (0, 0)) (bl_ BK271.out) hb); have n4_ := mkA (blk_below (g := gb272) (o := .cells #[.int .i64 x273000_1, .int .i64 x273001_1, u273002] 27 (0, 0)) (bl_ BK272.out) hb); have n5_ := mkA (below_step (bs2_ HB.out GE271.out GE272.out) hb); clear HO_11; clear HO_273002; clear BK271; clear BK272; clear HB; have HO_11 := n0_; have HO_273002 := n1_; have HO280 := n2_; have BK271 := n3_; have BK272 := n4_; have HB := n5_; clear n0_ n1_ n2_ n3_ n4_ n5_; (try clear hb); (try clear hb2); (try clear hk); (try clear hi); (try clear ho0); obtain ⟨Ao32, co32, eo32⟩ := Kd.R_slice HO280.out; subst eo32; have hnb33 := NB272_271.out; have hnc33 := NB271_272.out; have hcz34_0 : w31.cell? ⟨gb272, 0, none⟩ = some (.int .i64 x273000_1) := (blk_cell BK272.out 0).trans rfl; have hcz34_1 : w31.cell? ⟨gb272, 1, none⟩ = some (.int .i64 x273001_1) := (blk_cell BK272.out 1).trans rfl; have hcz34_2 : w31.cell? ⟨gb272, 2, none⟩ = some (u273002) := (blk_cell BK272.out 2).trans rfl; have hfz34_0 := blk_frozen BK272.out 0; have hfz34_1 := blk_frozen BK272.out 1; have hfz34_2 := blk_frozen BK272.out 2) | ((with_reducible refine gate_builtin (b := .append) (xs := #[.tmp 45, .tmp 46]) rfl ?_); (try (refine gate_guard (by rfl) ?_; dsimp only)); at_builtin; refine Kd.R_append_rows (Kd.int .i64) (w0 := w) w.heap.size rfl (.tmp 45) (.tmp 46) 22 2 (.int .i64 0) 8 rfl Tryd.underlying22 info2 rfl (by decide) (by omega) u273002 x273002_1 t277 _ _ _ (fun k_ => some k_ ≠ (.slice Ao32 t277.length co32 : Value).ownBlock) (fun _ => False) rfl rfl ?aO ?aR (fun _ _ h => h) (fun _ h => h.elim) ?aF ?aB ?aS ?aL ?_; (case aR => refine (Kd.R_reads' (e := 2) (base := w.heap.size) (ok := fun k_ => (True ∧ some k_ ≠ (u273002 : Value).ownBlock)) (n := t277.length) (c := co32) ?_).2.2; exact (by (with_reducible repeat (first | apply Kd.R_alloc | apply Kd.R_drewN | apply Kd.R_drew)); exact (Kd.R_mono (Kd.R_far (p := ⟨gb272, 1, none⟩) (Kd.R_far (p := ⟨gb272, 0, none⟩) (Kd.R_types HO280.out BK272.out (by decide)) (fun _ hk => hk.2) (.int .i64 (t277.length : Int))) (fun _ hk => hk.2) (.int .i64 (wrap64 (x273001_1 + 1)))) (fun _ h_ => h_.1)))); (case aB => exact (bs2_ HB.out GE271.out GE272.out)); (case aF => exact (fun k_ hk => Kd.fresh' (Kd.R_lt (by (with_reducible repeat (first | apply Kd.R_alloc | apply Kd.R_drewN | apply Kd.R_drew)); exact (Kd.R_mono (Kd.R_far (p := ⟨gb272, 1, none⟩) (Kd.R_far (p := ⟨gb272, 0, none⟩) (Kd.R_types HO280.out BK272.out (by decide)) (fun _ hk => hk.2) (.int .i64 (t277.length : Int))) (fun _ hk => hk.2) (.int .i64 (wrap64 (x273001_1 + 1)))) (fun _ h_ => h_.1)))) k_ hk)); (case aO => exact (by (with_reducible repeat (first | apply Kd.R_alloc | apply Kd.R_drewN | apply Kd.R_drew)); exact Kd.R_mono (Kd.R_far (p := ⟨gb272, 1, none⟩) (Kd.R_far (p := ⟨gb272, 0, none⟩) (Kd.R_types HO_273002.out BK272.out (by decide)) (fun _ hk => hk.2) (.int .i64 (t277.length : Int))) (fun _ hk => hk.2) (.int .i64 (wrap64 (x273001_1 + 1)))) (fun _ hk => hk.1.2))); (case aS => exact (below_size (bs2_ HB.out GE271.out GE272.out))); (case aL => have := LMc30.out; omega); intro v285 w35 ho hb hg hat; rw [← Ny284.out] at ho; have n0_ := mkA (Kd.R_over' (by (with_reducible repeat (first | apply Kd.R_alloc | apply Kd.R_drewN | apply Kd.R_drew)); exact (Kd.R_mono (Kd.R_far (p := ⟨gb272, 1, none⟩) (Kd.R_far (p := ⟨gb272, 0, none⟩) (Kd.R_types HO_11.out BK272.out (by decide)) (fun _ hk => hk.2) (.int .i64 (t277.length : Int))) (fun _ hk => hk.2) (.int .i64 (wrap64 (x273001_1 + 1)))) (fun _ h_ => h_.1))) (Kd.R_typed (by (with_reducible repeat (first | apply Kd.R_alloc | apply Kd.R_drewN | apply Kd.R_drew)); exact (Kd.R_mono (Kd.R_far (p := ⟨gb272, 1, none⟩) (Kd.R_far (p := ⟨gb272, 0, none⟩) (Kd.R_types HO_273002.out BK272.out (by decide)) (fun _ hk => hk.2) (.int .i64 (t277.length : Int))) (fun _ hk => hk.2) (.int .i64 (wrap64 (x273001_1 + 1)))) (fun _ h_ => h_.1)))) (by decide) hg); have n1_ := mkA (blk_grown (g := gb271) (o := .cells #[.int .i64 x272000_1, .int .i64 x272001_1, .slice none 0 0] 27 (0, 0)) (by (with_reducible repeat (first | refine blk_drewN ?_ _ | refine blk_drew ?_ | refine blk_alloc ?_ _)); refine blk_far ?_ NB271_272.out _; (with_reducible repeat (first | refine blk_drewN ?_ _ | refine blk_drew ?_ | refine blk_alloc ?_ _)); refine blk_far ?_ NB271_272.out _; (with_reducible repeat (first | refine blk_drewN ?_ _ | refine blk_drew ?_ | refine blk_alloc ?_ _)); exact BK271.out) hg (Kd.R_ne HO_273002.out BK271.out (by decide))); have n2_ := mkA (blk_grown (g := gb272) (o := .cells #[.int .i64 (t277.length : Int), .int .i64 (wrap64 (x273001_1 + 1)), u273002] 27 (0, 0)) (by (with_reducible repeat (first | refine blk_drewN ?_ _ | refine blk_drew ?_ | refine blk_alloc ?_ _)); refine blk_put (cs := #[.int .i64 (t277.length : Int), .int .i64 x273001_1, u273002]) ?_ 1 _ rfl; (with_reducible repeat (first | refine blk_drewN ?_ _ | refine blk_drew ?_ | refine blk_alloc ?_ _)); refine blk_put (cs := #[.int .i64 x273000_1, .int .i64 x273001_1, u273002]) ?_ 0 _ rfl; (with_reducible repeat (first | refine blk_drewN ?_ _ | refine blk_drew ?_ | refine blk_alloc ?_ _)); exact BK272.out) hg (Kd.R_ne HO_273002.out BK272.out (by decide))); have n3_ := mkA (Kd.R_after (ok := (fun _ => True)) (by (with_reducible repeat (first | apply Kd.R_alloc | apply Kd.R_drewN | apply Kd.R_drew)); exact Kd.R_mono (Kd.R_far (p := ⟨gb272, 1, none⟩) (Kd.R_far (p := ⟨gb272, 0, none⟩) (Kd.R_types HO280.out BK272.out (by decide)) (fun _ hk => hk.2) (.int .i64 (t277.length : Int))) (fun _ hk => hk.2) (.int .i64 (wrap64 (x273001_1 + 1)))) (fun _ hk => ⟨trivial, hk.1.2⟩)) hg hat); have n4_ := mkA (hb); have n5_ := mkA (ho); clear HO_11; clear BK271; clear BK272; clear HO280; clear HB; clear HO_273002; have HO_11 := n0_; have BK271 := n1_; have BK272 := n2_; have HO280 := n3_; have HB := n4_; have HO286 := n5_; clear n0_ n1_ n2_ n3_ n4_ n5_; clear ho hb hg hat; obtain ⟨Ao36, co36, eo36⟩ := Kd.R_slice HO286.out; subst eo36; have hcz37_0 : w35.cell? ⟨gb272, 0, none⟩ = some (.int .i64 (t277.length : Int)) := (blk_cell BK272.out 0).trans rfl; have hcz37_1 : w35.cell? ⟨gb272, 1, none⟩ = some (.int .i64 (wrap64 (x273001_1 + 1))) := (blk_cell BK272.out 1).trans rfl; have hcz37_2 : w35.cell? ⟨gb272, 2, none⟩ = some (u273002) := (blk_cell BK272.out 2).trans rfl; have hfz37_0 := blk_frozen BK272.out 0; have hfz37_1 := blk_frozen BK272.out 1; have hfz37_2 := blk_frozen BK272.out 2))
     go_roundg k1
     case measure => have := HK1.out; omega
     case rel => exact ⟨(wrap64 (x13_1 + 1)), (x272000_1), (x272001_1), ((t277.length : Int)), (wrap64 (x273001_1 + 1)), (y284), (.slice Ao36 y284.length co36), (by first | rfl | (simp; done) | (simp [*]; done) | (simp [i64_w, i32_w]; done)), H', ⟨by have := HK1.out; omega⟩, ⟨by (with_reducible repeat (first | apply Kd.R_alloc | apply Kd.R_drewN | apply Kd.R_drew)); exact Kd.R_mono (Kd.R_far (p := ⟨gb272, 2, none⟩) (Kd.R_types HO_11.out BK272.out (by decide)) (fun _ hk => hk.2) (.slice Ao36 y284.length co36)) (fun _ hk => trivial)⟩, ⟨by (with_reducible repeat (first | apply Kd.R_alloc | apply Kd.R_drewN | apply Kd.R_drew)); exact Kd.R_mono (Kd.R_far (p := ⟨gb272, 2, none⟩) (Kd.R_types HO286.out BK272.out (by decide)) (fun _ hk => hk.2) (.slice Ao36 y284.length co36)) (fun _ hk => trivial)⟩, ⟨by (with_reducible repeat (first | refine blk_drewN ?_ _ | refine blk_drew ?_ | refine blk_alloc ?_ _)); refine blk_far ?_ NB271_272.out _; (with_reducible repeat (first | refine blk_drewN ?_ _ | refine blk_drew ?_ | refine blk_alloc ?_ _)); exact BK271.out⟩, ⟨by (with_reducible repeat (first | refine blk_drewN ?_ _ | refine blk_drew ?_ | refine blk_alloc ?_ _)); refine blk_put (cs := #[.int .i64 (t277.length : Int), .int .i64 (wrap64 (x273001_1 + 1)), u273002]) ?_ 2 _ rfl; (with_reducible repeat (first | refine blk_drewN ?_ _ | refine blk_drew ?_ | refine blk_alloc ?_ _)); exact BK272.out⟩, ⟨by repeat (first | (with_reducible first | exact HB.out | apply below_alloc | apply pw_below_drewN | apply below_drew1 | refine below_set ?_ GE271.out | refine below_set ?_ GE272.out) | exact HB.out)⟩⟩
   rw [if_pos c15] at H
   have c15b0 : decide (0 < x13_1) = true := decide_eq_true c15
   clear c15
   by_cases c16 : (t277.length : Int) = x273000_1
   rotate_left
   · rw [if_neg c16] at H
     have c16b0 : ((t277.length : Int) == x273000_1) = false := beq_eq_false_iff_ne.mpr c16
     have c16b1 : ((t277.length : Int) != x273000_1) = true := bne_iff_ne.mpr c16
     simp only [Option.some.injEq, Prod.mk.injEq] at H
     obtain ⟨rfl, rfl, rfl, rfl⟩ := H
     have p276 : 0 ≤ (x13_1 : Int) := dt_
     have q276 : x13_1 < (t273.length : Int) := dt_
     obtain ⟨ad276, e276, hx276_0⟩ := Kd.at_string (Kd.R_reads' HO_11.out).2.2 x13_1 p276 q276
     cases e276
     replace p276 := eq_true p276
     replace q276 := eq_true q276
     go_wp2_with (first | ((with_reducible refine gate_callee (f := 24) rfl ?_); refine goesL_ (some 20) rfl rfl Tryd.func24 (by kernel_rfl) rfl #[.string (rdOf ByteArray.empty t273 x13_1)] rfl (by (try simp only [List.map_toArray, List.map_cons, List.map_nil]); first | done | rfl | (simp only [List.length_drop, List.length_take]; rfl)) ?_; (with_reducible refine (impl_ReadList.calls k1 (rdOf ByteArray.empty t273 x13_1) l1 t277 true _ ?side1 A13.out).mono ?_); (case side1 => exact cb_ HR1.out HB.out); rintro e w25 ⟨v279, rfl, ho0, hb⟩; refine ⟨_, rfl, ?_⟩; have n0_ := mkA (Kd.R_below (by (with_reducible repeat (first | apply Kd.R_alloc | apply Kd.R_drewN | apply Kd.R_drew)); exact HO_11.out) hb); have n1_ := mkA (Kd.R_elder' (by (with_reducible repeat (first | apply Kd.R_alloc | apply Kd.R_drewN | apply Kd.R_drew)); exact HO_273002.out) (Kd.R_base ho0) hb); have n2_ := mkA (Kd.R_lower (Kd.R_new' ho0 (Kd.R_lt (by (with_reducible repeat (first | apply Kd.R_alloc | apply Kd.R_drewN | apply Kd.R_drew)); exact HO_273002.out))) (below_size (bs2_ HB.out GE271.out GE272.out))); have n3_ := mkA (blk_below (g := gb271) (o := .cells #[.int .i64 x272000_1, .int .i64 x272001_1, .slice none 0 0] 27 (0, 0)) (bl_ BK271.out) hb); have n4_ := mkA (blk_below (g := gb272) (o := .cells #[.int .i64 x273000_1, .int .i64 x273001_1, u273002] 27 (0, 0)) (bl_ BK272.out) hb); have n5_ := mkA (below_step (bs2_ HB.out GE271.out GE272.out) hb); clear HO_11; clear HO_273002; clear BK271; clear BK272; clear HB; have HO_11 := n0_; have HO_273002 := n1_; have HO280 := n2_; have BK271 := n3_; have BK272 := n4_; have HB := n5_; clear n0_ n1_ n2_ n3_ n4_ n5_; (try clear hb); (try clear hb2); (try clear hk); (try clear hi); (try clear ho0); obtain ⟨Ao26, co26, eo26⟩ := Kd.R_slice HO280.out; subst eo26; have hnb27 := NB272_271.out; have hnc27 := NB271_272.out; have hcz28_0 : w25.cell? ⟨gb272, 0, none⟩ = some (.int .i64 x273000_1) := (blk_cell BK272.out 0).trans rfl; have hcz28_1 : w25.cell? ⟨gb272, 1, none⟩ = some (.int .i64 x273001_1) := (blk_cell BK272.out 1).trans rfl; have hcz28_2 : w25.cell? ⟨gb272, 2, none⟩ = some (u273002) := (blk_cell BK272.out 2).trans rfl; have hfz28_0 := blk_frozen BK272.out 0; have hfz28_1 := blk_frozen BK272.out 1; have hfz28_2 := blk_frozen BK272.out 2; have hcz29_0 : w25.cell? ⟨gb271, 0, none⟩ = some (.int .i64 x272000_1) := (blk_cell BK271.out 0).trans rfl; have hcz29_1 : w25.cell? ⟨gb271, 1, none⟩ = some (.int .i64 x272001_1) := (blk_cell BK271.out 1).trans rfl; have hcz29_2 : w25.cell? ⟨gb271, 2, none⟩ = some (.slice none 0 0) := (blk_cell BK271.out 2).trans rfl; have hfz29_0 := blk_frozen BK271.out 0; have hfz29_1 := blk_frozen BK271.out 1; have hfz29_2 := blk_frozen BK271.out 2))
     refine bodyPost_ret (results_ct rfl _ _ gb271 27 #[.int .i64 0, .int .i64 0, .slice none 0 0] (0, 0) _ rfl (by (with_reducible repeat (first | refine blk_drewN ?_ _ | refine blk_drew ?_ | refine blk_alloc ?_ _)); refine blk_put (cs := #[.int .i64 0, .int .i64 0, .slice none 0 0]) ?_ 2 _ rfl; (with_reducible repeat (first | refine blk_drewN ?_ _ | refine blk_drew ?_ | refine blk_alloc ?_ _)); refine blk_put (cs := #[.int .i64 0, .int .i64 x272001_1, .slice none 0 0]) ?_ 1 _ rfl; (with_reducible repeat (first | refine blk_drewN ?_ _ | refine blk_drew ?_ | refine blk_alloc ?_ _)); refine blk_put (cs := #[.int .i64 x272000_1, .int .i64 x272001_1, .slice none 0 0]) ?_ 0 _ rfl; (with_reducible repeat (first | refine blk_drewN ?_ _ | refine blk_drew ?_ | refine blk_alloc ?_ _)); exact BK271.out) Tryd.underlying27 rfl (by kernel_rfl)) rfl ?_
     exact ⟨_, by first | rfl | (simp [errW_none, errW_some] <;> rfl) | (simp [*, errW_none, errW_some] <;> rfl), by first | exact Kd.R_nil _ _ _ _ _ | exact Kd.N_nil _ _ _ _ _ | exact Kd.V_nil _ _ _ _ _ | exact Kd.Q_nil _ _ _ _ _ | exact Kd.S_nil _ _ _ _ _, by repeat (first | (with_reducible first | exact HB.out | apply below_alloc | apply pw_below_drewN | apply below_drew1 | refine below_set ?_ GE271.out | refine below_set ?_ GE272.out) | exact HB.out)⟩
   rw [if_pos c16] at H
   have c16b0 : ((t277.length : Int) == x273000_1) = true := beq_iff_eq.mpr c16
   have c16b1 : ((t277.length : Int) != x273000_1) = false := bne_eq_false_iff_eq.mpr c16
   clear c16
   by_cases c17 : x273002_1.length + t277.length < 17592186044416
   rotate_left
   · rw [if_neg c17] at H
     exact absurd H (by simp)
   rw [if_pos c17] at H
   have LMc17 := mkA c17
   clear c17
   obtain ⟨y281, hy281⟩ : ∃ y_ : List Int, y_ = (x273002_1 ++ t277) := ⟨_, rfl⟩
   replace H : (impl_ReadTiling.l0 k1 t273 (t273.length : Int) (wrap64 (x13_1 + 1)) l1 (t277.length : Int) (wrap64 (x273001_1 + 1)) y281) = some (r1, r2, r3, r4) := by first | (rw [hy281]; with_reducible exact H) | (have H2_ := (Option.bind_some _ _).symm.trans H; rw [hy281]; with_reducible exact H2_) | (have H2_ := (Option.bind_some _ _).symm.trans H; with_reducible exact H2_) | with_reducible exact H | (rw [hy281]; exact H) | exact H
   have Ny281 := mkA hy281
   clear hy281
   have H' := mkA H
   clear H
   have p276 : 0 ≤ (x13_1 : Int) := dt_
   have q276 : x13_1 < (t273.length : Int) := dt_
   obtain ⟨ad276, e276, hx276_0⟩ := Kd.at_string (Kd.R_reads' HO_11.out).2.2 x13_1 p276 q276
   cases e276
   replace p276 := eq_true p276
   replace q276 := eq_true q276
   go_wp2_with (first | ((with_reducible refine gate_callee (f := 24) rfl ?_); refine goesL_ (some 20) rfl rfl Tryd.func24 (by kernel_rfl) rfl #[.string (rdOf ByteArray.empty t273 x13_1)] rfl (by (try simp only [List.map_toArray, List.map_cons, List.map_nil]); first | done | rfl | (simp only [List.length_drop, List.length_take]; rfl)) ?_; (with_reducible refine (impl_ReadList.calls k1 (rdOf ByteArray.empty t273 x13_1) l1 t277 true _ ?side1 A13.out).mono ?_); (case side1 => exact cb_ HR1.out HB.out); rintro e w18 ⟨v279, rfl, ho0, hb⟩; refine ⟨_, rfl, ?_⟩; have n0_ := mkA (Kd.R_below (by (with_reducible repeat (first | apply Kd.R_alloc | apply Kd.R_drewN | apply Kd.R_drew)); exact HO_11.out) hb); have n1_ := mkA (Kd.R_elder' (by (with_reducible repeat (first | apply Kd.R_alloc | apply Kd.R_drewN | apply Kd.R_drew)); exact HO_273002.out) (Kd.R_base ho0) hb); have n2_ := mkA (Kd.R_lower (Kd.R_new' ho0 (Kd.R_lt (by (with_reducible repeat (first | apply Kd.R_alloc | apply Kd.R_drewN | apply Kd.R_drew)); exact HO_273002.out))) (below_size (bs2_ HB.out GE271.out GE272.out))); have n3_ := mkA (blk_below (g := gb271) (o := .cells #[.int .i64 x272000_1, .int .i64 x272001_1, .slice none 0 0] 27 (0, 0)) (bl_ BK271.out) hb); have n4_ := mkA (blk_below (g := gb272) (o := .cells #[.int .i64 x273000_1, .int .i64 x273001_1, u273002] 27 (0, 0)) (bl_ BK272.out) hb); have n5_ := mkA (below_step (bs2_ HB.out GE271.out GE272.out) hb); clear HO_11; clear HO_273002; clear BK271; clear BK272; clear HB; have HO_11 := n0_; have HO_273002 := n1_; have HO280 := n2_; have BK271 := n3_; have BK272 := n4_; have HB := n5_; clear n0_ n1_ n2_ n3_ n4_ n5_; (try clear hb); (try clear hb2); (try clear hk); (try clear hi); (try clear ho0); obtain ⟨Ao19, co19, eo19⟩ := Kd.R_slice HO280.out; subst eo19; have hnb20 := NB272_271.out; have hnc20 := NB271_272.out; have hcz21_0 : w18.cell? ⟨gb272, 0, none⟩ = some (.int .i64 x273000_1) := (blk_cell BK272.out 0).trans rfl; have hcz21_1 : w18.cell? ⟨gb272, 1, none⟩ = some (.int .i64 x273001_1) := (blk_cell BK272.out 1).trans rfl; have hcz21_2 : w18.cell? ⟨gb272, 2, none⟩ = some (u273002) := (blk_cell BK272.out 2).trans rfl; have hfz21_0 := blk_frozen BK272.out 0; have hfz21_1 := blk_frozen BK272.out 1; have hfz21_2 := blk_frozen BK272.out 2) | ((with_reducible refine gate_builtin (b := .append) (xs := #[.tmp 45, .tmp 46]) rfl ?_); (try (refine gate_guard (by rfl) ?_; dsimp only)); at_builtin; refine Kd.R_append_rows (Kd.int .i64) (w0 := w) w.heap.size rfl (.tmp 45) (.tmp 46) 22 2 (.int .i64 0) 8 rfl Tryd.underlying22 info2 rfl (by decide) (by omega) u273002 x273002_1 t277 _ _ _ (fun k_ => some k_ ≠ (.slice Ao19 t277.length co19 : Value).ownBlock) (fun _ => False) rfl rfl ?aO ?aR (fun _ _ h => h) (fun _ h => h.elim) ?aF ?aB ?aS ?aL ?_; (case aR => refine (Kd.R_reads' (e := 2) (base := w.heap.size) (ok := fun k_ => (True ∧ some k_ ≠ (u273002 : Value).ownBlock)) (n := t277.length) (c := co19) ?_).2.2; exact (by (with_reducible repeat (first | apply Kd.R_alloc | apply Kd.R_drewN | apply Kd.R_drew)); exact (Kd.R_mono (Kd.R_far (p := ⟨gb272, 1, none⟩) (Kd.R_far (p := ⟨gb272, 0, none⟩) (Kd.R_types HO280.out BK272.out (by decide)) (fun _ hk => hk.2) (.int .i64 (t277.length : Int))) (fun _ hk => hk.2) (.int .i64 (wrap64 (x273001_1 + 1)))) (fun _ h_ => h_.1)))); (case aB => exact (bs2_ HB.out GE271.out GE272.out)); (case aF => exact (fun k_ hk => Kd.fresh' (Kd.R_lt (by (with_reducible repeat (first | apply Kd.R_alloc | apply Kd.R_drewN | apply Kd.R_drew)); exact (Kd.R_mono (Kd.R_far (p := ⟨gb272, 1, none⟩) (Kd.R_far (p := ⟨gb272, 0, none⟩) (Kd.R_types HO280.out BK272.out (by decide)) (fun _ hk => hk.2) (.int .i64 (t277.length : Int))) (fun _ hk => hk.2) (.int .i64 (wrap64 (x273001_1 + 1)))) (fun _ h_ => h_.1)))) k_ hk)); (case aO => exact (by (with_reducible repeat (first | apply Kd.R_alloc | apply Kd.R_drewN | apply Kd.R_drew)); exact Kd.R_mono (Kd.R_far (p := ⟨gb272, 1, none⟩) (Kd.R_far (p := ⟨gb272, 0, none⟩) (Kd.R_types HO_273002.out BK272.out (by decide)) (fun _ hk => hk.2) (.int .i64 (t277.length : Int))) (fun _ hk => hk.2) (.int .i64 (wrap64 (x273001_1 + 1)))) (fun _ hk => hk.1.2))); (case aS => exact (below_size (bs2_ HB.out GE271.out GE272.out))); (case aL => have := LMc17.out; omega); intro v282 w22 ho hb hg hat; rw [← Ny281.out] at ho; have n0_ := mkA (Kd.R_over' (by (with_reducible repeat (first | apply Kd.R_alloc | apply Kd.R_drewN | apply Kd.R_drew)); exact (Kd.R_mono (Kd.R_far (p := ⟨gb272, 1, none⟩) (Kd.R_far (p := ⟨gb272, 0, none⟩) (Kd.R_types HO_11.out BK272.out (by decide)) (fun _ hk => hk.2) (.int .i64 (t277.length : Int))) (fun _ hk => hk.2) (.int .i64 (wrap64 (x273001_1 + 1)))) (fun _ h_ => h_.1))) (Kd.R_typed (by (with_reducible repeat (first | apply Kd.R_alloc | apply Kd.R_drewN | apply Kd.R_drew)); exact (Kd.R_mono (Kd.R_far (p := ⟨gb272, 1, none⟩) (Kd.R_far (p := ⟨gb272, 0, none⟩) (Kd.R_types HO_273002.out BK272.out (by decide)) (fun _ hk => hk.2) (.int .i64 (t277.length : Int))) (fun _ hk => hk.2) (.int .i64 (wrap64 (x273001_1 + 1)))) (fun _ h_ => h_.1)))) (by decide) hg); have n1_ := mkA (blk_grown (g := gb271) (o := .cells #[.int .i64 x272000_1, .int .i64 x272001_1, .slice none 0 0] 27 (0, 0)) (by (with_reducible repeat (first | refine blk_drewN ?_ _ | refine blk_drew ?_ | refine blk_alloc ?_ _)); refine blk_far ?_ NB271_272.out _; (with_reducible repeat (first | refine blk_drewN ?_ _ | refine blk_drew ?_ | refine blk_alloc ?_ _)); refine blk_far ?_ NB271_272.out _; (with_reducible repeat (first | refine blk_drewN ?_ _ | refine blk_drew ?_ | refine blk_alloc ?_ _)); exact BK271.out) hg (Kd.R_ne HO_273002.out BK271.out (by decide))); have n2_ := mkA (blk_grown (g := gb272) (o := .cells #[.int .i64 (t277.length : Int), .int .i64 (wrap64 (x273001_1 + 1)), u273002] 27 (0, 0)) (by (with_reducible repeat (first | refine blk_drewN ?_ _ | refine blk_drew ?_ | refine blk_alloc ?_ _)); refine blk_put (cs := #[.int .i64 (t277.length : Int), .int .i64 x273001_1, u273002]) ?_ 1 _ rfl; (with_reducible repeat (first | refine blk_drewN ?_ _ | refine blk_drew ?_ | refine blk_alloc ?_ _)); refine blk_put (cs := #[.int .i64 x273000_1, .int .i64 x273001_1, u273002]) ?_ 0 _ rfl; (with_reducible repeat (first | refine blk_drewN ?_ _ | refine blk_drew ?_ | refine blk_alloc ?_ _)); exact BK272.out) hg (Kd.R_ne HO_273002.out BK272.out (by decide))); have n3_ := mkA (Kd.R_after (ok := (fun _ => True)) (by (with_reducible repeat (first | apply Kd.R_alloc | apply Kd.R_drewN | apply Kd.R_drew)); exact Kd.R_mono (Kd.R_far (p := ⟨gb272, 1, none⟩) (Kd.R_far (p := ⟨gb272, 0, none⟩) (Kd.R_types HO280.out BK272.out (by decide)) (fun _ hk => hk.2) (.int .i64 (t277.length : Int))) (fun _ hk => hk.2) (.int .i64 (wrap64 (x273001_1 + 1)))) (fun _ hk => ⟨trivial, hk.1.2⟩)) hg hat); have n4_ := mkA (hb); have n5_ := mkA (ho); clear HO_11; clear BK271; clear BK272; clear HO280; clear HB; clear HO_273002; have HO_11 := n0_; have BK271 := n1_; have BK272 := n2_; have HO280 := n3_; have HB := n4_; have HO283 := n5_; clear n0_ n1_ n2_ n3_ n4_ n5_; clear ho hb hg hat; obtain ⟨Ao23, co23, eo23⟩ := Kd.R_slice HO283.out; subst eo23; have hcz24_0 : w22.cell? ⟨gb272, 0, none⟩ = some (.int .i64 (t277.length : Int)) := (blk_cell BK272.out 0).trans rfl; have hcz24_1 : w22.cell? ⟨gb272, 1, none⟩ = some (.int .i64 (wrap64 (x273001_1 + 1))) := (blk_cell BK272.out 1).trans rfl; have hcz24_2 : w22.cell? ⟨gb272, 2, none⟩ = some (u273002) := (blk_cell BK272.out 2).trans rfl; have hfz24_0 := blk_frozen BK272.out 0; have hfz24_1 := blk_frozen BK272.out 1; have hfz24_2 := blk_frozen BK272.out 2))
   go_roundg k1
   case measure => have := HK1.out; omega
   case rel => exact ⟨(wrap64 (x13_1 + 1)), (x272000_1), (x272001_1), ((t277.length : Int)), (wrap64 (x273001_1 + 1)), (y281), (.slice Ao23 y281.length co23), (by first | rfl | (simp; done) | (simp [*]; done) | (simp [i64_w, i32_w]; done)), H', ⟨by have := HK1.out; omega⟩, ⟨by (with_reducible repeat (first | apply Kd.R_alloc | apply Kd.R_drewN | apply Kd.R_drew)); exact Kd.R_mono (Kd.R_far (p := ⟨gb272, 2, none⟩) (Kd.R_types HO_11.out BK272.out (by decide)) (fun _ hk => hk.2) (.slice Ao23 y281.length co23)) (fun _ hk => trivial)⟩, ⟨by (with_reducible repeat (first | apply Kd.R_alloc | apply Kd.R_drewN | apply Kd.R_drew)); exact Kd.R_mono (Kd.R_far (p := ⟨gb272, 2, none⟩) (Kd.R_types HO283.out BK272.out (by decide)) (fun _ hk => hk.2) (.slice Ao23 y281.length co23)) (fun _ hk => trivial)⟩, ⟨by (with_reducible repeat (first | refine blk_drewN ?_ _ | refine blk_drew ?_ | refine blk_alloc ?_ _)); refine blk_far ?_ NB271_272.out _; (with_reducible repeat (first | refine blk_drewN ?_ _ | refine blk_drew ?_ | refine blk_alloc ?_ _)); exact BK271.out⟩, ⟨by (with_reducible repeat (first | refine blk_drewN ?_ _ | refine blk_drew ?_ | refine blk_alloc ?_ _)); refine blk_put (cs := #[.int .i64 (t277.length : Int), .int .i64 (wrap64 (x273001_1 + 1)), u273002]) ?_ 2 _ rfl; (with_reducible repeat (first | refine blk_drewN ?_ _ | refine blk_drew ?_ | refine blk_alloc ?_ _)); exact BK272.out⟩, ⟨by repeat (first | (with_reducible first | exact HB.out | apply below_alloc | apply pw_below_drewN | apply below_drew1 | refine below_set ?_ GE271.out | refine below_set ?_ GE272.out) | exact HB.out)⟩⟩
end Go.Proofs.YtopopjkoanpjiaaDoor.GFnExactReadTiling

-- Written by the session's own program (gen.py) out of the translation's print. Lean checks it.
import Derived.Test.YtopopjkoanpjiaaGFnExactTileNeighboursx0
import Derived.Test.YtopopjkoanpjiaaGFnExactTileNeighboursx6
namespace Go.Proofs.Ytopopjkoanpjiaa.GFnExactTileNeighbours
open Go.RowKit Go.Proofs.YtopopjkoanpjiaaW.PrintWords Go.Proofs.YtopopjkoanpjiaaW.PrintLast Go.Proofs.YtopopjkoanpjiaaW.PrintMore
attribute [local go_sem] max2_int min2_int max_two min_two max_three min_three max_four min_four   -- for this text's walks alone
set_option linter.unusedVariables false
set_option linter.unusedSimpArgs false

/-! ### impl_ValidTiling: function 19 -/
mutual
def impl_ValidTiling.j0 : Nat → Bool → Int → Int → List Int → Option (Bool)
  | 0, _, _, _, _ => none
  | k + 1, x34, x235000, x235001, x235002 => if x34 = true then (some false) else ((slices_Min_int64_int64.f k x235002).bind fun t237 => (if t237 < 0 then (impl_ValidTiling.j1 k true x235000 x235001 x235002) else ((slices_Max_int64_int64.f k x235002).bind fun t238 => (impl_ValidTiling.j1 k (decide (t238 ≥ 36)) x235000 x235001 x235002))))
def impl_ValidTiling.j1 : Nat → Bool → Int → Int → List Int → Option (Bool)
  | 0, _, _, _, _ => none
  | k + 1, x44, x235000, x235001, x235002 => if x44 = true then (some false) else ((impl_tiles.f k x235000 x235001 x235002).bind fun t239 => (impl_ValidTiling.l0 k t239 0 x235000 x235001 x235002))
def impl_ValidTiling.l0 : Nat → Int → Int → Int → Int → List Int → Option (Bool)
  | 0, _, _, _, _, _ => none
  | k + 1, x47, x48, x235000, x235001, x235002 => if x48 < x47 then ((slices_Index_int64_int64.f k x235002 x48).bind fun t240 => (if t240 < 0 then (some false) else (if 0 ≤ (x235002.length : Int) then (if ((x235002.length : Int) : Int).toNat ≤ 281474976710656 then ((some (List.replicate ((x235002.length : Int) : Int).toNat false : List Bool)).bind fun y241 => (if 0 ≤ t240 then (if t240 < (y241.length : Int) then (impl_ValidTiling.l1 k x48 (y241.set (t240 : Int).toNat true) (([t240] : List Int)) 0 0 x47 x48 x235000 x235001 x235002) else (none)) else (none))) else (none)) else (none)))) else (some true)
def impl_ValidTiling.l1 : Nat → Int → List Bool → List Int → Int → Int → Int → Int → Int → Int → List Int → Option (Bool)
  | 0, _, _, _, _, _, _, _, _, _, _ => none
  | k + 1, x4, x6, x7, x8, x9, x47, x48, x235000, x235001, x235002 => if x9 < (x7.length : Int) then (if 0 ≤ x9 then ((impl_touchingCells.f x235000 x235001 x235002 (rd x7 x9)).bind fun bt249 => (impl_ValidTiling.l2 k x4 x6 x7 (wrap64 (x8 + 1)) x9 x47 x48 0 bt249.1 bt249.2.1 bt249.2.2.1 bt249.2.2.2 x235000 x235001 x235002)) else (none)) else (impl_ValidTiling.l3 k x4 x8 x47 x48 x235002 (x235002.length : Int) 0 x235000 x235001 x235002)
def impl_ValidTiling.l2 : Nat → Int → List Bool → List Int → Int → Int → Int → Int → Int → Int → Int → Int → Int → Int → Int → List Int → Option (Bool)
  | 0, _, _, _, _, _, _, _, _, _, _, _, _, _, _, _ => none
  | k + 1, x4, x6, x7, x8, x9, x47, x48, x80, x508, x509, x510, x511, x235000, x235001, x235002 => if x80 < 4 then (if 0 ≤ x80 then (if 0 ≤ (rd [x508, x509, x510, x511] x80) then (if (rd [x508, x509, x510, x511] x80) < (x235002.length : Int) then (if (rd x235002 (rd [x508, x509, x510, x511] x80)) = x4 then (if (rd [x508, x509, x510, x511] x80) < (x6.length : Int) then (if (rdOf false x6 (rd [x508, x509, x510, x511] x80) = true) then (impl_ValidTiling.l2 k x4 x6 x7 x8 x9 x47 x48 (wrap64 (x80 + 1)) x508 x509 x510 x511 x235000 x235001 x235002) else (if x7.length < 17592186044416 then (impl_ValidTiling.l2 k x4 (x6.set ((rd [x508, x509, x510, x511] x80) : Int).toNat true) (x7 ++ [rd [x508, x509, x510, x511] x80]) x8 x9 x47 x48 (wrap64 (x80 + 1)) x508 x509 x510 x511 x235000 x235001 x235002) else (none))) else (none)) else (impl_ValidTiling.l2 k x4 x6 x7 x8 x9 x47 x48 (wrap64 (x80 + 1)) x508 x509 x510 x511 x235000 x235001 x235002)) else (none)) else (none)) else (none)) else (impl_ValidTiling.l1 k x4 x6 x7 x8 (wrap64 (x9 + 1)) x47 x48 x235000 x235001 x235002)
def impl_ValidTiling.l3 : Nat → Int → Int → Int → Int → List Int → Int → Int → Int → Int → List Int → Option (Bool)
  | 0, _, _, _, _, _, _, _, _, _, _ => none
  | k + 1, x4, x8, x47, x48, x106, x107, x108, x235000, x235001, x235002 => if x108 < x107 then (if 0 ≤ x108 then (if x108 < (x106.length : Int) then (if (rd x106 x108) = x4 then (impl_ValidTiling.l3 k x4 (wrap64 (x8 - 1)) x47 x48 x106 x107 (wrap64 (x108 + 1)) x235000 x235001 x235002) else (impl_ValidTiling.l3 k x4 x8 x47 x48 x106 x107 (wrap64 (x108 + 1)) x235000 x235001 x235002)) else (none)) else (none)) else (if x8 = 0 then (impl_ValidTiling.l0 k x47 (wrap64 (x48 + 1)) x235000 x235001 x235002) else (some false))
end
def impl_ValidTiling.f (k : Nat) (a0_0 : Int) (a0_1 : Int) (l0_2 : List Int) : Option (Bool) := (impl_within.f a0_0 1 12).bind fun t235 => (if t235 = true then ((impl_within.f a0_1 1 12).bind fun t236 => (if t236 = true then (impl_ValidTiling.j0 k ((l0_2.length : Int) != (wrap64 (a0_0 * a0_1))) a0_0 a0_1 l0_2) else (impl_ValidTiling.j0 k true a0_0 a0_1 l0_2))) else (impl_ValidTiling.j0 k true a0_0 a0_1 l0_2))
theorem impl_ValidTiling.mono_l : ∀ k, (∀ y0 y1 y2 y3, LeO (impl_ValidTiling.j0 k y0 y1 y2 y3) (impl_ValidTiling.j0 (k + 1) y0 y1 y2 y3)) ∧ (∀ y0 y1 y2 y3, LeO (impl_ValidTiling.j1 k y0 y1 y2 y3) (impl_ValidTiling.j1 (k + 1) y0 y1 y2 y3)) ∧ (∀ y0 y1 y2 y3 y4, LeO (impl_ValidTiling.l0 k y0 y1 y2 y3 y4) (impl_ValidTiling.l0 (k + 1) y0 y1 y2 y3 y4)) ∧ (∀ y0 y1 y2 y3 y4 y5 y6 y7 y8 y9, LeO (impl_ValidTiling.l1 k y0 y1 y2 y3 y4 y5 y6 y7 y8 y9) (impl_ValidTiling.l1 (k + 1) y0 y1 y2 y3 y4 y5 y6 y7 y8 y9)) ∧ (∀ y0 y1 y2 y3 y4 y5 y6 y7 y8 y9 y10 y11 y12 y13 y14, LeO (impl_ValidTiling.l2 k y0 y1 y2 y3 y4 y5 y6 y7 y8 y9 y10 y11 y12 y13 y14) (impl_ValidTiling.l2 (k + 1) y0 y1 y2 y3 y4 y5 y6 y7 y8 y9 y10 y11 y12 y13 y14)) ∧ (∀ y0 y1 y2 y3 y4 y5 y6 y7 y8 y9, LeO (impl_ValidTiling.l3 k y0 y1 y2 y3 y4 y5 y6 y7 y8 y9) (impl_ValidTiling.l3 (k + 1) y0 y1 y2 y3 y4 y5 y6 y7 y8 y9))
  | 0 => ⟨fun _ _ _ _ r h => by simp [impl_ValidTiling.j0] at h, fun _ _ _ _ r h => by simp [impl_ValidTiling.j1] at h, fun _ _ _ _ _ r h => by simp [impl_ValidTiling.l0] at h, fun _ _ _ _ _ _ _ _ _ _ r h => by simp [impl_ValidTiling.l1] at h, fun _ _ _ _ _ _ _ _ _ _ _ _ _ _ _ r h => by simp [impl_ValidTiling.l2] at h, fun _ _ _ _ _ _ _ _ _ _ r h => by simp [impl_ValidTiling.l3] at h⟩
  | k + 1 => by
    obtain ⟨ih0, ih1, ih2, ih3, ih4, ih5⟩ := impl_ValidTiling.mono_l k
    refine ⟨?_, ?_, ?_, ?_, ?_, ?_⟩
    · intro y0 y1 y2 y3
      unfold impl_ValidTiling.j0
      repeat' first
      | (with_reducible exact ih0 _ _ _ _)
      | (with_reducible exact ih1 _ _ _ _)
      | (with_reducible exact ih2 _ _ _ _ _)
      | (with_reducible exact ih3 _ _ _ _ _ _ _ _ _ _)
      | (with_reducible exact ih4 _ _ _ _ _ _ _ _ _ _ _ _ _ _ _)
      | (with_reducible exact ih5 _ _ _ _ _ _ _ _ _ _)
      | (with_reducible exact impl_tiles.mono _ _ _ _)
      | (with_reducible exact slices_Index_int64_int64.mono _ _ _)
      | (with_reducible exact slices_Max_int64_int64.mono _ _)
      | (with_reducible exact slices_Min_int64_int64.mono _ _)
      | (with_reducible exact LeO.refl _)
      | (with_reducible exact LeO.none _)
      | (with_reducible refine LeO.ite ?_ ?_)
      | (with_reducible refine LeO.bind ?_ (fun _ => ?_))
      | exact ih0 _ _ _ _
      | exact ih1 _ _ _ _
      | exact ih2 _ _ _ _ _
      | exact ih3 _ _ _ _ _ _ _ _ _ _
      | exact ih4 _ _ _ _ _ _ _ _ _ _ _ _ _ _ _
      | exact ih5 _ _ _ _ _ _ _ _ _ _
      | exact impl_tiles.mono _ _ _ _
      | exact slices_Index_int64_int64.mono _ _ _
      | exact slices_Max_int64_int64.mono _ _
      | exact slices_Min_int64_int64.mono _ _
      | exact LeO.none _
      | refine LeO.ite ?_ ?_
      | refine LeO.bind ?_ (fun _ => ?_)
    · intro y0 y1 y2 y3
      unfold impl_ValidTiling.j1
      repeat' first
      | (with_reducible exact ih0 _ _ _ _)
      | (with_reducible exact ih1 _ _ _ _)
      | (with_reducible exact ih2 _ _ _ _ _)
      | (with_reducible exact ih3 _ _ _ _ _ _ _ _ _ _)
      | (with_reducible exact ih4 _ _ _ _ _ _ _ _ _ _ _ _ _ _ _)
      | (with_reducible exact ih5 _ _ _ _ _ _ _ _ _ _)
      | (with_reducible exact impl_tiles.mono _ _ _ _)
      | (with_reducible exact slices_Index_int64_int64.mono _ _ _)
      | (with_reducible exact slices_Max_int64_int64.mono _ _)
      | (with_reducible exact slices_Min_int64_int64.mono _ _)
      | (with_reducible exact LeO.refl _)
      | (with_reducible exact LeO.none _)
      | (with_reducible refine LeO.ite ?_ ?_)
      | (with_reducible refine LeO.bind ?_ (fun _ => ?_))
      | exact ih0 _ _ _ _
      | exact ih1 _ _ _ _
      | exact ih2 _ _ _ _ _
      | exact ih3 _ _ _ _ _ _ _ _ _ _
      | exact ih4 _ _ _ _ _ _ _ _ _ _ _ _ _ _ _
      | exact ih5 _ _ _ _ _ _ _ _ _ _
      | exact impl_tiles.mono _ _ _ _
      | exact slices_Index_int64_int64.mono _ _ _
      | exact slices_Max_int64_int64.mono _ _
      | exact slices_Min_int64_int64.mono _ _
      | exact LeO.none _
      | refine LeO.ite ?_ ?_
      | refine LeO.bind ?_ (fun _ => ?_)
    · intro y0 y1 y2 y3 y4
      unfold impl_ValidTiling.l0
      repeat' first
      | (with_reducible exact ih0 _ _ _ _)
      | (with_reducible exact ih1 _ _ _ _)
      | (with_reducible exact ih2 _ _ _ _ _)
      | (with_reducible exact ih3 _ _ _ _ _ _ _ _ _ _)
      | (with_reducible exact ih4 _ _ _ _ _ _ _ _ _ _ _ _ _ _ _)
      | (with_reducible exact ih5 _ _ _ _ _ _ _ _ _ _)
      | (with_reducible exact impl_tiles.mono _ _ _ _)
      | (with_reducible exact slices_Index_int64_int64.mono _ _ _)
      | (with_reducible exact slices_Max_int64_int64.mono _ _)
      | (with_reducible exact slices_Min_int64_int64.mono _ _)
      | (with_reducible exact LeO.refl _)
      | (with_reducible exact LeO.none _)
      | (with_reducible refine LeO.ite ?_ ?_)
      | (with_reducible refine LeO.bind ?_ (fun _ => ?_))
      | exact ih0 _ _ _ _
      | exact ih1 _ _ _ _
      | exact ih2 _ _ _ _ _
      | exact ih3 _ _ _ _ _ _ _ _ _ _
      | exact ih4 _ _ _ _ _ _ _ _ _ _ _ _ _ _ _
      | exact ih5 _ _ _ _ _ _ _ _ _ _
      | exact impl_tiles.mono _ _ _ _
      | exact slices_Index_int64_int64.mono _ _ _
      | exact slices_Max_int64_int64.mono _ _
      | exact slices_Min_int64_int64.mono _ _
      | exact LeO.none _
      | refine LeO.ite ?_ ?_
      | refine LeO.bind ?_ (fun _ => ?_)
    · intro y0 y1 y2 y3 y4 y5 y6 y7 y8 y9
      unfold impl_ValidTiling.l1
      repeat' first
      | (with_reducible exact ih0 _ _ _ _)
      | (with_reducible exact ih1 _ _ _ _)
      | (with_reducible exact ih2 _ _ _ _ _)
      | (with_reducible exact ih3 _ _ _ _ _ _ _ _ _ _)
      | (with_reducible exact ih4 _ _ _ _ _ _ _ _ _ _ _ _ _ _ _)
      | (with_reducible exact ih5 _ _ _ _ _ _ _ _ _ _)
      | (with_reducible exact impl_tiles.mono _ _ _ _)
      | (with_reducible exact slices_Index_int64_int64.mono _ _ _)
      | (with_reducible exact slices_Max_int64_int64.mono _ _)
      | (with_reducible exact slices_Min_int64_int64.mono _ _)
      | (with_reducible exact LeO.refl _)
      | (with_reducible exact LeO.none _)
      | (with_reducible refine LeO.ite ?_ ?_)
      | (with_reducible refine LeO.bind ?_ (fun _ => ?_))
      | exact ih0 _ _ _ _
      | exact ih1 _ _ _ _
      | exact ih2 _ _ _ _ _
      | exact ih3 _ _ _ _ _ _ _ _ _ _
      | exact ih4 _ _ _ _ _ _ _ _ _ _ _ _ _ _ _
      | exact ih5 _ _ _ _ _ _ _ _ _ _
      | exact impl_tiles.mono _ _ _ _
      | exact slices_Index_int64_int64.mono _ _ _
      | exact slices_Max_int64_int64.mono _ _
      | exact slices_Min_int64_int64.mono _ _
      | exact LeO.none _
      | refine LeO.ite ?_ ?_
      | refine LeO.bind ?_ (fun _ => ?_)
    · intro y0 y1 y2 y3 y4 y5 y6 y7 y8 y9 y10 y11 y12 y13 y14
      unfold impl_ValidTiling.l2
      repeat' first
      | (with_reducible exact ih0 _ _ _ _)
      | (with_reducible exact ih1 _ _ _ _)
      | (with_reducible exact ih2 _ _ _ _ _)
      | (with_reducible exact ih3 _ _ _ _ _ _ _ _ _ _)
      | (with_reducible exact ih4 _ _ _ _ _ _ _ _ _ _ _ _ _ _ _)
      | (with_reducible exact ih5 _ _ _ _ _ _ _ _ _ _)
      | (with_reducible exact impl_tiles.mono _ _ _ _)
      | (with_reducible exact slices_Index_int64_int64.mono _ _ _)
      | (with_reducible exact slices_Max_int64_int64.mono _ _)
      | (with_reducible exact slices_Min_int64_int64.mono _ _)
      | (with_reducible exact LeO.refl _)
      | (with_reducible exact LeO.none _)
      | (with_reducible refine LeO.ite ?_ ?_)
      | (with_reducible refine LeO.bind ?_ (fun _ => ?_))
      | exact ih0 _ _ _ _
      | exact ih1 _ _ _ _
      | exact ih2 _ _ _ _ _
      | exact ih3 _ _ _ _ _ _ _ _ _ _
      | exact ih4 _ _ _ _ _ _ _ _ _ _ _ _ _ _ _
      | exact ih5 _ _ _ _ _ _ _ _ _ _
      | exact impl_tiles.mono _ _ _ _
      | exact slices_Index_int64_int64.mono _ _ _
      | exact slices_Max_int64_int64.mono _ _
      | exact slices_Min_int64_int64.mono _ _
      | exact LeO.none _
      | refine LeO.ite ?_ ?_
      | refine LeO.bind ?_ (fun _ => ?_)
    · intro y0 y1 y2 y3 y4 y5 y6 y7 y8 y9
      unfold impl_ValidTiling.l3
      repeat' first
      | (with_reducible exact ih0 _ _ _ _)
      | (with_reducible exact ih1 _ _ _ _)
      | (with_reducible exact ih2 _ _ _ _ _)
      | (with_reducible exact ih3 _ _ _ _ _ _ _ _ _ _)
      | (with_reducible exact ih4 _ _ _ _ _ _ _ _ _ _ _ _ _ _ _)
      | (with_reducible exact ih5 _ _ _ _ _ _ _ _ _ _)
      | (with_reducible exact impl_tiles.mono _ _ _ _)
      | (with_reducible exact slices_Index_int64_int64.mono _ _ _)
      | (with_reducible exact slices_Max_int64_int64.mono _ _)
      | (with_reducible exact slices_Min_int64_int64.mono _ _)
      | (with_reducible exact LeO.refl _)
      | (with_reducible exact LeO.none _)
      | (with_reducible refine LeO.ite ?_ ?_)
      | (with_reducible refine LeO.bind ?_ (fun _ => ?_))
      | exact ih0 _ _ _ _
      | exact ih1 _ _ _ _
      | exact ih2 _ _ _ _ _
      | exact ih3 _ _ _ _ _ _ _ _ _ _
      | exact ih4 _ _ _ _ _ _ _ _ _ _ _ _ _ _ _
      | exact ih5 _ _ _ _ _ _ _ _ _ _
      | exact impl_tiles.mono _ _ _ _
      | exact slices_Index_int64_int64.mono _ _ _
      | exact slices_Max_int64_int64.mono _ _
      | exact slices_Min_int64_int64.mono _ _
      | exact LeO.none _
      | refine LeO.ite ?_ ?_
      | refine LeO.bind ?_ (fun _ => ?_)
theorem impl_ValidTiling.mono : ∀ a0 a1 a2 k, LeO (impl_ValidTiling.f k a0 a1 a2) (impl_ValidTiling.f (k + 1) a0 a1 a2) := by
  intro a0 a1 a2 k
  obtain ⟨ih0, ih1, ih2, ih3, ih4, ih5⟩ := impl_ValidTiling.mono_l k
  unfold impl_ValidTiling.f
  repeat' first
      | (with_reducible exact ih0 _ _ _ _)
      | (with_reducible exact ih1 _ _ _ _)
      | (with_reducible exact ih2 _ _ _ _ _)
      | (with_reducible exact ih3 _ _ _ _ _ _ _ _ _ _)
      | (with_reducible exact ih4 _ _ _ _ _ _ _ _ _ _ _ _ _ _ _)
      | (with_reducible exact ih5 _ _ _ _ _ _ _ _ _ _)
      | (with_reducible exact impl_tiles.mono _ _ _ _)
      | (with_reducible exact slices_Index_int64_int64.mono _ _ _)
      | (with_reducible exact slices_Max_int64_int64.mono _ _)
      | (with_reducible exact slices_Min_int64_int64.mono _ _)
      | (with_reducible exact LeO.refl _)
      | (with_reducible exact LeO.none _)
      | (with_reducible refine LeO.ite ?_ ?_)
      | (with_reducible refine LeO.bind ?_ (fun _ => ?_))
      | exact ih0 _ _ _ _
      | exact ih1 _ _ _ _
      | exact ih2 _ _ _ _ _
      | exact ih3 _ _ _ _ _ _ _ _ _ _
      | exact ih4 _ _ _ _ _ _ _ _ _ _ _ _ _ _ _
      | exact ih5 _ _ _ _ _ _ _ _ _ _
      | exact impl_tiles.mono _ _ _ _
      | exact slices_Index_int64_int64.mono _ _ _
      | exact slices_Max_int64_int64.mono _ _
      | exact slices_Min_int64_int64.mono _ _
      | exact LeO.none _
      | refine LeO.ite ?_ ?_
      | refine LeO.bind ?_ (fun _ => ?_)
open List renaming setIfInBounds_toArray → sA, set_cons_zero → sB, set_cons_succ → sC
open Go.Proofs.YtopopjkoanpjiaaW.PrintWords.Aside0 renaming mk → mkA
open Go.Proofs.YtopopjkoanpjiaaX (dt_ bc_ p0_ p1_ bl_ cb_ bs0_ bs1_ bs2_ bs3_ bs4_ bs5_ bs6_ bs7_ bs8_ bs9_ bs10_ bs11_ bs12_)
set_option maxHeartbeats 8000000 in
set_option maxRecDepth 100000 in
theorem impl_ValidTiling.calls (k : Nat) (a0_0 : Int) (a0_1 : Int) (A0_2 : Option Addr) (c0_2 : Nat) (l0_2 : List Int) (r : Bool) (w : World) (hr0_2 : Kd.C (Kd.int .i64) w A0_2 l0_2.length l0_2) (hc0_2 : l0_2.length ≤ c0_2) (h : impl_ValidTiling.f k a0_0 a0_1 l0_2 = some r) :
 Calls Try.prog 19 #[.agg #[.int .i64 a0_0, .int .i64 a0_1, .slice A0_2 l0_2.length c0_2]] w fun e w' => e = .returned (.bool r) ∧ Below w.heap.size w w' := by
 have hu28 := Try.underlying28
 have HR0_2 := mkA hr0_2
 have HC0_2 := mkA hc0_2
 clear hr0_2 hc0_2
 have HB := mkA (Below.refl w.heap.size w)
 have H : ((impl_within.f a0_0 1 12).bind fun t235 => (if t235 = true then ((impl_within.f a0_1 1 12).bind fun t236 => (if t236 = true then (impl_ValidTiling.j0 k ((l0_2.length : Int) != (wrap64 (a0_0 * a0_1))) a0_0 a0_1 l0_2) else (impl_ValidTiling.j0 k true a0_0 a0_1 l0_2))) else (impl_ValidTiling.j0 k true a0_0 a0_1 l0_2))) = some r := h
 clear h
 have HC2 := mkA H
 clear H
 go_enter Try.func19, Try.ntmps19
 go_upto_region 1 with (first | ((with_reducible refine gate_dst (N := 1) rfl ?_); (try (refine gate_guard (by rfl) ?_; dsimp only)); refine box_event ?hg (N := 1) ?hd (cs := #[.int .i64 a0_0, .int .i64 a0_1, .slice A0_2 l0_2.length c0_2]) (t := 28) ?hr ?_; (case hd => rfl); (case hg => rfl); (case hr => first | (go_simp; done) | (go_simp; rfl)); intro gb234 hg w3 hbox hb; have n0_ := mkA (below_step (bs0_ HB.out) hb); have n1_ := mkA (hbox); have n2_ := mkA ((by rw [hg]; exact (below_size (bs0_ HB.out)) : w.heap.size ≤ gb234)); have n3_ := mkA ((by rw [hg]; exact (below_size (bs0_ HB.out)) : w.heap.size ≤ gb234)); clear HB; have HB := n0_; have BK234 := n1_; have GW234 := n2_; have GE234 := n3_; clear n0_ n1_ n2_ n3_; clear hb hbox hg))
 (try simp only [Act.put, sA, sB, sC])
 go_cut [34] (fun v34 wc => ∃ (kq : Nat) (x34_1 : Bool), v34 = .bool x34_1 ∧ Aside0 (impl_ValidTiling.j0 kq x34_1 a0_0 a0_1 l0_2 = some r) ∧ Aside0 (kq ≤ k) ∧ Aside0 (wc.heap[gb234]? = some (.cells #[.int .i64 a0_0, .int .i64 a0_1, (.slice A0_2 l0_2.length c0_2)] 28 (0, 0))) ∧ Aside0 (Below w.heap.size w wc))
 case first =>
  have H := HC2.out
  clear HC2
  replace H := Option.bind_eq_some_iff.mp H
  obtain ⟨t235, A40, H⟩ := H
  replace H : (if t235 = true then ((impl_within.f a0_1 1 12).bind fun t236 => (if t236 = true then (impl_ValidTiling.j0 k ((l0_2.length : Int) != (wrap64 (a0_0 * a0_1))) a0_0 a0_1 l0_2) else (impl_ValidTiling.j0 k true a0_0 a0_1 l0_2))) else (impl_ValidTiling.j0 k true a0_0 a0_1 l0_2)) = some r := H
  have A4 := mkA A40
  clear A40
  by_cases c5 : t235 = true
  rotate_left
  · replace c5 := Bool.eq_false_iff.mpr c5
    subst c5
    have H1 : (impl_ValidTiling.j0 k true a0_0 a0_1 l0_2) = some r := by rw [if_neg (show ¬ (false = true) by decide)] at H; exact H
    clear H
    have H := H1
    clear H1
    have H' := mkA H
    clear H
    have hcz10_0 : w3.cell? ⟨gb234, 0, none⟩ = some (.int .i64 a0_0) := (blk_cell BK234.out 0).trans rfl
    have hcz10_1 : w3.cell? ⟨gb234, 1, none⟩ = some (.int .i64 a0_1) := (blk_cell BK234.out 1).trans rfl
    have hcz10_2 : w3.cell? ⟨gb234, 2, none⟩ = some (.slice A0_2 l0_2.length c0_2) := (blk_cell BK234.out 2).trans rfl
    have hfz10_0 := blk_frozen BK234.out 0
    have hfz10_1 := blk_frozen BK234.out 1
    have hfz10_2 := blk_frozen BK234.out 2
    go_wp2_with (first | ((with_reducible refine gate_callee (f := 20) rfl ?_); refine goesL_ (some 16) rfl rfl Try.func20 (by kernel_rfl) rfl #[.int .i64 a0_0, .int .i64 1, .int .i64 12] rfl (by (try simp only [List.map_toArray, List.map_cons, List.map_nil]); first | done | rfl | (simp only [List.length_drop, List.length_take]; rfl)) ?_; (with_reducible refine (impl_within.calls a0_0 1 12 false _ A4.out).mono ?_); rintro e w' ⟨rfl, ⟨nd, rfl⟩⟩; refine ⟨_, rfl, ?_⟩))
    go_meet
    case rel => exact ⟨_, (true), (by first | rfl | (simp; done) | (simp [*]; done) | (simp [i64_w, i32_w]; done)), H', ⟨by first | omega | exact Nat.le_refl _⟩, ⟨by (with_reducible repeat (first | refine blk_drewN ?_ _ | refine blk_drew ?_ | refine blk_alloc ?_ _)); exact BK234.out⟩, ⟨by repeat (first | (with_reducible first | exact HB.out | apply below_alloc | apply pw_below_drewN | apply below_drew1 | refine below_set ?_ GE234.out) | exact HB.out)⟩⟩
  subst c5
  have H1 : ((impl_within.f a0_1 1 12).bind fun t236 => (if t236 = true then (impl_ValidTiling.j0 k ((l0_2.length : Int) != (wrap64 (a0_0 * a0_1))) a0_0 a0_1 l0_2) else (impl_ValidTiling.j0 k true a0_0 a0_1 l0_2))) = some r := by rw [if_pos rfl] at H; exact H
  clear H
  have H := H1
  clear H1
  replace H := Option.bind_eq_some_iff.mp H
  obtain ⟨t236, A60, H⟩ := H
  replace H : (if t236 = true then (impl_ValidTiling.j0 k ((l0_2.length : Int) != (wrap64 (a0_0 * a0_1))) a0_0 a0_1 l0_2) else (impl_ValidTiling.j0 k true a0_0 a0_1 l0_2)) = some r := H
  have A6 := mkA A60
  clear A60
  by_cases c7 : t236 = true
  · subst c7
    have H1 : (impl_ValidTiling.j0 k ((l0_2.length : Int) != (wrap64 (a0_0 * a0_1))) a0_0 a0_1 l0_2) = some r := by rw [if_pos rfl] at H; exact H
    clear H
    have H := H1
    clear H1
    have H' := mkA H
    clear H
    have hcz8_0 : w3.cell? ⟨gb234, 0, none⟩ = some (.int .i64 a0_0) := (blk_cell BK234.out 0).trans rfl
    have hcz8_1 : w3.cell? ⟨gb234, 1, none⟩ = some (.int .i64 a0_1) := (blk_cell BK234.out 1).trans rfl
    have hcz8_2 : w3.cell? ⟨gb234, 2, none⟩ = some (.slice A0_2 l0_2.length c0_2) := (blk_cell BK234.out 2).trans rfl
    have hfz8_0 := blk_frozen BK234.out 0
    have hfz8_1 := blk_frozen BK234.out 1
    have hfz8_2 := blk_frozen BK234.out 2
    go_wp2_with (first | ((with_reducible refine gate_callee (f := 20) rfl ?_); refine goesL_ (some 16) rfl rfl Try.func20 (by kernel_rfl) rfl #[.int .i64 a0_0, .int .i64 1, .int .i64 12] rfl (by (try simp only [List.map_toArray, List.map_cons, List.map_nil]); first | done | rfl | (simp only [List.length_drop, List.length_take]; rfl)) ?_; (with_reducible refine (impl_within.calls a0_0 1 12 true _ A4.out).mono ?_); rintro e w' ⟨rfl, ⟨nd, rfl⟩⟩; refine ⟨_, rfl, ?_⟩) | (go_at_call 20; (with_reducible refine (impl_within.calls a0_1 1 12 true _ A6.out).mono ?_); rintro e w' ⟨rfl, ⟨nd, rfl⟩⟩))
    go_meet
    case rel => exact ⟨_, (((l0_2.length : Int) != (wrap64 (a0_0 * a0_1)))), (by first | rfl | (simp; done) | (simp [*]; done) | (simp [i64_w, i32_w]; done)), H', ⟨by first | omega | exact Nat.le_refl _⟩, ⟨by (with_reducible repeat (first | refine blk_drewN ?_ _ | refine blk_drew ?_ | refine blk_alloc ?_ _)); exact BK234.out⟩, ⟨by repeat (first | (with_reducible first | exact HB.out | apply below_alloc | apply pw_below_drewN | apply below_drew1 | refine below_set ?_ GE234.out) | exact HB.out)⟩⟩
  · replace c7 := Bool.eq_false_iff.mpr c7
    subst c7
    have H1 : (impl_ValidTiling.j0 k true a0_0 a0_1 l0_2) = some r := by rw [if_neg (show ¬ (false = true) by decide)] at H; exact H
    clear H
    have H := H1
    clear H1
    have H' := mkA H
    clear H
    have hcz9_0 : w3.cell? ⟨gb234, 0, none⟩ = some (.int .i64 a0_0) := (blk_cell BK234.out 0).trans rfl
    have hcz9_1 : w3.cell? ⟨gb234, 1, none⟩ = some (.int .i64 a0_1) := (blk_cell BK234.out 1).trans rfl
    have hcz9_2 : w3.cell? ⟨gb234, 2, none⟩ = some (.slice A0_2 l0_2.length c0_2) := (blk_cell BK234.out 2).trans rfl
    have hfz9_0 := blk_frozen BK234.out 0
    have hfz9_1 := blk_frozen BK234.out 1
    have hfz9_2 := blk_frozen BK234.out 2
    go_wp2_with (first | ((with_reducible refine gate_callee (f := 20) rfl ?_); refine goesL_ (some 16) rfl rfl Try.func20 (by kernel_rfl) rfl #[.int .i64 a0_0, .int .i64 1, .int .i64 12] rfl (by (try simp only [List.map_toArray, List.map_cons, List.map_nil]); first | done | rfl | (simp only [List.length_drop, List.length_take]; rfl)) ?_; (with_reducible refine (impl_within.calls a0_0 1 12 true _ A4.out).mono ?_); rintro e w' ⟨rfl, ⟨nd, rfl⟩⟩; refine ⟨_, rfl, ?_⟩) | (go_at_call 20; (with_reducible refine (impl_within.calls a0_1 1 12 false _ A6.out).mono ?_); rintro e w' ⟨rfl, ⟨nd, rfl⟩⟩))
    go_meet
    case rel => exact ⟨_, (true), (by first | rfl | (simp; done) | (simp [*]; done) | (simp [i64_w, i32_w]; done)), H', ⟨by first | omega | exact Nat.le_refl _⟩, ⟨by (with_reducible repeat (first | refine blk_drewN ?_ _ | refine blk_drew ?_ | refine blk_alloc ?_ _)); exact BK234.out⟩, ⟨by repeat (first | (with_reducible first | exact HB.out | apply below_alloc | apply pw_below_drewN | apply below_drew1 | refine below_set ?_ GE234.out) | exact HB.out)⟩⟩
 case rest =>
  clear HC2
  try clear c1
  try clear c2
  try clear p2
  try clear c5
  try clear p6
  try clear c7
  try clear hcz10_0
  try clear hcz10_1
  try clear hcz10_2
  try clear hcz8_0
  try clear hcz8_1
  try clear hcz8_2
  try clear hcz9_0
  try clear hcz9_1
  try clear hcz9_2
  try clear hfz10_0
  try clear hfz10_1
  try clear hfz10_2
  try clear hfz8_0
  try clear hfz8_1
  try clear hfz8_2
  try clear hfz9_0
  try clear hfz9_1
  try clear hfz9_2
  obtain ⟨kq, x34_1, rfl, HA, HJ1, BK234, HB⟩ := hcut
  cases kq with
  | zero => exact absurd HA.out (by simp [impl_ValidTiling.j0])
  | succ kj1 =>
   have H := HA.out
   clear HA
   simp only [impl_ValidTiling.j0] at H
   by_cases c11 : x34_1 = true
   · subst c11
     have H1 : (some false) = some r := by rw [if_pos rfl] at H; exact H
     clear H
     have H := H1
     clear H1
     obtain rfl := Option.some.inj H
     go_wp2
     go_ret
     exact ⟨by first | rfl | (simp [errW_none, errW_some] <;> rfl) | (simp [*, errW_none, errW_some] <;> rfl), by repeat (first | (with_reducible first | exact HB.out | apply below_alloc | apply pw_below_drewN | apply below_drew1 | refine below_set ?_ GE234.out) | exact HB.out)⟩
   · replace c11 := Bool.eq_false_iff.mpr c11
     subst c11
     have H1 : ((slices_Min_int64_int64.f kj1 l0_2).bind fun t237 => (if t237 < 0 then (impl_ValidTiling.j1 kj1 true a0_0 a0_1 l0_2) else ((slices_Max_int64_int64.f kj1 l0_2).bind fun t238 => (impl_ValidTiling.j1 kj1 (decide (t238 ≥ 36)) a0_0 a0_1 l0_2)))) = some r := by rw [if_neg (show ¬ (false = true) by decide)] at H; exact H
     clear H
     have H := H1
     clear H1
     have HC12 := mkA H
     clear H
     go_upto_region 3 with (fail)
     go_cut [44] (fun v44 wc => ∃ (kq : Nat) (x44_11 : Bool), v44 = .bool x44_11 ∧ Aside0 (impl_ValidTiling.j1 kq x44_11 a0_0 a0_1 l0_2 = some r) ∧ Aside0 (kq ≤ kj1) ∧ Aside0 (wc.heap[gb234]? = some (.cells #[.int .i64 a0_0, .int .i64 a0_1, (.slice A0_2 l0_2.length c0_2)] 28 (0, 0))) ∧ Aside0 (Below w.heap.size w wc))
     case first =>
      have H := HC12.out
      clear HC12
      replace H := Option.bind_eq_some_iff.mp H
      obtain ⟨t237, A130, H⟩ := H
      replace H : (if t237 < 0 then (impl_ValidTiling.j1 kj1 true a0_0 a0_1 l0_2) else ((slices_Max_int64_int64.f kj1 l0_2).bind fun t238 => (impl_ValidTiling.j1 kj1 (decide (t238 ≥ 36)) a0_0 a0_1 l0_2))) = some r := H
      have A13 := mkA A130
      clear A130
      by_cases c14 : t237 < 0
      · rw [if_pos c14] at H
        have c14b0 : decide (t237 < 0) = true := decide_eq_true c14
        clear c14
        (first | rw [c14b0] | (simp only [i64_w, i32_w]; rw [c14b0]) | skip)
        have H' := mkA H
        clear H
        have hcz15_0 : wc.cell? ⟨gb234, 0, none⟩ = some (.int .i64 a0_0) := (blk_cell BK234.out 0).trans rfl
        have hcz15_1 : wc.cell? ⟨gb234, 1, none⟩ = some (.int .i64 a0_1) := (blk_cell BK234.out 1).trans rfl
        have hcz15_2 : wc.cell? ⟨gb234, 2, none⟩ = some (.slice A0_2 l0_2.length c0_2) := (blk_cell BK234.out 2).trans rfl
        have hfz15_0 := blk_frozen BK234.out 0
        have hfz15_1 := blk_frozen BK234.out 1
        have hfz15_2 := blk_frozen BK234.out 2
        go_wp2_with (first | ((with_reducible refine gate_callee (f := 28) rfl ?_); refine goesL_ (some 37) rfl rfl Try.func28 (by kernel_rfl) rfl #[.slice A0_2 l0_2.length c0_2] rfl (by (try simp only [List.map_toArray, List.map_cons, List.map_nil]); first | done | rfl | (simp only [List.length_drop, List.length_take]; rfl)) ?_; (with_reducible refine (slices_Min_int64_int64.calls kj1 _ _ l0_2 t237 _ ?side1 ?side2 A13.out).mono ?_); (case side1 => exact cb_ HR0_2.out HB.out); (case side2 => exact HC0_2.out); rintro e w16 ⟨rfl, hb⟩; refine ⟨_, rfl, ?_⟩; have n0_ := mkA (blk_below (g := gb234) (o := .cells #[.int .i64 a0_0, .int .i64 a0_1, .slice A0_2 l0_2.length c0_2] 28 (0, 0)) (bl_ BK234.out) hb); have n1_ := mkA (below_step (bs1_ HB.out GE234.out) hb); clear BK234; clear HB; have BK234 := n0_; have HB := n1_; clear n0_ n1_; (try clear hb); (try clear hb2); (try clear hk); (try clear hi)))
        go_meet
        case rel => exact ⟨_, (true), (by first | rfl | (simp; done) | (simp [*]; done) | (simp [i64_w, i32_w]; done)), H', ⟨by have := HJ1.out; first | omega | exact Nat.le_refl _⟩, ⟨by (with_reducible repeat (first | refine blk_drewN ?_ _ | refine blk_drew ?_ | refine blk_alloc ?_ _)); exact BK234.out⟩, ⟨by repeat (first | (with_reducible first | exact HB.out | apply below_alloc | apply pw_below_drewN | apply below_drew1 | refine below_set ?_ GE234.out) | exact HB.out)⟩⟩
      · rw [if_neg c14] at H
        have c14b0 : decide (t237 < 0) = false := decide_eq_false c14
        clear c14
        (first | rw [c14b0] | (simp only [i64_w, i32_w]; rw [c14b0]) | skip)
        replace H := Option.bind_eq_some_iff.mp H
        obtain ⟨t238, A170, H⟩ := H
        replace H : (impl_ValidTiling.j1 kj1 (decide (t238 ≥ 36)) a0_0 a0_1 l0_2) = some r := H
        have A17 := mkA A170
        clear A170
        have H' := mkA H
        clear H
        have hcz18_0 : wc.cell? ⟨gb234, 0, none⟩ = some (.int .i64 a0_0) := (blk_cell BK234.out 0).trans rfl
        have hcz18_1 : wc.cell? ⟨gb234, 1, none⟩ = some (.int .i64 a0_1) := (blk_cell BK234.out 1).trans rfl
        have hcz18_2 : wc.cell? ⟨gb234, 2, none⟩ = some (.slice A0_2 l0_2.length c0_2) := (blk_cell BK234.out 2).trans rfl
        have hfz18_0 := blk_frozen BK234.out 0
        have hfz18_1 := blk_frozen BK234.out 1
        have hfz18_2 := blk_frozen BK234.out 2
        go_wp2_with (first | ((with_reducible refine gate_callee (f := 28) rfl ?_); refine goesL_ (some 37) rfl rfl Try.func28 (by kernel_rfl) rfl #[.slice A0_2 l0_2.length c0_2] rfl (by (try simp only [List.map_toArray, List.map_cons, List.map_nil]); first | done | rfl | (simp only [List.length_drop, List.length_take]; rfl)) ?_; (with_reducible refine (slices_Min_int64_int64.calls kj1 _ _ l0_2 t237 _ ?side1 ?side2 A13.out).mono ?_); (case side1 => exact cb_ HR0_2.out HB.out); (case side2 => exact HC0_2.out); rintro e w19 ⟨rfl, hb⟩; refine ⟨_, rfl, ?_⟩; have n0_ := mkA (blk_below (g := gb234) (o := .cells #[.int .i64 a0_0, .int .i64 a0_1, .slice A0_2 l0_2.length c0_2] 28 (0, 0)) (bl_ BK234.out) hb); have n1_ := mkA (below_step (bs1_ HB.out GE234.out) hb); clear BK234; clear HB; have BK234 := n0_; have HB := n1_; clear n0_ n1_; (try clear hb); (try clear hb2); (try clear hk); (try clear hi); have hcz20_0 : w19.cell? ⟨gb234, 0, none⟩ = some (.int .i64 a0_0) := (blk_cell BK234.out 0).trans rfl; have hcz20_1 : w19.cell? ⟨gb234, 1, none⟩ = some (.int .i64 a0_1) := (blk_cell BK234.out 1).trans rfl; have hcz20_2 : w19.cell? ⟨gb234, 2, none⟩ = some (.slice A0_2 l0_2.length c0_2) := (blk_cell BK234.out 2).trans rfl; have hfz20_0 := blk_frozen BK234.out 0; have hfz20_1 := blk_frozen BK234.out 1; have hfz20_2 := blk_frozen BK234.out 2) | (go_at_call 29; (with_reducible refine (slices_Max_int64_int64.calls kj1 _ _ l0_2 t238 _ ?side1 ?side2 A17.out).mono ?_); (case side1 => exact cb_ HR0_2.out HB.out); (case side2 => exact HC0_2.out); rintro e w21 ⟨rfl, hb⟩; have n0_ := mkA (blk_below (g := gb234) (o := .cells #[.int .i64 a0_0, .int .i64 a0_1, .slice A0_2 l0_2.length c0_2] 28 (0, 0)) (bl_ BK234.out) hb); have n1_ := mkA (below_step (bs1_ HB.out GE234.out) hb); clear BK234; clear HB; have BK234 := n0_; have HB := n1_; clear n0_ n1_; (try clear hb); (try clear hb2); (try clear hk); (try clear hi)))
        go_meet
        case rel => exact ⟨_, (decide (t238 ≥ 36)), (by first | rfl | (simp; done) | (simp [*]; done) | (simp [i64_w, i32_w]; done)), H', ⟨by have := HJ1.out; first | omega | exact Nat.le_refl _⟩, ⟨by (with_reducible repeat (first | refine blk_drewN ?_ _ | refine blk_drew ?_ | refine blk_alloc ?_ _)); exact BK234.out⟩, ⟨by repeat (first | (with_reducible first | exact HB.out | apply below_alloc | apply pw_below_drewN | apply below_drew1 | refine below_set ?_ GE234.out) | exact HB.out)⟩⟩
     case rest =>
      clear HC12
      try clear c1
      try clear c2
      try clear p2
      try clear c5
      try clear p6
      try clear c7
      try clear c11
      try clear c14
      try clear c14b0
      try clear c19
      try clear c20
      try clear hcz10_0
      try clear hcz10_1
      try clear hcz10_2
      try clear hcz15_0
      try clear hcz15_1
      try clear hcz15_2
      try clear hcz18_0
      try clear hcz18_1
      try clear hcz18_2
      try clear hcz20_0
      try clear hcz20_1
      try clear hcz20_2
      try clear hcz8_0
      try clear hcz8_1
      try clear hcz8_2
      try clear hcz9_0
      try clear hcz9_1
      try clear hcz9_2
      try clear hfz10_0
      try clear hfz10_1
      try clear hfz10_2
      try clear hfz15_0
      try clear hfz15_1
      try clear hfz15_2
      try clear hfz18_0
      try clear hfz18_1
      try clear hfz18_2
      try clear hfz20_0
      try clear hfz20_1
      try clear hfz20_2
      try clear hfz8_0
      try clear hfz8_1
      try clear hfz8_2
      try clear hfz9_0
      try clear hfz9_1
      try clear hfz9_2
      try clear p2
      try clear p6
      obtain ⟨kq, x44_11, rfl, HA, HJ11, BK234, HB⟩ := hcut
      cases kq with
      | zero => exact absurd HA.out (by simp [impl_ValidTiling.j1])
      | succ kj11 =>
       have H := HA.out
       clear HA
       simp only [impl_ValidTiling.j1] at H
       by_cases c22 : x44_11 = true
       · subst c22
         have H1 : (some false) = some r := by rw [if_pos rfl] at H; exact H
         clear H
         have H := H1
         clear H1
         obtain rfl := Option.some.inj H
         go_wp2
         go_ret
         exact ⟨by first | rfl | (simp [errW_none, errW_some] <;> rfl) | (simp [*, errW_none, errW_some] <;> rfl), by repeat (first | (with_reducible first | exact HB.out | apply below_alloc | apply pw_below_drewN | apply below_drew1 | refine below_set ?_ GE234.out) | exact HB.out)⟩
       · replace c22 := Bool.eq_false_iff.mpr c22
         subst c22
         have H1 : ((impl_tiles.f kj11 a0_0 a0_1 l0_2).bind fun t239 => (impl_ValidTiling.l0 kj11 t239 0 a0_0 a0_1 l0_2)) = some r := by rw [if_neg (show ¬ (false = true) by decide)] at H; exact H
         clear H
         have H := H1
         clear H1
         replace H := Option.bind_eq_some_iff.mp H
         obtain ⟨t239, A230, H⟩ := H
         replace H : (impl_ValidTiling.l0 kj11 t239 0 a0_0 a0_1 l0_2) = some r := H
         have A23 := mkA A230
         clear A230
         have H' := mkA H
         clear H
         have hcz24_0 : wc.cell? ⟨gb234, 0, none⟩ = some (.int .i64 a0_0) := (blk_cell BK234.out 0).trans rfl
         have hcz24_1 : wc.cell? ⟨gb234, 1, none⟩ = some (.int .i64 a0_1) := (blk_cell BK234.out 1).trans rfl
         have hcz24_2 : wc.cell? ⟨gb234, 2, none⟩ = some (.slice A0_2 l0_2.length c0_2) := (blk_cell BK234.out 2).trans rfl
         have hfz24_0 := blk_frozen BK234.out 0
         have hfz24_1 := blk_frozen BK234.out 1
         have hfz24_2 := blk_frozen BK234.out 2
         go_wp2_with (first | ((with_reducible refine gate_callee (f := 21) rfl ?_); refine goesL_ (some 46) rfl rfl Try.func21 (by kernel_rfl) rfl #[.agg #[.int .i64 a0_0, .int .i64 a0_1, .slice A0_2 l0_2.length c0_2]] rfl (by (try simp only [List.map_toArray, List.map_cons, List.map_nil]); first | done | rfl | (simp only [List.length_drop, List.length_take]; rfl)) ?_; (with_reducible refine (impl_tiles.calls kj11 a0_0 a0_1 _ _ l0_2 t239 _ ?side1 ?side2 A23.out).mono ?_); (case side1 => exact cb_ HR0_2.out HB.out); (case side2 => exact HC0_2.out); rintro e w25 ⟨rfl, hb⟩; refine ⟨_, rfl, ?_⟩; have n0_ := mkA (blk_below (g := gb234) (o := .cells #[.int .i64 a0_0, .int .i64 a0_1, .slice A0_2 l0_2.length c0_2] 28 (0, 0)) (bl_ BK234.out) hb); have n1_ := mkA (below_step (bs1_ HB.out GE234.out) hb); clear BK234; clear HB; have BK234 := n0_; have HB := n1_; clear n0_ n1_; (try clear hb); (try clear hb2); (try clear hk); (try clear hi)))
         go_loopg [48] kj11 (fun kq v48 w' => ∃ (x48_3 : Int), v48 = .int .i64 x48_3 ∧ Aside0 (impl_ValidTiling.l0 kq t239 x48_3 a0_0 a0_1 l0_2 = some r) ∧ Aside0 (kq ≤ kj11) ∧ Aside0 (w'.heap[gb234]? = some (.cells #[.int .i64 a0_0, .int .i64 a0_1, (.slice A0_2 l0_2.length c0_2)] 28 (0, 0))) ∧ Aside0 (Below w.heap.size w w'))
         case atStart => exact ⟨(0), (by first | rfl | (simp; done) | (simp [*]; done) | (simp [i64_w, i32_w]; done)), H', ⟨Nat.le_refl _⟩, ⟨by (with_reducible repeat (first | refine blk_drewN ?_ _ | refine blk_drew ?_ | refine blk_alloc ?_ _)); exact BK234.out⟩, ⟨by repeat (first | (with_reducible first | exact HB.out | apply below_alloc | apply pw_below_drewN | apply below_drew1 | refine below_set ?_ GE234.out) | exact HB.out)⟩⟩
         case round =>
          clear H'
          try clear c1
          try clear c2
          try clear p2
          try clear c5
          try clear p6
          try clear c7
          try clear c11
          try clear c14
          try clear c14b0
          try clear c19
          try clear c20
          try clear c21
          try clear c22
          try clear hcz10_0
          try clear hcz10_1
          try clear hcz10_2
          try clear hcz15_0
          try clear hcz15_1
          try clear hcz15_2
          try clear hcz18_0
          try clear hcz18_1
          try clear hcz18_2
          try clear hcz20_0
          try clear hcz20_1
          try clear hcz20_2
          try clear hcz24_0
          try clear hcz24_1
          try clear hcz24_2
          try clear hcz8_0
          try clear hcz8_1
          try clear hcz8_2
          try clear hcz9_0
          try clear hcz9_1
          try clear hcz9_2
          try clear hfz10_0
          try clear hfz10_1
          try clear hfz10_2
          try clear hfz15_0
          try clear hfz15_1
          try clear hfz15_2
          try clear hfz18_0
          try clear hfz18_1
          try clear hfz18_2
          try clear hfz20_0
          try clear hfz20_1
          try clear hfz20_2
          try clear hfz24_0
          try clear hfz24_1
          try clear hfz24_2
          try clear hfz8_0
          try clear hfz8_1
          try clear hfz8_2
          try clear hfz9_0
          try clear hfz9_1
          try clear hfz9_2
          try clear p2
          try clear p6
          obtain ⟨x48_3, rfl, HA, HK3, BK234, HB⟩ := hrel
          cases gk with
          | zero => exact absurd HA.out (by simp [impl_ValidTiling.l0])
          | succ k3 =>
           have H := HA.out
           clear HA
           simp only [impl_ValidTiling.l0] at H
           by_cases c26 : x48_3 < t239
           rotate_left
           · rw [if_neg c26] at H
             have c26b0 : decide (x48_3 < t239) = false := decide_eq_false c26
             clear c26
             obtain rfl := Option.some.inj H
             go_wp2
             go_ret
             exact ⟨by first | rfl | (simp [errW_none, errW_some] <;> rfl) | (simp [*, errW_none, errW_some] <;> rfl), by repeat (first | (with_reducible first | exact HB.out | apply below_alloc | apply pw_below_drewN | apply below_drew1 | refine below_set ?_ GE234.out) | exact HB.out)⟩

           rw [if_pos c26] at H
           have c26b0 : decide (x48_3 < t239) = true := decide_eq_true c26
           clear c26
           replace H := Option.bind_eq_some_iff.mp H
           obtain ⟨t240, A270, H⟩ := H
           replace H : (if t240 < 0 then (some false) else (if 0 ≤ (l0_2.length : Int) then (if ((l0_2.length : Int) : Int).toNat ≤ 281474976710656 then ((some (List.replicate ((l0_2.length : Int) : Int).toNat false : List Bool)).bind fun y241 => (if 0 ≤ t240 then (if t240 < (y241.length : Int) then (impl_ValidTiling.l1 k3 x48_3 (y241.set (t240 : Int).toNat true) (([t240] : List Int)) 0 0 t239 x48_3 a0_0 a0_1 l0_2) else (none)) else (none))) else (none)) else (none))) = some r := H
           have A27 := mkA A270
           clear A270
           by_cases c28 : t240 < 0
           · rw [if_pos c28] at H
             have c28b0 : decide (t240 < 0) = true := decide_eq_true c28
             clear c28
             obtain rfl := Option.some.inj H
             have hcz29_0 : wr.cell? ⟨gb234, 0, none⟩ = some (.int .i64 a0_0) := (blk_cell BK234.out 0).trans rfl
             have hcz29_1 : wr.cell? ⟨gb234, 1, none⟩ = some (.int .i64 a0_1) := (blk_cell BK234.out 1).trans rfl
             have hcz29_2 : wr.cell? ⟨gb234, 2, none⟩ = some (.slice A0_2 l0_2.length c0_2) := (blk_cell BK234.out 2).trans rfl
             have hfz29_0 := blk_frozen BK234.out 0
             have hfz29_1 := blk_frozen BK234.out 1
             have hfz29_2 := blk_frozen BK234.out 2
             go_wp2_with (first | ((with_reducible refine gate_callee (f := 30) rfl ?_); refine goesL_ (some 54) rfl rfl Try.func30 (by kernel_rfl) rfl #[.slice A0_2 l0_2.length c0_2, .int .i64 x48_3] rfl (by (try simp only [List.map_toArray, List.map_cons, List.map_nil]); first | done | rfl | (simp only [List.length_drop, List.length_take]; rfl)) ?_; (with_reducible refine (slices_Index_int64_int64.calls k3 _ _ l0_2 x48_3 t240 _ ?side1 ?side2 A27.out).mono ?_); (case side1 => exact cb_ HR0_2.out HB.out); (case side2 => exact HC0_2.out); rintro e w' ⟨rfl, ⟨nd, rfl⟩⟩; refine ⟨_, rfl, ?_⟩))
             go_ret
             exact ⟨by first | rfl | (simp [errW_none, errW_some] <;> rfl) | (simp [*, errW_none, errW_some] <;> rfl), by repeat (first | (with_reducible first | exact HB.out | apply below_alloc | apply pw_below_drewN | apply below_drew1 | refine below_set ?_ GE234.out) | exact HB.out)⟩
           · rw [if_neg c28] at H
             have c28b0 : decide (t240 < 0) = false := decide_eq_false c28
             clear c28
             by_cases c30 : 0 ≤ (l0_2.length : Int)
             rotate_left
             · rw [if_neg c30] at H
               exact absurd H (by simp)
             rw [if_pos c30] at H
             have c30b0 := eq_true c30
             have c30b1 : decide (0 ≤ (l0_2.length : Int)) = true := decide_eq_true c30
             clear c30
             by_cases c31 : ((l0_2.length : Int) : Int).toNat ≤ 281474976710656
             rotate_left
             · rw [if_neg c31] at H
               exact absurd H (by simp)
             rw [if_pos c31] at H
             have c31b0 := eq_true c31
             have c31b1 : decide (((l0_2.length : Int) : Int).toNat ≤ 281474976710656) = true := decide_eq_true c31
             clear c31
             obtain ⟨y241, hy241⟩ : ∃ y_ : List Bool, y_ = (List.replicate ((l0_2.length : Int) : Int).toNat false) := ⟨_, rfl⟩
             replace H : (if 0 ≤ t240 then (if t240 < (y241.length : Int) then (impl_ValidTiling.l1 k3 x48_3 (y241.set (t240 : Int).toNat true) (([t240] : List Int)) 0 0 t239 x48_3 a0_0 a0_1 l0_2) else (none)) else (none)) = some r := by first | (rw [hy241]; with_reducible exact H) | (have H2_ := (Option.bind_some _ _).symm.trans H; rw [hy241]; with_reducible exact H2_) | (have H2_ := (Option.bind_some _ _).symm.trans H; with_reducible exact H2_) | with_reducible exact H | (rw [hy241]; exact H) | exact H
             have Ny241 := mkA hy241
             clear hy241
             obtain ⟨y244, hy244⟩ : ∃ y_ : List Int, y_ = (([t240] : List Int)) := ⟨_, rfl⟩
             replace H : (if 0 ≤ t240 then (if t240 < (y241.length : Int) then (impl_ValidTiling.l1 k3 x48_3 (y241.set (t240 : Int).toNat true) y244 0 0 t239 x48_3 a0_0 a0_1 l0_2) else (none)) else (none)) = some r := by first | (rw [hy244]; with_reducible exact H) | (have H2_ := (Option.bind_some _ _).symm.trans H; rw [hy244]; with_reducible exact H2_) | (have H2_ := (Option.bind_some _ _).symm.trans H; with_reducible exact H2_) | with_reducible exact H | (rw [hy244]; exact H) | exact H
             have Ny244 := mkA hy244
             clear hy244
             by_cases c32 : 0 ≤ t240
             rotate_left
             · rw [if_neg c32] at H
               exact absurd H (by simp)
             rw [if_pos c32] at H
             have c32b0 : decide (0 ≤ t240) = true := decide_eq_true c32
             clear c32
             by_cases c33 : t240 < (y241.length : Int)
             rotate_left
             · rw [if_neg c33] at H
               exact absurd H (by simp)
             rw [if_pos c33] at H
             have c33b0 : decide (t240 < (y241.length : Int)) = true := decide_eq_true c33
             clear c33
             obtain ⟨y247, hy247⟩ : ∃ y_ : List Bool, y_ = (y241.set (t240 : Int).toNat true) := ⟨_, rfl⟩
             replace H : (impl_ValidTiling.l1 k3 x48_3 y247 y244 0 0 t239 x48_3 a0_0 a0_1 l0_2) = some r := by first | (rw [hy247]; with_reducible exact H) | (have H2_ := (Option.bind_some _ _).symm.trans H; rw [hy247]; with_reducible exact H2_) | (have H2_ := (Option.bind_some _ _).symm.trans H; with_reducible exact H2_) | with_reducible exact H | (rw [hy247]; exact H) | exact H
             have Ny247 := mkA hy247
             clear hy247
             have H' := mkA H
             clear H
             have hcz35_0 : wr.cell? ⟨gb234, 0, none⟩ = some (.int .i64 a0_0) := (blk_cell BK234.out 0).trans rfl
             have hcz35_1 : wr.cell? ⟨gb234, 1, none⟩ = some (.int .i64 a0_1) := (blk_cell BK234.out 1).trans rfl
             have hcz35_2 : wr.cell? ⟨gb234, 2, none⟩ = some (.slice A0_2 l0_2.length c0_2) := (blk_cell BK234.out 2).trans rfl
             have hfz35_0 := blk_frozen BK234.out 0
             have hfz35_1 := blk_frozen BK234.out 1
             have hfz35_2 := blk_frozen BK234.out 2
             go_wp2_with (first | ((with_reducible refine gate_callee (f := 30) rfl ?_); refine goesL_ (some 54) rfl rfl Try.func30 (by kernel_rfl) rfl #[.slice A0_2 l0_2.length c0_2, .int .i64 x48_3] rfl (by (try simp only [List.map_toArray, List.map_cons, List.map_nil]); first | done | rfl | (simp only [List.length_drop, List.length_take]; rfl)) ?_; (with_reducible refine (slices_Index_int64_int64.calls k3 _ _ l0_2 x48_3 t240 _ ?side1 ?side2 A27.out).mono ?_); (case side1 => exact cb_ HR0_2.out HB.out); (case side2 => exact HC0_2.out); rintro e w' ⟨rfl, ⟨nd, rfl⟩⟩; refine ⟨_, rfl, ?_⟩; (try (rw [drewN_self wr]; generalize hq_ : World.drewN wr _ = wr; have n0_ : Aside0 (wr.heap[gb234]? = some (.cells #[.int .i64 a0_0, .int .i64 a0_1, .slice A0_2 l0_2.length c0_2] 28 (0, 0))) := ⟨by rw [← hq_]; exact (bl_ BK234.out)⟩; have n1_ : Aside0 (Below w.heap.size w wr) := ⟨by rw [← hq_]; exact (bs1_ HB.out GE234.out)⟩; clear BK234 HB hq_; have BK234 := n0_; have HB := n1_; clear n0_ n1_)); have hcz36_0 : wr.cell? ⟨gb234, 0, none⟩ = some (.int .i64 a0_0) := (blk_cell BK234.out 0).trans rfl; have hcz36_1 : wr.cell? ⟨gb234, 1, none⟩ = some (.int .i64 a0_1) := (blk_cell BK234.out 1).trans rfl; have hcz36_2 : wr.cell? ⟨gb234, 2, none⟩ = some (.slice A0_2 l0_2.length c0_2) := (blk_cell BK234.out 2).trans rfl; have hfz36_0 := blk_frozen BK234.out 0; have hfz36_1 := blk_frozen BK234.out 1; have hfz36_2 := blk_frozen BK234.out 2) | ((with_reducible refine gate_dst (N := 60) rfl ?_); (try (refine gate_guard (by rfl) ?_; dsimp only)); refine Kd.R_make Kd.bool _ 4 rfl (N := 60) rfl 51 _ _ rfl (l0_2.length : Int) rfl rfl Try.underlying51 (.bool false) 1 info4 rfl (by decide) (by omega) false (ok := fun _ => True) (okp := fun _ => True) rfl (fun _ hk => hk) trivial (dt_) (Nat.le_trans (Nat.mul_le_mul_right _ (dt_ : (l0_2.length : Int).toNat ≤ 281474976710656)) (by omega)) (Below.refl _ _) (Nat.le_refl _) ?_; intro v242 w37 ho38 hb hg_ hnew_; clear hg_ hnew_; (first | rw [← Ny241.out] at ho38 | (simp only [Int.reduceToNat] at ho38; rw [← Ny241.out] at ho38)); have n0_ := mkA (Kd.R_lower ho38 (below_size (bs1_ HB.out GE234.out))); have n1_ := mkA (blk_below (g := gb234) (o := .cells #[.int .i64 a0_0, .int .i64 a0_1, .slice A0_2 l0_2.length c0_2] 28 (0, 0)) (bl_ BK234.out) hb); have n2_ := mkA (below_step (bs1_ HB.out GE234.out) hb); clear BK234; clear HB; have HO243 := n0_; have BK234 := n1_; have HB := n2_; clear n0_ n1_ n2_; clear hb ho38) | ((with_reducible refine gate_dst (N := 62) rfl ?_); (try (refine gate_guard (by rfl) ?_; dsimp only)); refine Kd.R_lit (Kd.int .i64) _ 2 ?hg (N := 62) ?hd (xs := ([t240] : List Int)) (inner := [.int .i64 t240]) (ok := fun _ => True) (okp := fun _ => True) ?hr ?hp (fun _ hk => hk) trivial (Below.refl _ _) (Nat.le_refl _) (by simp) ?_; (case hd => rfl); (case hg => rfl); (case hr => first | (go_simp; done) | (go_simp; rfl)); (case hp => exact (Reps.one (show Kd.M (Kd.int .i64) _ _ _ t240 [.int .i64 t240] from rfl) (Reps.none _ _))); intro v245 w39 ho40 hb hg_ hnew_; clear hg_ hnew_; (first | rw [← Ny244.out] at ho40 | (simp only [Int.reduceToNat] at ho40; rw [← Ny244.out] at ho40)); have n0_ := mkA (Kd.R_below (by (with_reducible repeat (first | apply Kd.R_alloc | apply Kd.R_drewN | apply Kd.R_drew)); exact HO243.out) hb); have n1_ := mkA (Kd.R_lower ho40 (below_size (bs1_ HB.out GE234.out))); have n2_ := mkA (blk_below (g := gb234) (o := .cells #[.int .i64 a0_0, .int .i64 a0_1, .slice A0_2 l0_2.length c0_2] 28 (0, 0)) (bl_ BK234.out) hb); have n3_ := mkA (below_step (bs1_ HB.out GE234.out) hb); clear HO243; clear BK234; clear HB; have HO243 := n0_; have HO246 := n1_; have BK234 := n2_; have HB := n3_; clear n0_ n1_ n2_ n3_; clear hb ho40; have p34 : 0 ≤ (t240 : Int) := dt_; have q34 : (t240 : Int) < ((y241.length : Int) : Int) := dt_; obtain ⟨go34, co34, eo34, gb34, gl34, cl34, HG34⟩ := Kd.R_form HO243.out (by omega); (first | cases eo34 | (injection eo34 with ea_ en_ ec_; (first | subst ea_ | (injection ea_ with ea_; subst ea_)); subst ec_; clear en_)); have GB34 := mkA gb34; have GG34 := mkA HG34; clear gb34 gl34 HG34; obtain ⟨hx34_0, hf34_0⟩ := Kd.R_celln false HO243.out (t240 : Int) p34 q34; replace p34 := eq_true p34; replace q34 := eq_true q34; obtain ⟨hy41_, hz41_⟩ := Kd.R_celln false HO243.out (t240 : Int) (dt_) (dt_); have HP41 := Kd.R_putg HO243.out (t240 : Int) true) | ((with_reducible refine gate_store (t := 4) (p := 65) rfl ?_); refine store_event (t := 4) (p := 65) (v := ?vo_w42) (w1 := (w39.setCell ⟨go34, (t240 : Int).toNat, none⟩ (.bool true))) ?hg ?ho ?hn ?hr ?_; (case ho => rfl); (case hg => rfl); (case hn => rfl); (case hr => first | (go_simp; done) | (go_simp; rfl)); intro w42 hw; have hg : w39.grownBy w42 (some go34) := (by rw [hw]; exact HP41.2); have hp_ : Kd.R Kd.bool 4 w42 w.heap.size (fun _ => True) (.slice (some ⟨go34, 0, none⟩) y241.length co34) y247 := (by rw [hw, Ny247.out]; exact HP41.1); clear HP41; have n0_ := mkA (blk_grown (g := gb234) (o := .cells #[.int .i64 a0_0, .int .i64 a0_1, .slice A0_2 l0_2.length c0_2] 28 (0, 0)) (bl_ BK234.out) hg (Kd.R_ne HO243.out BK234.out (by decide))); have n1_ := mkA (hp_); have n2_ := mkA (Kd.R_over' (v := (.slice (some ⟨go34, 0, none⟩) y241.length co34)) (by (with_reducible repeat (first | apply Kd.R_alloc | apply Kd.R_drewN | apply Kd.R_drew)); exact HO246.out) (Kd.R_typed HO243.out) (by decide) hg); have n3_ := mkA ((by rw [hw]; exact below_set (HB.out) GB34.out : Below w.heap.size w w42)); clear BK234; clear HO243; clear HO246; clear HB; have BK234 := n0_; have HO243 := n1_; have HO246 := n2_; have HB := n3_; clear n0_ n1_ n2_ n3_; clear hg hw hp_))
             go_loopg [7, 8, 9] k3 (fun kq v7 v8 v9 w' => ∃ (x6_4 : List Bool) (x7_4 : List Int) (x8_4 : Int) (x9_4 : Int), v8 = .int .i64 x8_4 ∧ v9 = .int .i64 x9_4 ∧ Aside0 (impl_ValidTiling.l1 kq x48_3 x6_4 x7_4 x8_4 x9_4 t239 x48_3 a0_0 a0_1 l0_2 = some r) ∧ Aside0 (kq ≤ k3) ∧ Aside0 (Kd.R Kd.bool 4 w' w.heap.size (fun _ => True) (.slice (some ⟨go34, 0, none⟩) y241.length co34) x6_4) ∧ Aside0 (Kd.R (Kd.int .i64) 2 w' w.heap.size (fun _ => True) v7 x7_4) ∧ Aside0 (w'.heap[gb234]? = some (.cells #[.int .i64 a0_0, .int .i64 a0_1, (.slice A0_2 l0_2.length c0_2)] 28 (0, 0))) ∧ Aside0 (Below w.heap.size w w'))
             case atStart => exact ⟨(y247), (y244), (0), (0), (by first | rfl | (simp; done) | (simp [*]; done) | (simp [i64_w, i32_w]; done)), (by first | rfl | (simp; done) | (simp [*]; done) | (simp [i64_w, i32_w]; done)), H', ⟨Nat.le_refl _⟩, ⟨by (with_reducible repeat (first | apply Kd.R_alloc | apply Kd.R_drewN | apply Kd.R_drew)); exact HO243.out⟩, ⟨by (with_reducible repeat (first | apply Kd.R_alloc | apply Kd.R_drewN | apply Kd.R_drew)); exact HO246.out⟩, ⟨by (with_reducible repeat (first | refine blk_drewN ?_ _ | refine blk_drew ?_ | refine blk_alloc ?_ _)); exact BK234.out⟩, ⟨by repeat (first | (with_reducible first | exact HB.out | apply below_alloc | apply pw_below_drewN | apply below_drew1 | refine below_set ?_ GE234.out) | exact HB.out)⟩⟩
             case round =>
              clear H'
              try clear c1
              try clear c2
              try clear p2
              try clear c3
              try clear p3
              try clear q3
              try clear hx3
              try clear hf3
              try clear c5
              try clear p6
              try clear c7
              try clear c11
              try clear c14
              try clear c14b0
              try clear c19
              try clear c20
              try clear c21
              try clear c22
              try clear c26
              try clear c26b0
              try clear c28
              try clear c28b0
              try clear c30
              try clear c30b0
              try clear c30b1
              try clear c31
              try clear c31b0
              try clear c31b1
              try clear c32
              try clear c32b0
              try clear c33
              try clear c33b0
              try clear p34
              try clear q34
              try clear hx34
              try clear hf34
              try clear hcz10_0
              try clear hcz10_1
              try clear hcz10_2
              try clear hcz15_0
              try clear hcz15_1
              try clear hcz15_2
              try clear hcz18_0
              try clear hcz18_1
              try clear hcz18_2
              try clear hcz20_0
              try clear hcz20_1
              try clear hcz20_2
              try clear hcz24_0
              try clear hcz24_1
              try clear hcz24_2
              try clear hcz29_0
              try clear hcz29_1
              try clear hcz29_2
              try clear hcz35_0
              try clear hcz35_1
              try clear hcz35_2
              try clear hcz36_0
              try clear hcz36_1
              try clear hcz36_2
              try clear hcz8_0
              try clear hcz8_1
              try clear hcz8_2
              try clear hcz9_0
              try clear hcz9_1
              try clear hcz9_2
              try clear hfz10_0
              try clear hfz10_1
              try clear hfz10_2
              try clear hfz15_0
              try clear hfz15_1
              try clear hfz15_2
              try clear hfz18_0
              try clear hfz18_1
              try clear hfz18_2
              try clear hfz20_0
              try clear hfz20_1
              try clear hfz20_2
              try clear hfz24_0
              try clear hfz24_1
              try clear hfz24_2
              try clear hfz29_0
              try clear hfz29_1
              try clear hfz29_2
              try clear hfz35_0
              try clear hfz35_1
              try clear hfz35_2
              try clear hfz36_0
              try clear hfz36_1
              try clear hfz36_2
              try clear hfz8_0
              try clear hfz8_1
              try clear hfz8_2
              try clear hfz9_0
              try clear hfz9_1
              try clear hfz9_2
              try clear hx34_0
              try clear p2
              try clear p34
              try clear p6
              try clear q34
              obtain ⟨x6_4, x7_4, x8_4, x9_4, rfl, rfl, HA, HK4, HO_6, HO_7, BK234, HB⟩ := hrel
              have hl6_4 := (Kd.R_reads' HO_6.out).1
              rw [hl6_4] at HO_6
              (try simp only [hl6_4])
              (try simp only [hl6_4] at BK234)
              (try simp only [hl6_4] at HO_7)
              cases gk with
              | zero => exact absurd HA.out (by simp [impl_ValidTiling.l1])
              | succ k4 =>
               have H := HA.out
               clear HA
               simp only [impl_ValidTiling.l1] at H
               by_cases c43 : x9_4 < (x7_4.length : Int)
               rotate_left
               · rw [if_neg c43] at H
                 have c43b0 : decide (x9_4 < (x7_4.length : Int)) = false := decide_eq_false c43
                 (try simp only [hl6_4] at c43b0)
                 (try simp only [hl6_5] at c43b0)
                 clear c43
                 have H' := mkA H
                 clear H
                 obtain ⟨Ao66, co66, eo66⟩ := Kd.R_slice HO_7.out
                 subst eo66
                 have hcz67_0 : wr.cell? ⟨gb234, 0, none⟩ = some (.int .i64 a0_0) := (blk_cell BK234.out 0).trans rfl
                 have hcz67_1 : wr.cell? ⟨gb234, 1, none⟩ = some (.int .i64 a0_1) := (blk_cell BK234.out 1).trans rfl
                 have hcz67_2 : wr.cell? ⟨gb234, 2, none⟩ = some (.slice A0_2 l0_2.length c0_2) := (blk_cell BK234.out 2).trans rfl
                 have hfz67_0 := blk_frozen BK234.out 0
                 have hfz67_1 := blk_frozen BK234.out 1
                 have hfz67_2 := blk_frozen BK234.out 2
                 go_wp2
                 go_loopg [8, 108] k4 (fun kq v8 v108 w' => ∃ (x8_5 : Int) (x108_5 : Int), v8 = .int .i64 x8_5 ∧ v108 = .int .i64 x108_5 ∧ Aside0 (impl_ValidTiling.l3 kq x48_3 x8_5 t239 x48_3 l0_2 (l0_2.length : Int) x108_5 a0_0 a0_1 l0_2 = some r) ∧ Aside0 (kq ≤ k4) ∧ Aside0 (w'.heap[gb234]? = some (.cells #[.int .i64 a0_0, .int .i64 a0_1, (.slice A0_2 l0_2.length c0_2)] 28 (0, 0))) ∧ Aside0 (Below w.heap.size w w'))
                 case atStart => exact ⟨(x8_4), (0), (by first | rfl | (simp; done) | (simp [*]; done) | (simp [i64_w, i32_w]; done)), (by first | rfl | (simp; done) | (simp [*]; done) | (simp [i64_w, i32_w]; done)), H', ⟨Nat.le_refl _⟩, ⟨by (try simp only [hl6_4]); (with_reducible repeat (first | refine blk_drewN ?_ _ | refine blk_drew ?_ | refine blk_alloc ?_ _)); exact BK234.out⟩, ⟨by repeat (first | (with_reducible first | exact HB.out | apply below_alloc | apply pw_below_drewN | apply below_drew1 | refine below_set ?_ GE234.out) | exact HB.out)⟩⟩
                 case round =>
                  clear H'
                  try clear c1
                  try clear c2
                  try clear p2
                  try clear q2
                  try clear hx2
                  try clear c3
                  try clear p3
                  try clear q3
                  try clear hx3
                  try clear hf3
                  try clear c4
                  try clear c5
                  try clear p5
                  try clear q5
                  try clear hx5
                  try clear hf5
                  try clear c6
                  try clear p6
                  try clear c7
                  try clear c11
                  try clear c14
                  try clear c14b0
                  try clear c19
                  try clear c20
                  try clear c21
                  try clear c22
                  try clear p24
                  try clear q24
                  try clear hx24
                  try clear p25
                  try clear q25
                  try clear hx25
                  try clear c26
                  try clear c26b0
                  try clear c28
                  try clear c28b0
                  try clear c30
                  try clear c30b0
                  try clear c30b1
                  try clear c31
                  try clear c31b0
                  try clear c31b1
                  try clear c32
                  try clear c32b0
                  try clear c33
                  try clear c33b0
                  try clear p34
                  try clear q34
                  try clear hx34
                  try clear hf34
                  try clear c43
                  try clear c43b0
                  try clear c44
                  try clear c44b0
                  try clear c49
                  try clear c49b0
                  try clear c50
                  try clear c50b0
                  try clear p51
                  try clear q51
                  try clear hx51
                  try clear c52
                  try clear c52b0
                  try clear c53
                  try clear c53b0
                  try clear c54
                  try clear c54b0
                  try clear c54b1
                  try clear c55
                  try clear c55b0
                  try clear q56
                  try clear c57
                  try clear p59
                  try clear q59
                  try clear hx59
                  try clear hf59
                  try clear c60
                  try clear p64
                  try clear hcz10_0
                  try clear hcz10_1
                  try clear hcz10_2
                  try clear hcz15_0
                  try clear hcz15_1
                  try clear hcz15_2
                  try clear hcz18_0
                  try clear hcz18_1
                  try clear hcz18_2
                  try clear hcz20_0
                  try clear hcz20_1
                  try clear hcz20_2
                  try clear hcz24_0
                  try clear hcz24_1
                  try clear hcz24_2
                  try clear hcz29_0
                  try clear hcz29_1
                  try clear hcz29_2
                  try clear hcz35_0
                  try clear hcz35_1
                  try clear hcz35_2
                  try clear hcz36_0
                  try clear hcz36_1
                  try clear hcz36_2
                  try clear hcz58_0
                  try clear hcz58_1
                  try clear hcz58_2
                  try clear hcz61_0
                  try clear hcz61_1
                  try clear hcz61_2
                  try clear hcz65_0
                  try clear hcz65_1
                  try clear hcz65_2
                  try clear hcz67_0
                  try clear hcz67_1
                  try clear hcz67_2
                  try clear hcz8_0
                  try clear hcz8_1
                  try clear hcz8_2
                  try clear hcz9_0
                  try clear hcz9_1
                  try clear hcz9_2
                  try clear hfz10_0
                  try clear hfz10_1
                  try clear hfz10_2
                  try clear hfz15_0
                  try clear hfz15_1
                  try clear hfz15_2
                  try clear hfz18_0
                  try clear hfz18_1
                  try clear hfz18_2
                  try clear hfz20_0
                  try clear hfz20_1
                  try clear hfz20_2
                  try clear hfz24_0
                  try clear hfz24_1
                  try clear hfz24_2
                  try clear hfz29_0
                  try clear hfz29_1
                  try clear hfz29_2
                  try clear hfz35_0
                  try clear hfz35_1
                  try clear hfz35_2
                  try clear hfz36_0
                  try clear hfz36_1
                  try clear hfz36_2
                  try clear hfz58_0
                  try clear hfz58_1
                  try clear hfz58_2
                  try clear hfz61_0
                  try clear hfz61_1
                  try clear hfz61_2
                  try clear hfz65_0
                  try clear hfz65_1
                  try clear hfz65_2
                  try clear hfz67_0
                  try clear hfz67_1
                  try clear hfz67_2
                  try clear hfz8_0
                  try clear hfz8_1
                  try clear hfz8_2
                  try clear hfz9_0
                  try clear hfz9_1
                  try clear hfz9_2
                  try clear hx248_0
                  try clear hx253_0
                  try clear hx254_0
                  try clear hx34_0
                  try clear hx59_0
                  try clear p2
                  try clear p24
                  try clear p248
                  try clear p253
                  try clear p254
                  try clear p3
                  try clear p34
                  try clear p51
                  try clear p59
                  try clear p6
                  try clear q2
                  try clear q24
                  try clear q248
                  try clear q253
                  try clear q254
                  try clear q3
                  try clear q34
                  try clear q51
                  try clear q59
                  obtain ⟨x8_5, x108_5, rfl, rfl, HA, HK5, BK234, HB⟩ := hrel
                  cases gk with
                  | zero => exact absurd HA.out (by simp [impl_ValidTiling.l3])
                  | succ k5 =>
                   have H := HA.out
                   clear HA
                   simp only [impl_ValidTiling.l3] at H
                   by_cases c68 : x108_5 < (l0_2.length : Int)
                   rotate_left
                   · rw [if_neg c68] at H
                     have c68b0 : decide (x108_5 < (l0_2.length : Int)) = false := decide_eq_false c68
                     (try simp only [hl6_4] at c68b0)
                     (try simp only [hl6_5] at c68b0)
                     clear c68
                     by_cases c72 : x8_5 = 0
                     rotate_left
                     · rw [if_neg c72] at H
                       have c72b0 : (x8_5 == 0) = false := beq_eq_false_iff_ne.mpr c72
                       have c72b1 : (x8_5 != 0) = true := bne_iff_ne.mpr c72
                       obtain rfl := Option.some.inj H
                       go_wp2
                       go_ret
                       exact ⟨by first | rfl | (simp [errW_none, errW_some] <;> rfl) | (simp [*, errW_none, errW_some] <;> rfl), by repeat (first | (with_reducible first | exact HB.out | apply below_alloc | apply pw_below_drewN | apply below_drew1 | refine below_set ?_ GE234.out) | exact HB.out)⟩
                     rw [if_pos c72] at H
                     have c72b0 : (x8_5 == 0) = true := beq_iff_eq.mpr c72
                     have c72b1 : (x8_5 != 0) = false := bne_eq_false_iff_eq.mpr c72
                     clear c72
                     have H' := mkA H
                     clear H
                     go_wp2
                     (try simp only [← hl6_4])
                     go_roundg k5
                     case measure => have := HJ1.out; have := HJ11.out; have := HK3.out; have := HK4.out; have := HK5.out; omega
                     case rel => exact ⟨(wrap64 (x48_3 + 1)), (by first | rfl | (simp; done) | (simp [*]; done) | (simp [i64_w, i32_w]; done)), H', ⟨by have := HJ1.out; have := HJ11.out; have := HK3.out; have := HK4.out; have := HK5.out; omega⟩, ⟨by (try simp only [hl6_4]); (with_reducible repeat (first | refine blk_drewN ?_ _ | refine blk_drew ?_ | refine blk_alloc ?_ _)); exact BK234.out⟩, ⟨by repeat (first | (with_reducible first | exact HB.out | apply below_alloc | apply pw_below_drewN | apply below_drew1 | refine below_set ?_ GE234.out) | exact HB.out)⟩⟩
                   rw [if_pos c68] at H
                   have c68b0 : decide (x108_5 < (l0_2.length : Int)) = true := decide_eq_true c68
                   (try simp only [hl6_4] at c68b0)
                   (try simp only [hl6_5] at c68b0)
                   clear c68
                   by_cases c69 : 0 ≤ x108_5
                   rotate_left
                   · rw [if_neg c69] at H
                     exact absurd H (by simp)
                   rw [if_pos c69] at H
                   have c69b0 : decide (0 ≤ x108_5) = true := decide_eq_true c69
                   clear c69
                   by_cases c70 : x108_5 < (l0_2.length : Int)
                   rotate_left
                   · rw [if_neg c70] at H
                     exact absurd H (by simp)
                   rw [if_pos c70] at H
                   have c70b0 : decide (x108_5 < (l0_2.length : Int)) = true := decide_eq_true c70
                   (try simp only [hl6_4] at c70b0)
                   (try simp only [hl6_5] at c70b0)
                   clear c70
                   by_cases c71 : (rd l0_2 x108_5) = x48_3
                   rotate_left
                   · rw [if_neg c71] at H
                     have c71b0 : ((rd l0_2 x108_5) == x48_3) = false := beq_eq_false_iff_ne.mpr c71
                     have c71b1 : ((rd l0_2 x108_5) != x48_3) = true := bne_iff_ne.mpr c71
                     have H' := mkA H
                     clear H
                     have p259 : 0 ≤ (x108_5 : Int) := dt_
                     have q259 : x108_5 < (l0_2.length : Int) := dt_
                     obtain ⟨ad259, e259, hx259_0⟩ := Kd.at_int HR0_2.out x108_5 p259 q259
                     cases e259
                     replace hx259_0 := bc_ HB.out hx259_0
                     replace p259 := eq_true p259
                     replace q259 := eq_true q259
                     go_wp2
                     go_roundg k5
                     case measure => have := HJ1.out; have := HJ11.out; have := HK3.out; have := HK4.out; have := HK5.out; omega
                     case rel => exact ⟨(x8_5), (wrap64 (x108_5 + 1)), (by first | rfl | (simp; done) | (simp [*]; done) | (simp [i64_w, i32_w]; done)), (by first | rfl | (simp; done) | (simp [*]; done) | (simp [i64_w, i32_w]; done)), H', ⟨by have := HJ1.out; have := HJ11.out; have := HK3.out; have := HK4.out; have := HK5.out; omega⟩, ⟨by (try simp only [hl6_4]); (with_reducible repeat (first | refine blk_drewN ?_ _ | refine blk_drew ?_ | refine blk_alloc ?_ _)); exact BK234.out⟩, ⟨by repeat (first | (with_reducible first | exact HB.out | apply below_alloc | apply pw_below_drewN | apply below_drew1 | refine below_set ?_ GE234.out) | exact HB.out)⟩⟩
                   rw [if_pos c71] at H
                   have c71b0 : ((rd l0_2 x108_5) == x48_3) = true := beq_iff_eq.mpr c71
                   have c71b1 : ((rd l0_2 x108_5) != x48_3) = false := bne_eq_false_iff_eq.mpr c71
                   clear c71
                   have H' := mkA H
                   clear H
                   have p259 : 0 ≤ (x108_5 : Int) := dt_
                   have q259 : x108_5 < (l0_2.length : Int) := dt_
                   obtain ⟨ad259, e259, hx259_0⟩ := Kd.at_int HR0_2.out x108_5 p259 q259
                   cases e259
                   replace hx259_0 := bc_ HB.out hx259_0
                   replace p259 := eq_true p259
                   replace q259 := eq_true q259
                   go_wp2
                   go_roundg k5
                   case measure => have := HJ1.out; have := HJ11.out; have := HK3.out; have := HK4.out; have := HK5.out; omega
                   case rel => exact ⟨(wrap64 (x8_5 - 1)), (wrap64 (x108_5 + 1)), (by first | rfl | (simp; done) | (simp [*]; done) | (simp [i64_w, i32_w]; done)), (by first | rfl | (simp; done) | (simp [*]; done) | (simp [i64_w, i32_w]; done)), H', ⟨by have := HJ1.out; have := HJ11.out; have := HK3.out; have := HK4.out; have := HK5.out; omega⟩, ⟨by (try simp only [hl6_4]); (with_reducible repeat (first | refine blk_drewN ?_ _ | refine blk_drew ?_ | refine blk_alloc ?_ _)); exact BK234.out⟩, ⟨by repeat (first | (with_reducible first | exact HB.out | apply below_alloc | apply pw_below_drewN | apply below_drew1 | refine below_set ?_ GE234.out) | exact HB.out)⟩⟩
               rw [if_pos c43] at H
               have c43b0 : decide (x9_4 < (x7_4.length : Int)) = true := decide_eq_true c43
               (try simp only [hl6_4] at c43b0)
               clear c43
               by_cases c44 : 0 ≤ x9_4
               rotate_left
               · rw [if_neg c44] at H
                 exact absurd H (by simp)
               rw [if_pos c44] at H
               have c44b0 : decide (0 ≤ x9_4) = true := decide_eq_true c44
               clear c44
               replace H := Option.bind_eq_some_iff.mp H
               obtain ⟨⟨t249, t250, t251, t252⟩, A450, H⟩ := H
               replace H : (impl_ValidTiling.l2 k4 x48_3 x6_4 x7_4 (wrap64 (x8_4 + 1)) x9_4 t239 x48_3 0 t249 t250 t251 t252 a0_0 a0_1 l0_2) = some r := H
               have A45 := mkA A450
               clear A450
               have H' := mkA H
               clear H
               obtain ⟨Ao46, co46, eo46⟩ := Kd.R_slice HO_7.out
               subst eo46
               try go_wp2
               have n0_ := mkA (Kd.R_drew HO_6.out)
               have n1_ := mkA (Kd.R_drew HO_7.out)
               have n2_ := mkA (blk_drew BK234.out)
               have n3_ := mkA (below_drew1 HB.out)
               clear HO_6
               clear HO_7
               clear BK234
               clear HB
               have HO_6 := n0_
               have HO_7 := n1_
               have BK234 := n2_
               have HB := n3_
               clear n0_ n1_ n2_ n3_
               have p248 : 0 ≤ (x9_4 : Int) := dt_
               have q248 : x9_4 < (x7_4.length : Int) := dt_
               obtain ⟨ad248, e248, hx248_0⟩ := Kd.at_int (Kd.R_reads' HO_7.out).2.2 x9_4 p248 q248
               cases e248
               replace p248 := eq_true p248
               replace q248 := eq_true q248
               refine start_ (n := 7) (S := fun w' => w'.cell? ⟨gb234, 0, none⟩ = some (.int .i64 a0_0) ∧ w'.cell? ⟨gb234, 1, none⟩ = some (.int .i64 a0_1) ∧ w'.cell? ⟨gb234, 2, none⟩ = some (.slice A0_2 l0_2.length c0_2) ∧ w'.cell? (ad248.add (x9_4).toNat) = some (.int .i64 (rd x7_4 x9_4))) (ds := []) #[false, false, false, false, false, false, false] (by kernel_rfl) rfl rfl ⟨(blk_cell BK234.out 0).trans rfl, (blk_cell BK234.out 1).trans rfl, (blk_cell BK234.out 2).trans rfl, hx248_0⟩ (fun hHeld => ?_)
               generalize wr.drew = w47 at HO_6 HO_7 BK234 HB hx248_0 hHeld ⊢
               refine pure_ (i := 1) (N := some 75) (v := ?_) (a' := ?_) #[false, true, false, false, false, false, false] rfl rfl (by kernel_rfl) (fun _ _ _ h => h) (Or.inl ⟨by rfl, ?_⟩) ?_ ?_
               rotate_left
               · intro w'
                 go_simp
                 with_reducible rfl
               rotate_left
               · simp only [Act.put, sA, sB, sC, i64_w, i32_w]
                 rfl
               refine pure_ (i := 2) (N := some 76) (v := ?_) (a' := ?_) #[false, true, true, false, false, false, false] rfl rfl (by kernel_rfl) (fun _ _ _ h => h) (Or.inl ⟨by rfl, ?_⟩) ?_ ?_
               rotate_left
               · intro w'
                 go_simp
                 with_reducible rfl
               rotate_left
               · simp only [Act.put, sA, sB, sC, i64_w, i32_w]
                 rfl
               refine pure_ (i := 3) (N := some 77) (v := ?_) (a' := ?_) #[false, true, true, true, false, false, false] rfl rfl (by kernel_rfl) (fun _ _ _ h => h) (Or.inl ⟨by rfl, ?_⟩) ?_ ?_
               rotate_left
               · intro w'
                 go_simp
                 with_reducible rfl
               rotate_left
               · simp only [Act.put, sA, sB, sC, i64_w, i32_w]
                 rfl
               refine pure_ (i := 6) (N := some 80) (v := ?_) (a' := ?_) #[false, true, true, true, false, false, true] rfl rfl (by kernel_rfl) (fun _ _ _ h => h) (Or.inl ⟨by rfl, ?_⟩) ?_ ?_
               rotate_left
               · intro w'
                 go_simp
                 with_reducible rfl
               rotate_left
               · simp only [Act.put, sA, sB, sC, i64_w, i32_w]
                 rfl
               refine take_ (i := 0) (N := some 74) (v := ?_) (a' := ?_) #[true, true, true, true, false, false, true] rfl rfl (by kernel_rfl) (fun _ _ _ h => h) (Or.inl ⟨by rfl, ?_⟩) hHeld ?_ ?_
               rotate_left
               · rintro w' ⟨s0, s1, s2, s3⟩
                 go_simp
                 with_reducible rfl
               rotate_left
               · simp only [Act.put, sA, sB, sC, i64_w, i32_w]
                 rfl
               refine take_ (i := 4) (N := some 78) (v := ?_) (a' := ?_) #[true, true, true, true, true, false, true] rfl rfl (by kernel_rfl) (fun _ _ _ h => h) (Or.inl ⟨by rfl, ?_⟩) hHeld ?_ ?_
               rotate_left
               · rintro w' ⟨s0, s1, s2, s3⟩
                 go_simp
                 with_reducible rfl
               rotate_left
               · simp only [Act.put, sA, sB, sC, i64_w, i32_w]
                 rfl
               refine one_ (i := 5) (N := some 79) #[true, true, true, true, true, true, true] rfl rfl (by kernel_rfl) (by decide) (fun K hK => ?_)
               refine goes_ Try.func31 (by kernel_rfl) rfl #[.agg #[.int .i64 a0_0, .int .i64 a0_1, .slice A0_2 l0_2.length c0_2], .int .i64 (rd x7_4 x9_4)] (by rfl) rfl rfl (by (try simp only [List.map_toArray, List.map_cons, List.map_nil]); first | done | rfl | (simp only [List.length_drop, List.length_take]; rfl)) ?_
               with_reducible refine (impl_touchingCells.calls a0_0 a0_1 _ _ l0_2 (rd x7_4 x9_4) t249 t250 t251 t252 _ ?side1 ?side2 A45.out).mono ?_
               (case side1 => exact cb_ HR0_2.out HB.out)
               (case side2 => exact HC0_2.out)
               rintro e w48 ⟨rfl, hb⟩
               have HS3_ := (hb.cell (World.block_lt_of_cell? _ _ (hHeld.2.2.2))).trans (hHeld.2.2.2)
               refine ⟨_, rfl, ?_⟩
               have n0_ := mkA (Kd.R_below (by (with_reducible repeat (first | apply Kd.R_alloc | apply Kd.R_drewN | apply Kd.R_drew)); exact HO_6.out) hb)
               have n1_ := mkA (Kd.R_below (by (with_reducible repeat (first | apply Kd.R_alloc | apply Kd.R_drewN | apply Kd.R_drew)); exact HO_7.out) hb)
               have n2_ := mkA (blk_below (g := gb234) (o := .cells #[.int .i64 a0_0, .int .i64 a0_1, .slice A0_2 l0_2.length c0_2] 28 (0, 0)) (bl_ BK234.out) hb)
               have n3_ := mkA (below_step (bs1_ HB.out GE234.out) hb)
               clear HO_6
               clear HO_7
               clear BK234
               clear HB
               have HO_6 := n0_
               have HO_7 := n1_
               have BK234 := n2_
               have HB := n3_
               clear n0_ n1_ n2_ n3_
               (try clear hb)
               (try clear hb2)
               (try clear hk)
               (try clear hi)
               refine hK.out _ _ ⟨(blk_cell BK234.out 0).trans rfl, (blk_cell BK234.out 1).trans rfl, (blk_cell BK234.out 2).trans rfl, HS3_⟩ (fun hHeld => ?_)
               clear hK K
               refine norm_ (a' := ?_) ?_ ?_
               rotate_left
               · show Act.put _ (some 79) _ = _
                 simp only [Act.put, sA, sB, sC, i64_w, i32_w]
                 rfl
               refine done_ (by kernel_rfl) ?_
               try go_wp2
               go_loopg [7, 80] k4 (fun kq v7 v80 w' => ∃ (x6_5 : List Bool) (x7_5 : List Int) (x80_5 : Int), v80 = .int .i64 x80_5 ∧ Aside0 (impl_ValidTiling.l2 kq x48_3 x6_5 x7_5 (wrap64 (x8_4 + 1)) x9_4 t239 x48_3 x80_5 t249 t250 t251 t252 a0_0 a0_1 l0_2 = some r) ∧ Aside0 (kq ≤ k4) ∧ Aside0 (Kd.R Kd.bool 4 w' w.heap.size (fun _ => True) (.slice (some ⟨go34, 0, none⟩) x6_4.length co34) x6_5) ∧ Aside0 (Kd.R (Kd.int .i64) 2 w' w.heap.size (fun _ => True) v7 x7_5) ∧ Aside0 (w'.heap[gb234]? = some (.cells #[.int .i64 a0_0, .int .i64 a0_1, (.slice A0_2 l0_2.length c0_2)] 28 (0, 0))) ∧ Aside0 (Below w.heap.size w w'))
               case atStart => exact ⟨(x6_4), (x7_4), (0), (by first | rfl | (simp; done) | (simp [*]; done) | (simp [i64_w, i32_w]; done)), H', ⟨Nat.le_refl _⟩, ⟨by (try simp only [hl6_4]); (with_reducible repeat (first | apply Kd.R_alloc | apply Kd.R_drewN | apply Kd.R_drew)); exact HO_6.out⟩, ⟨by (try simp only [hl6_4]); (with_reducible repeat (first | apply Kd.R_alloc | apply Kd.R_drewN | apply Kd.R_drew)); exact HO_7.out⟩, ⟨by (try simp only [hl6_4]); (with_reducible repeat (first | refine blk_drewN ?_ _ | refine blk_drew ?_ | refine blk_alloc ?_ _)); exact BK234.out⟩, ⟨by repeat (first | (with_reducible first | exact HB.out | apply below_alloc | apply pw_below_drewN | apply below_drew1 | refine below_set ?_ GE234.out) | exact HB.out)⟩⟩
               case round =>
                clear H'
                try clear c1
                try clear c2
                try clear p2
                try clear q2
                try clear hx2
                try clear c3
                try clear p3
                try clear q3
                try clear hx3
                try clear hf3
                try clear c4
                try clear c5
                try clear p6
                try clear c7
                try clear c11
                try clear c14
                try clear c14b0
                try clear c19
                try clear c20
                try clear c21
                try clear c22
                try clear p24
                try clear q24
                try clear hx24
                try clear c26
                try clear c26b0
                try clear c28
                try clear c28b0
                try clear c30
                try clear c30b0
                try clear c30b1
                try clear c31
                try clear c31b0
                try clear c31b1
                try clear c32
                try clear c32b0
                try clear c33
                try clear c33b0
                try clear p34
                try clear q34
                try clear hx34
                try clear hf34
                try clear c43
                try clear c43b0
                try clear c44
                try clear c44b0
                try clear hcz10_0
                try clear hcz10_1
                try clear hcz10_2
                try clear hcz15_0
                try clear hcz15_1
                try clear hcz15_2
                try clear hcz18_0
                try clear hcz18_1
                try clear hcz18_2
                try clear hcz20_0
                try clear hcz20_1
                try clear hcz20_2
                try clear hcz24_0
                try clear hcz24_1
                try clear hcz24_2
                try clear hcz29_0
                try clear hcz29_1
                try clear hcz29_2
                try clear hcz35_0
                try clear hcz35_1
                try clear hcz35_2
                try clear hcz36_0
                try clear hcz36_1
                try clear hcz36_2
                try clear hcz8_0
                try clear hcz8_1
                try clear hcz8_2
                try clear hcz9_0
                try clear hcz9_1
                try clear hcz9_2
                try clear hfz10_0
                try clear hfz10_1
                try clear hfz10_2
                try clear hfz15_0
                try clear hfz15_1
                try clear hfz15_2
                try clear hfz18_0
                try clear hfz18_1
                try clear hfz18_2
                try clear hfz20_0
                try clear hfz20_1
                try clear hfz20_2
                try clear hfz24_0
                try clear hfz24_1
                try clear hfz24_2
                try clear hfz29_0
                try clear hfz29_1
                try clear hfz29_2
                try clear hfz35_0
                try clear hfz35_1
                try clear hfz35_2
                try clear hfz36_0
                try clear hfz36_1
                try clear hfz36_2
                try clear hfz8_0
                try clear hfz8_1
                try clear hfz8_2
                try clear hfz9_0
                try clear hfz9_1
                try clear hfz9_2
                try clear hx248_0
                try clear hx34_0
                try clear p2
                try clear p248
                try clear p3
                try clear p34
                try clear p6
                try clear q248
                try clear q3
                try clear q34
                obtain ⟨x6_5, x7_5, x80_5, rfl, HA, HK5, HO_6, HO_7, BK234, HB⟩ := hrel
                have hl6_5 := (Kd.R_reads' HO_6.out).1
                rw [hl6_5] at HO_6
                (try simp only [hl6_5])
                (try simp only [hl6_5] at BK234)
                (try simp only [hl6_5] at HO_7)
                cases gk with
                | zero => exact absurd HA.out (by simp [impl_ValidTiling.l2])
                | succ k5 =>
                 have H := HA.out
                 clear HA
                 simp only [impl_ValidTiling.l2] at H
                 by_cases c49 : x80_5 < 4
                 rotate_left
                 · rw [if_neg c49] at H
                   have c49b0 : decide (x80_5 < 4) = false := decide_eq_false c49
                   clear c49
                   have H' := mkA H
                   clear H
                   go_wp2
                   (try simp only [← hl6_4, ← hl6_5])
                   go_roundg k5
                   case measure => have := HJ1.out; have := HJ11.out; have := HK3.out; have := HK4.out; have := HK5.out; omega
                   case rel => exact ⟨(x6_5), (x7_5), ((wrap64 (x8_4 + 1))), (wrap64 (x9_4 + 1)), (by first | rfl | (simp; done) | (simp [*]; done) | (simp [i64_w, i32_w]; done)), (by first | rfl | (simp; done) | (simp [*]; done) | (simp [i64_w, i32_w]; done)), H', ⟨by have := HJ1.out; have := HJ11.out; have := HK3.out; have := HK4.out; have := HK5.out; omega⟩, ⟨by (try simp only [hl6_4]); (try simp only [hl6_5]); (with_reducible repeat (first | apply Kd.R_alloc | apply Kd.R_drewN | apply Kd.R_drew)); exact HO_6.out⟩, ⟨by (try simp only [hl6_4]); (try simp only [hl6_5]); (with_reducible repeat (first | apply Kd.R_alloc | apply Kd.R_drewN | apply Kd.R_drew)); exact HO_7.out⟩, ⟨by (try simp only [hl6_4]); (try simp only [hl6_5]); (with_reducible repeat (first | refine blk_drewN ?_ _ | refine blk_drew ?_ | refine blk_alloc ?_ _)); exact BK234.out⟩, ⟨by repeat (first | (with_reducible first | exact HB.out | apply below_alloc | apply pw_below_drewN | apply below_drew1 | refine below_set ?_ GE234.out) | exact HB.out)⟩⟩
                 rw [if_pos c49] at H
                 have c49b0 : decide (x80_5 < 4) = true := decide_eq_true c49
                 clear c49
                 by_cases c50 : 0 ≤ x80_5
                 rotate_left
                 · rw [if_neg c50] at H
                   exact absurd H (by simp)
                 rw [if_pos c50] at H
                 have c50b0 : decide (0 ≤ x80_5) = true := decide_eq_true c50
                 clear c50
                 by_cases c52 : 0 ≤ (rd [t249, t250, t251, t252] x80_5)
                 rotate_left
                 · rw [if_neg c52] at H
                   exact absurd H (by simp)
                 rw [if_pos c52] at H
                 have c52b0 : decide (0 ≤ (rd [t249, t250, t251, t252] x80_5)) = true := decide_eq_true c52
                 clear c52
                 by_cases c53 : (rd [t249, t250, t251, t252] x80_5) < (l0_2.length : Int)
                 rotate_left
                 · rw [if_neg c53] at H
                   exact absurd H (by simp)
                 rw [if_pos c53] at H
                 have c53b0 : decide ((rd [t249, t250, t251, t252] x80_5) < (l0_2.length : Int)) = true := decide_eq_true c53
                 (try simp only [hl6_4] at c53b0)
                 (try simp only [hl6_5] at c53b0)
                 clear c53
                 by_cases c54 : (rd l0_2 (rd [t249, t250, t251, t252] x80_5)) = x48_3
                 rotate_left
                 · rw [if_neg c54] at H
                   have c54b0 : ((rd l0_2 (rd [t249, t250, t251, t252] x80_5)) == x48_3) = false := beq_eq_false_iff_ne.mpr c54
                   have c54b1 : ((rd l0_2 (rd [t249, t250, t251, t252] x80_5)) != x48_3) = true := bne_iff_ne.mpr c54
                   have H' := mkA H
                   clear H
                   have p51 : 0 ≤ (x80_5 : Int) := dt_
                   have q51 : x80_5 < 4 := dt_
                   have hx51 := Go.Proofs.YtopopjkoanpjiaaX.idx4_ (P := Try.prog) (t := 52) (k := .i64) (fun _ _ _ _ _ => by kernel_rfl) (fun _ _ _ _ _ => by kernel_rfl) (fun _ _ _ _ _ => by kernel_rfl) (fun _ _ _ _ _ => by kernel_rfl) t249 t250 t251 t252 x80_5 p51 q51
                   replace p51 := eq_true p51
                   replace q51 := eq_true q51
                   have hcz65_0 : wr.cell? ⟨gb234, 0, none⟩ = some (.int .i64 a0_0) := (blk_cell BK234.out 0).trans rfl
                   have hcz65_1 : wr.cell? ⟨gb234, 1, none⟩ = some (.int .i64 a0_1) := (blk_cell BK234.out 1).trans rfl
                   have hcz65_2 : wr.cell? ⟨gb234, 2, none⟩ = some (.slice A0_2 l0_2.length c0_2) := (blk_cell BK234.out 2).trans rfl
                   have hfz65_0 := blk_frozen BK234.out 0
                   have hfz65_1 := blk_frozen BK234.out 1
                   have hfz65_2 := blk_frozen BK234.out 2
                   have p253 : 0 ≤ ((rd [t249, t250, t251, t252] x80_5) : Int) := dt_
                   have q253 : (rd [t249, t250, t251, t252] x80_5) < (l0_2.length : Int) := dt_
                   obtain ⟨ad253, e253, hx253_0⟩ := Kd.at_int HR0_2.out (rd [t249, t250, t251, t252] x80_5) p253 q253
                   cases e253
                   replace hx253_0 := bc_ HB.out hx253_0
                   replace p253 := eq_true p253
                   replace q253 := eq_true q253
                   go_wp2
                   (try simp only [← hl6_5])
                   go_roundg k5
                   case measure => have := HJ1.out; have := HJ11.out; have := HK3.out; have := HK4.out; have := HK5.out; omega
                   case rel => exact ⟨(x6_5), (x7_5), (wrap64 (x80_5 + 1)), (by first | rfl | (simp; done) | (simp [*]; done) | (simp [i64_w, i32_w]; done)), H', ⟨by have := HJ1.out; have := HJ11.out; have := HK3.out; have := HK4.out; have := HK5.out; omega⟩, ⟨by (try simp only [hl6_4]); (try simp only [hl6_5]); (with_reducible repeat (first | apply Kd.R_alloc | apply Kd.R_drewN | apply Kd.R_drew)); exact HO_6.out⟩, ⟨by (try simp only [hl6_4]); (try simp only [hl6_5]); (with_reducible repeat (first | apply Kd.R_alloc | apply Kd.R_drewN | apply Kd.R_drew)); exact HO_7.out⟩, ⟨by (try simp only [hl6_4]); (try simp only [hl6_5]); (with_reducible repeat (first | refine blk_drewN ?_ _ | refine blk_drew ?_ | refine blk_alloc ?_ _)); exact BK234.out⟩, ⟨by repeat (first | (with_reducible first | exact HB.out | apply below_alloc | apply pw_below_drewN | apply below_drew1 | refine below_set ?_ GE234.out) | exact HB.out)⟩⟩
                 rw [if_pos c54] at H
                 have c54b0 : ((rd l0_2 (rd [t249, t250, t251, t252] x80_5)) == x48_3) = true := beq_iff_eq.mpr c54
                 have c54b1 : ((rd l0_2 (rd [t249, t250, t251, t252] x80_5)) != x48_3) = false := bne_eq_false_iff_eq.mpr c54
                 clear c54
                 by_cases c55 : (rd [t249, t250, t251, t252] x80_5) < (x6_5.length : Int)
                 rotate_left
                 · rw [if_neg c55] at H
                   exact absurd H (by simp)
                 rw [if_pos c55] at H
                 have c55b0 : decide ((rd [t249, t250, t251, t252] x80_5) < (x6_5.length : Int)) = true := decide_eq_true c55
                 (try simp only [hl6_4] at c55b0)
                 (try simp only [hl6_5] at c55b0)
                 clear c55
                 obtain ⟨bq56, hbq56⟩ : ∃ b_ : Bool, b_ = (rdOf false x6_5 (rd [t249, t250, t251, t252] x80_5)) := ⟨_, rfl⟩
                 replace H : (if (bq56 = true) then (impl_ValidTiling.l2 k5 x48_3 x6_5 x7_5 (wrap64 (x8_4 + 1)) x9_4 t239 x48_3 (wrap64 (x80_5 + 1)) t249 t250 t251 t252 a0_0 a0_1 l0_2) else (if x7_5.length < 17592186044416 then (impl_ValidTiling.l2 k5 x48_3 (x6_5.set ((rd [t249, t250, t251, t252] x80_5) : Int).toNat true) (x7_5 ++ [rd [t249, t250, t251, t252] x80_5]) (wrap64 (x8_4 + 1)) x9_4 t239 x48_3 (wrap64 (x80_5 + 1)) t249 t250 t251 t252 a0_0 a0_1 l0_2) else (none))) = some r := by rw [← hbq56] at H; exact H
                 have Nbq56 := mkA hbq56
                 clear hbq56
                 by_cases c57 : (bq56 = true)
                 · subst c57
                   have H1 : (impl_ValidTiling.l2 k5 x48_3 x6_5 x7_5 (wrap64 (x8_4 + 1)) x9_4 t239 x48_3 (wrap64 (x80_5 + 1)) t249 t250 t251 t252 a0_0 a0_1 l0_2) = some r := by rw [if_pos rfl] at H; exact H
                   clear H
                   have H := H1
                   clear H1
                   have H' := mkA H
                   clear H
                   have p51 : 0 ≤ (x80_5 : Int) := dt_
                   have q51 : x80_5 < 4 := dt_
                   have hx51 := Go.Proofs.YtopopjkoanpjiaaX.idx4_ (P := Try.prog) (t := 52) (k := .i64) (fun _ _ _ _ _ => by kernel_rfl) (fun _ _ _ _ _ => by kernel_rfl) (fun _ _ _ _ _ => by kernel_rfl) (fun _ _ _ _ _ => by kernel_rfl) t249 t250 t251 t252 x80_5 p51 q51
                   replace p51 := eq_true p51
                   replace q51 := eq_true q51
                   have hcz58_0 : wr.cell? ⟨gb234, 0, none⟩ = some (.int .i64 a0_0) := (blk_cell BK234.out 0).trans rfl
                   have hcz58_1 : wr.cell? ⟨gb234, 1, none⟩ = some (.int .i64 a0_1) := (blk_cell BK234.out 1).trans rfl
                   have hcz58_2 : wr.cell? ⟨gb234, 2, none⟩ = some (.slice A0_2 l0_2.length c0_2) := (blk_cell BK234.out 2).trans rfl
                   have hfz58_0 := blk_frozen BK234.out 0
                   have hfz58_1 := blk_frozen BK234.out 1
                   have hfz58_2 := blk_frozen BK234.out 2
                   have p253 : 0 ≤ ((rd [t249, t250, t251, t252] x80_5) : Int) := dt_
                   have q253 : (rd [t249, t250, t251, t252] x80_5) < (l0_2.length : Int) := dt_
                   obtain ⟨ad253, e253, hx253_0⟩ := Kd.at_int HR0_2.out (rd [t249, t250, t251, t252] x80_5) p253 q253
                   cases e253
                   replace hx253_0 := bc_ HB.out hx253_0
                   replace p253 := eq_true p253
                   replace q253 := eq_true q253
                   have p254 : 0 ≤ ((rd [t249, t250, t251, t252] x80_5) : Int) := dt_
                   have q254 : (rd [t249, t250, t251, t252] x80_5) < (x6_5.length : Int) := dt_
                   obtain ⟨ad254, e254, hx254_0⟩ := Kd.at_bool (Kd.R_reads' HO_6.out).2.2 (rd [t249, t250, t251, t252] x80_5) p254 q254
                   (try rw [← Nbq56.out] at hx254_0)
                   obtain rfl : (⟨go34, 0, none⟩ : Addr) = ad254 := (by injection e254)
                   (first | simp only [add_plain] at hx254_0 | simp only [add_at] at hx254_0 | simp only [Addr.add, Nat.zero_add] at hx254_0 | skip)
                   replace p254 := eq_true p254
                   replace q254 := eq_true q254
                   go_wp2
                   (try simp only [← hl6_5])
                   go_roundg k5
                   case measure => have := HJ1.out; have := HJ11.out; have := HK3.out; have := HK4.out; have := HK5.out; omega
                   case rel => exact ⟨(x6_5), (x7_5), (wrap64 (x80_5 + 1)), (by first | rfl | (simp; done) | (simp [*]; done) | (simp [i64_w, i32_w]; done)), H', ⟨by have := HJ1.out; have := HJ11.out; have := HK3.out; have := HK4.out; have := HK5.out; omega⟩, ⟨by (try simp only [hl6_4]); (try simp only [hl6_5]); (with_reducible repeat (first | apply Kd.R_alloc | apply Kd.R_drewN | apply Kd.R_drew)); exact HO_6.out⟩, ⟨by (try simp only [hl6_4]); (try simp only [hl6_5]); (with_reducible repeat (first | apply Kd.R_alloc | apply Kd.R_drewN | apply Kd.R_drew)); exact HO_7.out⟩, ⟨by (try simp only [hl6_4]); (try simp only [hl6_5]); (with_reducible repeat (first | refine blk_drewN ?_ _ | refine blk_drew ?_ | refine blk_alloc ?_ _)); exact BK234.out⟩, ⟨by repeat (first | (with_reducible first | exact HB.out | apply below_alloc | apply pw_below_drewN | apply below_drew1 | refine below_set ?_ GE234.out) | exact HB.out)⟩⟩
                 · replace c57 := Bool.eq_false_iff.mpr c57
                   subst c57
                   have H1 : (if x7_5.length < 17592186044416 then (impl_ValidTiling.l2 k5 x48_3 (x6_5.set ((rd [t249, t250, t251, t252] x80_5) : Int).toNat true) (x7_5 ++ [rd [t249, t250, t251, t252] x80_5]) (wrap64 (x8_4 + 1)) x9_4 t239 x48_3 (wrap64 (x80_5 + 1)) t249 t250 t251 t252 a0_0 a0_1 l0_2) else (none)) = some r := by rw [if_neg (show ¬ (false = true) by decide)] at H; exact H
                   clear H
                   have H := H1
                   clear H1
                   obtain ⟨y255, hy255⟩ : ∃ y_ : List Bool, y_ = (x6_5.set ((rd [t249, t250, t251, t252] x80_5) : Int).toNat true) := ⟨_, rfl⟩
                   replace H : (if x7_5.length < 17592186044416 then (impl_ValidTiling.l2 k5 x48_3 y255 (x7_5 ++ [rd [t249, t250, t251, t252] x80_5]) (wrap64 (x8_4 + 1)) x9_4 t239 x48_3 (wrap64 (x80_5 + 1)) t249 t250 t251 t252 a0_0 a0_1 l0_2) else (none)) = some r := by first | (rw [hy255]; with_reducible exact H) | (have H2_ := (Option.bind_some _ _).symm.trans H; rw [hy255]; with_reducible exact H2_) | (have H2_ := (Option.bind_some _ _).symm.trans H; with_reducible exact H2_) | with_reducible exact H | (rw [hy255]; exact H) | exact H
                   have Ny255 := mkA hy255
                   clear hy255
                   by_cases c60 : x7_5.length < 17592186044416
                   rotate_left
                   · rw [if_neg c60] at H
                     exact absurd H (by simp)
                   rw [if_pos c60] at H
                   have LMc60 := mkA c60
                   clear c60
                   obtain ⟨y256, hy256⟩ : ∃ y_ : List Int, y_ = (x7_5 ++ [rd [t249, t250, t251, t252] x80_5]) := ⟨_, rfl⟩
                   replace H : (impl_ValidTiling.l2 k5 x48_3 y255 y256 (wrap64 (x8_4 + 1)) x9_4 t239 x48_3 (wrap64 (x80_5 + 1)) t249 t250 t251 t252 a0_0 a0_1 l0_2) = some r := by first | (rw [hy256]; with_reducible exact H) | (have H2_ := (Option.bind_some _ _).symm.trans H; rw [hy256]; with_reducible exact H2_) | (have H2_ := (Option.bind_some _ _).symm.trans H; with_reducible exact H2_) | with_reducible exact H | (rw [hy256]; exact H) | exact H
                   have Ny256 := mkA hy256
                   clear hy256
                   have H' := mkA H
                   clear H
                   have p51 : 0 ≤ (x80_5 : Int) := dt_
                   have q51 : x80_5 < 4 := dt_
                   have hx51 := Go.Proofs.YtopopjkoanpjiaaX.idx4_ (P := Try.prog) (t := 52) (k := .i64) (fun _ _ _ _ _ => by kernel_rfl) (fun _ _ _ _ _ => by kernel_rfl) (fun _ _ _ _ _ => by kernel_rfl) (fun _ _ _ _ _ => by kernel_rfl) t249 t250 t251 t252 x80_5 p51 q51
                   replace p51 := eq_true p51
                   replace q51 := eq_true q51
                   have hcz61_0 : wr.cell? ⟨gb234, 0, none⟩ = some (.int .i64 a0_0) := (blk_cell BK234.out 0).trans rfl
                   have hcz61_1 : wr.cell? ⟨gb234, 1, none⟩ = some (.int .i64 a0_1) := (blk_cell BK234.out 1).trans rfl
                   have hcz61_2 : wr.cell? ⟨gb234, 2, none⟩ = some (.slice A0_2 l0_2.length c0_2) := (blk_cell BK234.out 2).trans rfl
                   have hfz61_0 := blk_frozen BK234.out 0
                   have hfz61_1 := blk_frozen BK234.out 1
                   have hfz61_2 := blk_frozen BK234.out 2
                   have p253 : 0 ≤ ((rd [t249, t250, t251, t252] x80_5) : Int) := dt_
                   have q253 : (rd [t249, t250, t251, t252] x80_5) < (l0_2.length : Int) := dt_
                   obtain ⟨ad253, e253, hx253_0⟩ := Kd.at_int HR0_2.out (rd [t249, t250, t251, t252] x80_5) p253 q253
                   cases e253
                   replace hx253_0 := bc_ HB.out hx253_0
                   replace p253 := eq_true p253
                   replace q253 := eq_true q253
                   have p254 : 0 ≤ ((rd [t249, t250, t251, t252] x80_5) : Int) := dt_
                   have q254 : (rd [t249, t250, t251, t252] x80_5) < (x6_5.length : Int) := dt_
                   obtain ⟨ad254, e254, hx254_0⟩ := Kd.at_bool (Kd.R_reads' HO_6.out).2.2 (rd [t249, t250, t251, t252] x80_5) p254 q254
                   (try rw [← Nbq56.out] at hx254_0)
                   obtain rfl : (⟨go34, 0, none⟩ : Addr) = ad254 := (by injection e254)
                   (first | simp only [add_plain] at hx254_0 | simp only [add_at] at hx254_0 | simp only [Addr.add, Nat.zero_add] at hx254_0 | skip)
                   replace p254 := eq_true p254
                   replace q254 := eq_true q254
                   have p59 : 0 ≤ ((rd [t249, t250, t251, t252] x80_5) : Int) := dt_
                   have q59 : ((rd [t249, t250, t251, t252] x80_5) : Int) < ((x6_5.length : Int) : Int) := dt_
                   obtain ⟨hx59_0, hf59_0⟩ := Kd.R_celln false HO_6.out ((rd [t249, t250, t251, t252] x80_5) : Int) p59 q59
                   replace p59 := eq_true p59
                   replace q59 := eq_true q59
                   have HP62 := Kd.R_putg HO_6.out ((rd [t249, t250, t251, t252] x80_5) : Int) true
                   go_wp2_with (first | ((with_reducible refine gate_store (t := 4) (p := 99) rfl ?_); refine store_event (t := 4) (p := 99) (v := ?vo_w63) (w1 := (wr.setCell ⟨go34, ((rd [t249, t250, t251, t252] x80_5) : Int).toNat, none⟩ (.bool true))) ?hg ?ho ?hn ?hr ?_; (case ho => rfl); (case hg => rfl); (case hn => rfl); (case hr => first | (go_simp; done) | (go_simp; rfl)); intro w63 hw; have hg : wr.grownBy w63 (some go34) := (by rw [hw]; exact HP62.2); have hp_ : Kd.R Kd.bool 4 w63 w.heap.size (fun _ => True) (.slice (some ⟨go34, 0, none⟩) x6_5.length co34) y255 := (by rw [hw, Ny255.out]; exact HP62.1); clear HP62; have n0_ := mkA (hp_); have n1_ := mkA (Kd.R_over' (v := (.slice (some ⟨go34, 0, none⟩) x6_5.length co34)) (by (with_reducible repeat (first | apply Kd.R_alloc | apply Kd.R_drewN | apply Kd.R_drew)); exact HO_7.out) (Kd.R_typed HO_6.out) (by decide) hg); have n2_ := mkA (blk_grown (g := gb234) (o := .cells #[.int .i64 a0_0, .int .i64 a0_1, .slice (some ad253) l0_2.length c0_2] 28 (0, 0)) (bl_ BK234.out) hg (Kd.R_ne HO_6.out BK234.out (by decide))); have n3_ := mkA ((by rw [hw]; exact below_set (HB.out) GB34.out : Below w.heap.size w w63)); clear HO_6; clear HO_7; clear BK234; clear HB; have HO_6 := n0_; have HO_7 := n1_; have BK234 := n2_; have HB := n3_; clear n0_ n1_ n2_ n3_; clear hg hw hp_) | ((with_reducible refine gate_builtin (b := .append) (xs := #[.tmp 100, .tmp 102]) rfl ?_); (try (refine gate_guard (by rfl) ?_; dsimp only)); at_builtin; refine Kd.R_append (Kd.int .i64) (w0 := w) w.heap.size rfl (.tmp 100) (.tmp 102) 22 2 (.int .i64 0) 8 rfl Try.underlying22 info2 rfl (by decide) (by omega) u7 x7_5 (rd [t249, t250, t251, t252] x80_5) [.int .i64 (rd [t249, t250, t251, t252] x80_5)] (fun _ => True) (fun _ => False) rfl rfl ?aP (fun _ hk => hk.elim) ?aF ?aO ?aB ?aS ?aL ?_; (case aP => exact rfl); (case aB => exact (bs1_ HB.out GE234.out)); (case aF => exact (fun _ _ => trivial)); (case aO => exact (by (with_reducible repeat (first | apply Kd.R_alloc | apply Kd.R_drewN | apply Kd.R_drew)); exact HO_7.out)); (case aS => exact (below_size (bs1_ HB.out GE234.out))); (case aL => have := LMc60.out; omega); intro v257 w64 ho hb hg hat; rw [← Ny256.out] at ho; have n0_ := mkA (Kd.R_over' (by (with_reducible repeat (first | apply Kd.R_alloc | apply Kd.R_drewN | apply Kd.R_drew)); exact HO_6.out) (Kd.R_typed (by (with_reducible repeat (first | apply Kd.R_alloc | apply Kd.R_drewN | apply Kd.R_drew)); exact HO_7.out)) (by decide) hg); have n1_ := mkA (blk_grown (g := gb234) (o := .cells #[.int .i64 a0_0, .int .i64 a0_1, .slice (some ad253) l0_2.length c0_2] 28 (0, 0)) (bl_ BK234.out) hg (Kd.R_ne HO_7.out BK234.out (by decide))); have n2_ := mkA (hb); have n3_ := mkA (ho); clear HO_6; clear BK234; clear HB; clear HO_7; have HO_6 := n0_; have BK234 := n1_; have HB := n2_; have HO258 := n3_; clear n0_ n1_ n2_ n3_; clear ho hb hg hat))
                   (try simp only [← hl6_5])
                   go_roundg k5
                   case measure => have := HJ1.out; have := HJ11.out; have := HK3.out; have := HK4.out; have := HK5.out; omega
                   case rel => exact ⟨(y255), (y256), (wrap64 (x80_5 + 1)), (by first | rfl | (simp; done) | (simp [*]; done) | (simp [i64_w, i32_w]; done)), H', ⟨by have := HJ1.out; have := HJ11.out; have := HK3.out; have := HK4.out; have := HK5.out; omega⟩, ⟨by (try simp only [hl6_4]); (try simp only [hl6_5]); (with_reducible repeat (first | apply Kd.R_alloc | apply Kd.R_drewN | apply Kd.R_drew)); exact HO_6.out⟩, ⟨by (try simp only [hl6_4]); (try simp only [hl6_5]); (with_reducible repeat (first | apply Kd.R_alloc | apply Kd.R_drewN | apply Kd.R_drew)); exact HO258.out⟩, ⟨by (try simp only [hl6_4]); (try simp only [hl6_5]); (with_reducible repeat (first | refine blk_drewN ?_ _ | refine blk_drew ?_ | refine blk_alloc ?_ _)); exact BK234.out⟩, ⟨by repeat (first | (with_reducible first | exact HB.out | apply below_alloc | apply pw_below_drewN | apply below_drew1 | refine below_set ?_ GE234.out) | exact HB.out)⟩⟩
end Go.Proofs.Ytopopjkoanpjiaa.GFnExactTileNeighbours

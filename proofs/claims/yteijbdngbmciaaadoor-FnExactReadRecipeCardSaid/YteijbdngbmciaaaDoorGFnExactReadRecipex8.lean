-- Written by the session's own program (gen.py) out of the translation's print. Lean checks it.
import Derived.Test.YteijbdngbmciaaaDoorGFnExactReadRecipex0
import Derived.Test.YteijbdngbmciaaaDoorGFnExactReadRecipex6
import Derived.Test.YteijbdngbmciaaaDoorGFnExactReadRecipex7
namespace Go.Proofs.YteijbdngbmciaaaDoor.GFnExactReadRecipe
open Go.RowKit Go.Proofs.YteijbdngbmciaaaDoorW.PrintWords Go.Proofs.YteijbdngbmciaaaDoorW.PrintLast Go.Proofs.YteijbdngbmciaaaDoorW.PrintMore
attribute [local go_sem] max2_int min2_int max_two min_two max_three min_three max_four min_four   -- for this text's walks alone
set_option linter.unusedVariables false
set_option linter.unusedSimpArgs false

/-! ### impl_ReadRecipe: function 11 -/
mutual
def impl_ReadRecipe.l0 : Nat → ByteArray → List ByteArray → List ByteArray → Int → Int → List (Unit) → ByteArray → List (S44) → Option (ByteArray × (List (S44)) × Bool)
  | 0, _, _, _, _, _, _, _, _ => none
  | k + 1, x0, x4, x21, x22, x23, x961, x252000, x252001 => if x23 < x22 then (if 0 ≤ x23 then (if x23 < (x21.length : Int) then ((Go.Proofs.YteijbdngbmciaaaDoorX.strings_Cut.f (rdOf ByteArray.empty x21 x23) (⟨#[58]⟩ : ByteArray) x961).bind fun bt258 => ((impl_ReadList.f k bt258.2.1 x961).bind fun bt261 => (if bt261.2 = true then (if (bt261.1.length : Int) < 1 then (impl_ReadRecipe.j1 k x0 x4 bt258.1 bt261.1 x21 x22 x23 true x961 x252000 x252001 3 0 0) else (impl_ReadRecipe.j1 k x0 x4 bt258.1 bt261.1 x21 x22 x23 (decide ((bt261.1.length : Int) > 2)) x961 x252000 x252001 3 0 0)) else (impl_ReadRecipe.j1 k x0 x4 bt258.1 bt261.1 x21 x22 x23 true x961 x252000 x252001 3 0 0)))) else (none)) else (none)) else (if x0.toList = ([] : List UInt8) then (some ((⟨#[]⟩ : ByteArray), ([] : List (S44)), false)) else ((impl_RecipeText.f k x252000 x252001 x961).bind fun t256 => (if t256.toList = x0.toList then (some (x252000, x252001, true)) else (some ((⟨#[]⟩ : ByteArray), ([] : List (S44)), false)))))
def impl_ReadRecipe.j1 : Nat → ByteArray → List ByteArray → ByteArray → List Int → List ByteArray → Int → Int → Bool → List (Unit) → ByteArray → List (S44) → Int → Int → Int → Option (ByteArray × (List (S44)) × Bool)
  | 0, _, _, _, _, _, _, _, _, _, _, _, _, _, _ => none
  | k + 1, x0, x4, x8, x11, x21, x22, x23, x39, x961, x252000, x252001, x266000, x266001, x266002 => if x39 = true then (some ((⟨#[]⟩ : ByteArray), ([] : List (S44)), false)) else (if x8.toList = ([115, 97, 110, 100] : List UInt8) then (if 0 < (x11.length : Int) then (if (x11.length : Int) = 2 then (if 1 < (x11.length : Int) then (if x252001.length < 5864062014805 then (impl_ReadRecipe.l0 k x0 x4 x21 x22 (wrap64 (x23 + 1)) x961 x252000 (x252001 ++ [(⟨1, rd x11 0, rd x11 1⟩ : S44)])) else (none)) else (none)) else (if x252001.length < 5864062014805 then (impl_ReadRecipe.l0 k x0 x4 x21 x22 (wrap64 (x23 + 1)) x961 x252000 (x252001 ++ [(⟨1, rd x11 0, x266002⟩ : S44)])) else (none))) else (none)) else (if x8.toList = ([100, 121, 101] : List UInt8) then (if 0 < (x11.length : Int) then (if (x11.length : Int) = 2 then (if 1 < (x11.length : Int) then (if x252001.length < 5864062014805 then (impl_ReadRecipe.l0 k x0 x4 x21 x22 (wrap64 (x23 + 1)) x961 x252000 (x252001 ++ [(⟨2, rd x11 0, rd x11 1⟩ : S44)])) else (none)) else (none)) else (if x252001.length < 5864062014805 then (impl_ReadRecipe.l0 k x0 x4 x21 x22 (wrap64 (x23 + 1)) x961 x252000 (x252001 ++ [(⟨2, rd x11 0, x266002⟩ : S44)])) else (none))) else (none)) else (if 0 < (x11.length : Int) then (if (x11.length : Int) = 2 then (if 1 < (x11.length : Int) then (if x252001.length < 5864062014805 then (impl_ReadRecipe.l0 k x0 x4 x21 x22 (wrap64 (x23 + 1)) x961 x252000 (x252001 ++ [(⟨x266000, rd x11 0, rd x11 1⟩ : S44)])) else (none)) else (none)) else (if x252001.length < 5864062014805 then (impl_ReadRecipe.l0 k x0 x4 x21 x22 (wrap64 (x23 + 1)) x961 x252000 (x252001 ++ [(⟨x266000, rd x11 0, x266002⟩ : S44)])) else (none))) else (none))))
end
def impl_ReadRecipe.f (k : Nat) (a0 : ByteArray) (l1 : List (Unit)) : Option (ByteArray × (List (S44)) × Bool) := (Go.Proofs.YteijbdngbmciaaaDoorX.strings_Split.f a0 (⟨#[32]⟩ : ByteArray) l1).bind fun t247 => (if 0 < (t247.length : Int) then (if 1 ≤ (t247.length : Int) then ((some (t247.drop 1 : List ByteArray)).bind fun y252 => (impl_ReadRecipe.l0 k a0 t247 y252 (y252.length : Int) 0 l1 (rdOf ByteArray.empty t247 0) ([] : List (S44)))) else (none)) else (none))
theorem impl_ReadRecipe.mono_l : ∀ k, (∀ y0 y1 y2 y3 y4 y5 y6 y7, LeO (impl_ReadRecipe.l0 k y0 y1 y2 y3 y4 y5 y6 y7) (impl_ReadRecipe.l0 (k + 1) y0 y1 y2 y3 y4 y5 y6 y7)) ∧ (∀ y0 y1 y2 y3 y4 y5 y6 y7 y8 y9 y10 y11 y12 y13, LeO (impl_ReadRecipe.j1 k y0 y1 y2 y3 y4 y5 y6 y7 y8 y9 y10 y11 y12 y13) (impl_ReadRecipe.j1 (k + 1) y0 y1 y2 y3 y4 y5 y6 y7 y8 y9 y10 y11 y12 y13))
  | 0 => ⟨fun _ _ _ _ _ _ _ _ r h => by simp [impl_ReadRecipe.l0] at h, fun _ _ _ _ _ _ _ _ _ _ _ _ _ _ r h => by simp [impl_ReadRecipe.j1] at h⟩
  | k + 1 => by
    obtain ⟨ih0, ih1⟩ := impl_ReadRecipe.mono_l k
    refine ⟨?_, ?_⟩
    · intro y0 y1 y2 y3 y4 y5 y6 y7
      unfold impl_ReadRecipe.l0
      repeat' first
      | (with_reducible exact ih0 _ _ _ _ _ _ _ _)
      | (with_reducible exact ih1 _ _ _ _ _ _ _ _ _ _ _ _ _ _)
      | (with_reducible exact impl_ReadList.mono _ _ _)
      | (with_reducible exact impl_RecipeText.mono _ _ _ _)
      | (with_reducible exact LeO.refl _)
      | (with_reducible exact LeO.none _)
      | (with_reducible refine LeO.ite ?_ ?_)
      | (with_reducible refine LeO.bind ?_ (fun _ => ?_))
      | exact ih0 _ _ _ _ _ _ _ _
      | exact ih1 _ _ _ _ _ _ _ _ _ _ _ _ _ _
      | exact impl_ReadList.mono _ _ _
      | exact impl_RecipeText.mono _ _ _ _
      | exact LeO.none _
      | refine LeO.ite ?_ ?_
      | refine LeO.bind ?_ (fun _ => ?_)
    · intro y0 y1 y2 y3 y4 y5 y6 y7 y8 y9 y10 y11 y12 y13
      unfold impl_ReadRecipe.j1
      repeat' first
      | (with_reducible exact ih0 _ _ _ _ _ _ _ _)
      | (with_reducible exact ih1 _ _ _ _ _ _ _ _ _ _ _ _ _ _)
      | (with_reducible exact impl_ReadList.mono _ _ _)
      | (with_reducible exact impl_RecipeText.mono _ _ _ _)
      | (with_reducible exact LeO.refl _)
      | (with_reducible exact LeO.none _)
      | (with_reducible refine LeO.ite ?_ ?_)
      | (with_reducible refine LeO.bind ?_ (fun _ => ?_))
      | exact ih0 _ _ _ _ _ _ _ _
      | exact ih1 _ _ _ _ _ _ _ _ _ _ _ _ _ _
      | exact impl_ReadList.mono _ _ _
      | exact impl_RecipeText.mono _ _ _ _
      | exact LeO.none _
      | refine LeO.ite ?_ ?_
      | refine LeO.bind ?_ (fun _ => ?_)
theorem impl_ReadRecipe.mono : ∀ a0 a1 k, LeO (impl_ReadRecipe.f k a0 a1) (impl_ReadRecipe.f (k + 1) a0 a1) := by
  intro a0 a1 k
  obtain ⟨ih0, ih1⟩ := impl_ReadRecipe.mono_l k
  unfold impl_ReadRecipe.f
  repeat' first
      | (with_reducible exact ih0 _ _ _ _ _ _ _ _)
      | (with_reducible exact ih1 _ _ _ _ _ _ _ _ _ _ _ _ _ _)
      | (with_reducible exact impl_ReadList.mono _ _ _)
      | (with_reducible exact impl_RecipeText.mono _ _ _ _)
      | (with_reducible exact LeO.refl _)
      | (with_reducible exact LeO.none _)
      | (with_reducible refine LeO.ite ?_ ?_)
      | (with_reducible refine LeO.bind ?_ (fun _ => ?_))
      | exact ih0 _ _ _ _ _ _ _ _
      | exact ih1 _ _ _ _ _ _ _ _ _ _ _ _ _ _
      | exact impl_ReadList.mono _ _ _
      | exact impl_RecipeText.mono _ _ _ _
      | exact LeO.none _
      | refine LeO.ite ?_ ?_
      | refine LeO.bind ?_ (fun _ => ?_)
open List renaming setIfInBounds_toArray → sA, set_cons_zero → sB, set_cons_succ → sC
open Go.Proofs.YteijbdngbmciaaaDoorW.PrintWords.Aside0 renaming mk → mkA
open Go.Proofs.YteijbdngbmciaaaDoorX (dt_ bc_ p0_ p1_ bl_ cb_ bs0_ bs1_ bs2_ bs3_ bs4_ bs5_ bs6_ bs7_ bs8_ bs9_ bs10_ bs11_ bs12_)
set_option maxHeartbeats 8000000 in
set_option maxRecDepth 100000 in
theorem impl_ReadRecipe.calls (k : Nat) (a0 : ByteArray) (l1 : List (Unit)) (r1 : ByteArray) (r2 : List (S44)) (r3 : Bool) (w : World) (hr1 : Kd.C Go.Proofs.YteijbdngbmciaaaDoorX.kLib w (some ⟨0, 0, none⟩) l1.length l1) (h : impl_ReadRecipe.f k a0 l1 = some (r1, r2, r3)) :
 Calls Tryd.prog 11 #[.string a0] w fun e w' => ∃ v1_ : Value, e = .returned (.tuple #[.agg #[.string r1, v1_], .bool r3]) ∧ Kd.R k44 44 w' w.heap.size (fun _ => True) v1_ r2 ∧ Below w.heap.size w w' := by
 have hu29 := Tryd.underlying29
 have hu44 := Tryd.underlying44
 have HR1 := mkA hr1
 clear hr1
 have HB := mkA (Below.refl w.heap.size w)
 have H : ((Go.Proofs.YteijbdngbmciaaaDoorX.strings_Split.f a0 (⟨#[32]⟩ : ByteArray) l1).bind fun t247 => (if 0 < (t247.length : Int) then (if 1 ≤ (t247.length : Int) then ((some (t247.drop 1 : List ByteArray)).bind fun y252 => (impl_ReadRecipe.l0 k a0 t247 y252 (y252.length : Int) 0 l1 (rdOf ByteArray.empty t247 0) ([] : List (S44)))) else (none)) else (none))) = some (r1, r2, r3) := h
 clear h
 replace H := Option.bind_eq_some_iff.mp H
 obtain ⟨t247, A30, H⟩ := H
 replace H : (if 0 < (t247.length : Int) then (if 1 ≤ (t247.length : Int) then ((some (t247.drop 1 : List ByteArray)).bind fun y252 => (impl_ReadRecipe.l0 k a0 t247 y252 (y252.length : Int) 0 l1 (rdOf ByteArray.empty t247 0) ([] : List (S44)))) else (none)) else (none)) = some (r1, r2, r3) := H
 have A3 := mkA A30
 clear A30
 by_cases c4 : 0 < (t247.length : Int)
 rotate_left
 · rw [if_neg c4] at H
   exact absurd H (by simp)

 rw [if_pos c4] at H
 have c4b0 : decide (0 < (t247.length : Int)) = true := decide_eq_true c4
 have c4b1 : decide (0 < t247.length) = true := decide_eq_true (by omega)
 clear c4
 by_cases c5 : 1 ≤ (t247.length : Int)
 rotate_left
 · rw [if_neg c5] at H
   exact absurd H (by simp)
 rw [if_pos c5] at H
 have c5b0 := eq_true c5
 have c5b1 : decide (1 ≤ (t247.length : Int)) = true := decide_eq_true c5
 clear c5
 obtain ⟨y252, hy252⟩ : ∃ y_ : List ByteArray, y_ = (t247.drop 1) := ⟨_, rfl⟩
 replace H : (impl_ReadRecipe.l0 k a0 t247 y252 (y252.length : Int) 0 l1 (rdOf ByteArray.empty t247 0) ([] : List (S44))) = some (r1, r2, r3) := by first | (rw [hy252]; with_reducible exact H) | (have H2_ := (Option.bind_some _ _).symm.trans H; rw [hy252]; with_reducible exact H2_) | (have H2_ := (Option.bind_some _ _).symm.trans H; with_reducible exact H2_) | with_reducible exact H | (rw [hy252]; exact H) | exact H
 have Ny252 := mkA hy252
 clear hy252
 have H' := mkA H
 clear H
 go_enter Tryd.func11, Tryd.ntmps11
 go_wp2_with (first | ((with_reducible refine gate_dst (N := 2) rfl ?_); (try (refine gate_guard (by rfl) ?_; dsimp only)); refine box_event ?hg (N := 2) ?hd (cs := #[.string (⟨#[]⟩ : ByteArray), .slice none 0 0]) (t := 29) ?hr ?_; (case hd => rfl); (case hg => rfl); (case hr => first | (go_simp; done) | (go_simp; rfl)); intro gb246 hg w6 hbox hb; have n0_ := mkA (below_step (bs0_ HB.out) hb); have n1_ := mkA (hbox); have n2_ := mkA ((by rw [hg]; exact (below_size (bs0_ HB.out)) : w.heap.size ≤ gb246)); have n3_ := mkA ((by rw [hg]; exact (below_size (bs0_ HB.out)) : w.heap.size ≤ gb246)); clear HB; have HB := n0_; have BK246 := n1_; have GW246 := n2_; have GE246 := n3_; clear n0_ n1_ n2_ n3_; clear hb hbox hg) | ((with_reducible refine gate_callee (f := 24) rfl ?_); refine goesL_ (some 15) rfl rfl Tryd.func24 (by kernel_rfl) rfl #[.string a0, .string (⟨#[32]⟩ : ByteArray)] rfl (by (try simp only [List.map_toArray, List.map_cons, List.map_nil]); first | done | rfl | (simp only [List.length_drop, List.length_take]; rfl)) ?_; (with_reducible refine (Go.Proofs.YteijbdngbmciaaaDoorX.strings_Split.calls a0 (⟨#[32]⟩ : ByteArray) l1 t247 _ ?side1 A3.out).mono ?_); (case side1 => exact cb_ HR1.out HB.out); rintro e w7 ⟨v248, rfl, ho0, hb⟩; refine ⟨_, rfl, ?_⟩; have n0_ := mkA (Kd.R_lower ho0 (below_size (bs1_ HB.out GE246.out))); have n1_ := mkA (blk_below (g := gb246) (o := .cells #[.string (⟨#[]⟩ : ByteArray), .slice none 0 0] 29 (0, 0)) (bl_ BK246.out) hb); have n2_ := mkA (below_step (bs1_ HB.out GE246.out) hb); clear BK246; clear HB; have HO249 := n0_; have BK246 := n1_; have HB := n2_; clear n0_ n1_ n2_; (try clear hb); (try clear hb2); (try clear hk); (try clear hi); (try clear ho0); obtain ⟨Ao8, co8, eo8⟩ := Kd.R_slice HO249.out; subst eo8; have p250 : 0 ≤ (0 : Int) := (by omega); have q250 : 0 < (t247.length : Int) := dt_; obtain ⟨ad250, e250, hx250_0⟩ := Kd.at_string (Kd.R_reads' HO249.out).2.2 0 p250 q250; cases e250; have qi250 : (0 < t247.length) = True := eq_true (by omega); (try rw [show ((0 : Int)).toNat = 0 from rfl] at hx250_0); (try rw [Addr.add_zero'] at hx250_0); replace p250 := eq_true p250; replace q250 := eq_true q250) | ((with_reducible refine gate_dst (N := 5) rfl ?_); (try (refine gate_guard (by rfl) ?_; dsimp only)); refine box_event ?hg (N := 5) ?hd (cs := #[.string (⟨#[]⟩ : ByteArray), .slice none 0 0]) (t := 29) ?hr ?_; (case hd => rfl); (case hg => rfl); (case hr => first | (go_simp; done) | (go_simp; rfl)); intro gb251 hg w9 hbox hb; have n0_ := mkA (Kd.R_below (by (with_reducible repeat (first | apply Kd.R_alloc | apply Kd.R_drewN | apply Kd.R_drew)); exact HO249.out) hb); have n1_ := mkA (blk_below (g := gb246) (o := .cells #[.string (⟨#[]⟩ : ByteArray), .slice none 0 0] 29 (0, 0)) (bl_ BK246.out) hb); have n2_ := mkA (below_step (bs1_ HB.out GE246.out) hb); have n3_ := mkA (hbox); have n4_ := mkA ((by rw [hg]; exact (below_size (bs1_ HB.out GE246.out)) : w.heap.size ≤ gb251)); have n5_ := mkA ((by rw [hg]; exact (below_size (bs1_ HB.out GE246.out)) : w.heap.size ≤ gb251)); have n6_ := mkA ((by rw [hg]; exact Nat.ne_of_lt (blk_lt (g := gb246) (o := .cells #[.string (⟨#[]⟩ : ByteArray), .slice none 0 0] 29 (0, 0)) (bl_ BK246.out)) : gb246 ≠ gb251)); have n7_ := mkA ((by rw [hg]; exact Nat.ne_of_gt (blk_lt (g := gb246) (o := .cells #[.string (⟨#[]⟩ : ByteArray), .slice none 0 0] 29 (0, 0)) (bl_ BK246.out)) : gb251 ≠ gb246)); clear HO249; clear BK246; clear HB; have HO249 := n0_; have BK246 := n1_; have HB := n2_; have BK251 := n3_; have GW251 := n4_; have GE251 := n5_; have NB246_251 := n6_; have NB251_246 := n7_; clear n0_ n1_ n2_ n3_ n4_ n5_ n6_ n7_; clear hb hbox hg; have hnb10 := NB251_246.out; have hnc10 := NB246_251.out; have hcz11_0 : w9.cell? ⟨gb251, 0, none⟩ = some (.string (⟨#[]⟩ : ByteArray)) := (blk_cell BK251.out 0).trans rfl; have hcz11_1 : w9.cell? ⟨gb251, 1, none⟩ = some (.slice none 0 0) := (blk_cell BK251.out 1).trans rfl; have hfz11_0 := blk_frozen BK251.out 0; have hfz11_1 := blk_frozen BK251.out 1) | ((with_reducible refine gate_store (t := 29) (p := 5) rfl ?_); refine store_event (t := 29) (p := 5) (v := ?vo_w12) (w1 := ((w9.setCell ⟨gb251, 0, none⟩ (.string (rdOf ByteArray.empty t247 0))).setCell ⟨gb251, 1, none⟩ (.slice none 0 0))) ?hg ?ho ?hn ?hr ?_; (case ho => rfl); (case hg => rfl); (case hn => rfl); (case hr => first | (go_simp; done) | (go_simp; rfl)); intro w12 hw; have n0_ : Aside0 (Kd.R Kd.string 9 w12 w.heap.size (fun _ => True) (.slice (some ad250) t247.length co8) t247) := ⟨(by rw [hw]; exact (by (with_reducible repeat (first | apply Kd.R_alloc | apply Kd.R_drewN | apply Kd.R_drew)); exact Kd.R_mono (Kd.R_far (p := ⟨gb251, 1, none⟩) (Kd.R_far (p := ⟨gb251, 0, none⟩) (Kd.R_types HO249.out BK251.out (by decide)) (fun _ hk => hk.2) (.string (rdOf ByteArray.empty t247 0))) (fun _ hk => hk.2) (.slice none 0 0)) (fun _ hk => trivial)))⟩; have n1_ : Aside0 (w12.heap[gb246]? = some (.cells #[.string (⟨#[]⟩ : ByteArray), .slice none 0 0] 29 (0, 0))) := ⟨(by rw [hw]; exact (by (with_reducible repeat (first | refine blk_drewN ?_ _ | refine blk_drew ?_ | refine blk_alloc ?_ _)); refine blk_far ?_ NB246_251.out _; (with_reducible repeat (first | refine blk_drewN ?_ _ | refine blk_drew ?_ | refine blk_alloc ?_ _)); refine blk_far ?_ NB246_251.out _; (with_reducible repeat (first | refine blk_drewN ?_ _ | refine blk_drew ?_ | refine blk_alloc ?_ _)); exact BK246.out))⟩; have n2_ : Aside0 (w12.heap[gb251]? = some (.cells #[.string (rdOf ByteArray.empty t247 0), .slice none 0 0] 29 (0, 0))) := ⟨(by rw [hw]; exact (by (with_reducible repeat (first | refine blk_drewN ?_ _ | refine blk_drew ?_ | refine blk_alloc ?_ _)); refine blk_put (cs := #[.string (rdOf ByteArray.empty t247 0), .slice none 0 0]) ?_ 1 _ rfl; (with_reducible repeat (first | refine blk_drewN ?_ _ | refine blk_drew ?_ | refine blk_alloc ?_ _)); refine blk_put (cs := #[.string (⟨#[]⟩ : ByteArray), .slice none 0 0]) ?_ 0 _ rfl; (with_reducible repeat (first | refine blk_drewN ?_ _ | refine blk_drew ?_ | refine blk_alloc ?_ _)); exact BK251.out))⟩; have n3_ : Aside0 (Below w.heap.size w w12) := ⟨(by rw [hw]; exact (bs2_ HB.out GE246.out GE251.out))⟩; clear hw; clear HO249; clear BK246; clear BK251; clear HB; have HO249 := n0_; have BK246 := n1_; have BK251 := n2_; have HB := n3_; clear n0_ n1_ n2_ n3_; have q13 : (1 : Int) ≤ ((t247.length : Int) : Int) := dt_; obtain ⟨i013, hi013, _, hsz13, _⟩ := info_parts info9; have hroom13 : t247.length ≤ co8 := (Kd.R_reads' HO249.out).2.1; have hC13 : Kd.C Kd.string _ (some ad250) t247.length t247 := (Kd.R_reads' HO249.out).2.2; have hcut13 := cut_from (P := Tryd.prog) 49 9 .i64 Tryd.underlying49 hi013 1 hsz13 (some ad250) t247.length co8 1 (by omega) q13; have hr13 := Kd.C_drop (m := (1 : Int).toNat) (c := co8) hC13 (by omega) hroom13; obtain ⟨A13, hA13⟩ : ∃ A1, A1 = (if co8 = (1 : Int).toNat then (some ad250) else ((some ad250) : Option Addr).map (·.add ((1 : Int).toNat * 1))) := ⟨_, rfl⟩; obtain ⟨c13, hc13⟩ : ∃ c1, c1 = co8 - (1 : Int).toNat := ⟨_, rfl⟩; have hy13 : y252.length = t247.length - (1 : Int).toNat := (by rw [Ny252.out, List.length_drop] <;> omega); rw [show (t247).drop (1 : Int).toNat = y252 from Ny252.out.symm] at hr13; replace hr13 : Kd.C Kd.string _ A13 y252.length y252 := (by rw [hA13]; exact hr13); rw [← hy13, ← hA13, ← hc13] at hcut13; have HR255 := mkA hr13; have HC255 := mkA (show y252.length ≤ c13 from by rw [hy13, hc13]; exact Nat.sub_le_sub_right hroom13 _); clear hr13 hC13 hroom13 hi013 hsz13 hc13; have KY13 := mkA hy13; have KA13 := mkA hA13; clear hy13 hA13; have KL13 := mkA (show 1 ≤ t247.length from by omega); replace q13 := eq_true q13))
 go_loopg [23] k (fun kq v23 w' => ∃ (x23_1 : Int) (x247000_1 : ByteArray) (x252001_1 : List (S44)) (u252001 : Value), v23 = .int .i64 x23_1 ∧ Aside0 (impl_ReadRecipe.l0 kq a0 t247 y252 (y252.length : Int) x23_1 l1 (rdOf ByteArray.empty t247 0) x252001_1 = some (r1, r2, r3)) ∧ Aside0 (kq ≤ k) ∧ Aside0 (Kd.R Kd.string 9 w' w.heap.size (fun _ => True) (.slice (some ad250) t247.length co8) t247) ∧ Aside0 (Kd.R k44 44 w' w.heap.size (fun _ => True) u252001 x252001_1) ∧ Aside0 (w'.heap[gb246]? = some (.cells #[.string x247000_1, (.slice none 0 0)] 29 (0, 0))) ∧ Aside0 (w'.heap[gb251]? = some (.cells #[.string (rdOf ByteArray.empty t247 0), u252001] 29 (0, 0))) ∧ Aside0 (Below w.heap.size w w'))
 case atStart => exact ⟨(0), ((⟨#[]⟩ : ByteArray)), (([] : List (S44))), (.slice none 0 0), (by first | rfl | (simp; done) | (simp [*]; done) | (simp [i64_w, i32_w]; done)), H', ⟨Nat.le_refl _⟩, ⟨by (with_reducible repeat (first | apply Kd.R_alloc | apply Kd.R_drewN | apply Kd.R_drew)); exact HO249.out⟩, ⟨by first | exact Kd.R_nil _ _ _ _ _ | exact Kd.N_nil _ _ _ _ _ | exact Kd.V_nil _ _ _ _ _ | exact Kd.Q_nil _ _ _ _ _ | exact Kd.S_nil _ _ _ _ _⟩, ⟨by (with_reducible repeat (first | refine blk_drewN ?_ _ | refine blk_drew ?_ | refine blk_alloc ?_ _)); exact BK246.out⟩, ⟨by (with_reducible repeat (first | refine blk_drewN ?_ _ | refine blk_drew ?_ | refine blk_alloc ?_ _)); exact BK251.out⟩, ⟨by repeat (first | (with_reducible first | exact HB.out | apply below_alloc | apply pw_below_drewN | apply below_drew1 | refine below_set ?_ GE246.out | refine below_set ?_ GE251.out) | exact HB.out)⟩⟩
 case round =>
  clear H'
  try clear c1
  try clear q1
  try clear c2
  try clear p2
  try clear q2
  try clear hx2
  try clear qi2
  try clear c4
  try clear c4b0
  try clear c4b1
  try clear c5
  try clear c5b0
  try clear c5b1
  try clear c10
  try clear c11
  try clear c13
  try clear q13
  try clear hcz11_0
  try clear hcz11_1
  try clear hfz11_0
  try clear hfz11_1
  try clear hx250_0
  try clear p250
  try clear q13
  try clear q250
  obtain ⟨x23_1, x247000_1, x252001_1, u252001, rfl, HA, HK1, HO_4, HO_252001, BK246, BK251, HB⟩ := hrel
  cases gk with
  | zero => exact absurd HA.out (by simp [impl_ReadRecipe.l0])
  | succ k1 =>
   have H := HA.out
   clear HA
   simp only [impl_ReadRecipe.l0] at H
   by_cases c14 : x23_1 < (y252.length : Int)
   rotate_left
   · rw [if_neg c14] at H
     have c14b0 : decide (x23_1 < (y252.length : Int)) = false := decide_eq_false c14
     clear c14
     by_cases c104 : a0.toList = ([] : List UInt8)
     · rw [if_pos c104] at H
       have c104b0 : (a0.toList == ([] : List UInt8)) = true := beq_iff_eq.mpr c104
       have c104b1 : (a0.toList != ([] : List UInt8)) = false := bne_eq_false_iff_eq.mpr c104
       clear c104
       simp only [Option.some.injEq, Prod.mk.injEq] at H
       obtain ⟨rfl, rfl, rfl⟩ := H
       have hnb105 := NB246_251.out
       have hnc105 := NB251_246.out
       have hcz106_0 : wr.cell? ⟨gb246, 0, none⟩ = some (.string x247000_1) := (blk_cell BK246.out 0).trans rfl
       have hcz106_1 : wr.cell? ⟨gb246, 1, none⟩ = some (.slice none 0 0) := (blk_cell BK246.out 1).trans rfl
       have hfz106_0 := blk_frozen BK246.out 0
       have hfz106_1 := blk_frozen BK246.out 1
       go_wp2
       refine bodyPost_ret (results_ct rfl _ _ gb246 29 #[.string (⟨#[]⟩ : ByteArray), .slice none 0 0] (0, 0) _ rfl (by (with_reducible repeat (first | refine blk_drewN ?_ _ | refine blk_drew ?_ | refine blk_alloc ?_ _)); refine blk_put (cs := #[.string (⟨#[]⟩ : ByteArray), .slice none 0 0]) ?_ 1 _ rfl; (with_reducible repeat (first | refine blk_drewN ?_ _ | refine blk_drew ?_ | refine blk_alloc ?_ _)); refine blk_put (cs := #[.string x247000_1, .slice none 0 0]) ?_ 0 _ rfl; (with_reducible repeat (first | refine blk_drewN ?_ _ | refine blk_drew ?_ | refine blk_alloc ?_ _)); exact BK246.out) Tryd.underlying29 rfl (by kernel_rfl)) rfl ?_
       exact ⟨_, by first | rfl | (simp [errW_none, errW_some] <;> rfl) | (simp [*, errW_none, errW_some] <;> rfl), by first | exact Kd.R_nil _ _ _ _ _ | exact Kd.N_nil _ _ _ _ _ | exact Kd.V_nil _ _ _ _ _ | exact Kd.Q_nil _ _ _ _ _ | exact Kd.S_nil _ _ _ _ _, by repeat (first | (with_reducible first | exact HB.out | apply below_alloc | apply pw_below_drewN | apply below_drew1 | refine below_set ?_ GE246.out | refine below_set ?_ GE251.out) | exact HB.out)⟩
     · rw [if_neg c104] at H
       have c104b0 : (a0.toList == ([] : List UInt8)) = false := beq_eq_false_iff_ne.mpr c104
       have c104b1 : (a0.toList != ([] : List UInt8)) = true := bne_iff_ne.mpr c104
       replace H := Option.bind_eq_some_iff.mp H
       obtain ⟨t256, A1070, H⟩ := H
       replace H : (if t256.toList = a0.toList then (some ((rdOf ByteArray.empty t247 0), x252001_1, true)) else (some ((⟨#[]⟩ : ByteArray), ([] : List (S44)), false))) = some (r1, r2, r3) := H
       have A107 := mkA A1070
       clear A1070
       by_cases c108 : t256.toList = a0.toList
       rotate_left
       · rw [if_neg c108] at H
         have c108b0 : (t256.toList == a0.toList) = false := beq_eq_false_iff_ne.mpr c108
         have c108b1 : (t256.toList != a0.toList) = true := bne_iff_ne.mpr c108
         simp only [Option.some.injEq, Prod.mk.injEq] at H
         obtain ⟨rfl, rfl, rfl⟩ := H
         have hnb115 := NB251_246.out
         have hnc115 := NB246_251.out
         have hcz116_0 : wr.cell? ⟨gb251, 0, none⟩ = some (.string (rdOf ByteArray.empty t247 0)) := (blk_cell BK251.out 0).trans rfl
         have hcz116_1 : wr.cell? ⟨gb251, 1, none⟩ = some (u252001) := (blk_cell BK251.out 1).trans rfl
         have hfz116_0 := blk_frozen BK251.out 0
         have hfz116_1 := blk_frozen BK251.out 1
         obtain ⟨Ao117, co117, eo117⟩ := Kd.R_slice HO_252001.out
         subst eo117
         go_wp2_with (first | (go_at_call 8; (with_reducible refine (impl_RecipeText.calls k1 (rdOf ByteArray.empty t247 0) _ _ x252001_1 l1 t256 _ ?side1 ?side2 ?side3 A107.out).mono ?_); (case side1 => repeat (first | exact (Kd.R_reads' HO_252001.out).2.2 | (with_reducible refine Kd.C_alloc ?_ _) | (with_reducible refine Kd.C_drewN ?_ _) | (with_reducible refine Kd.C_drew ?_))); (case side2 => exact (Kd.R_reads' HO_252001.out).2.1); (case side3 => exact cb_ HR1.out HB.out); rintro e w118 ⟨rfl, hb⟩; have n0_ := mkA (Kd.R_below (by (with_reducible repeat (first | apply Kd.R_alloc | apply Kd.R_drewN | apply Kd.R_drew)); exact HO_4.out) hb); have n1_ := mkA (Kd.R_below (by (with_reducible repeat (first | apply Kd.R_alloc | apply Kd.R_drewN | apply Kd.R_drew)); exact HO_252001.out) hb); have n2_ := mkA (blk_below (g := gb246) (o := .cells #[.string x247000_1, .slice none 0 0] 29 (0, 0)) (bl_ BK246.out) hb); have n3_ := mkA (blk_below (g := gb251) (o := .cells #[.string (rdOf ByteArray.empty t247 0), .slice Ao117 x252001_1.length co117] 29 (0, 0)) (bl_ BK251.out) hb); have n4_ := mkA (below_step (bs2_ HB.out GE246.out GE251.out) hb); clear HO_4; clear HO_252001; clear BK246; clear BK251; clear HB; have HO_4 := n0_; have HO_252001 := n1_; have BK246 := n2_; have BK251 := n3_; have HB := n4_; clear n0_ n1_ n2_ n3_ n4_; (try clear hb); (try clear hb2); (try clear hk); (try clear hi); have hcz119_0 : w118.cell? ⟨gb246, 0, none⟩ = some (.string x247000_1) := (blk_cell BK246.out 0).trans rfl; have hcz119_1 : w118.cell? ⟨gb246, 1, none⟩ = some (.slice none 0 0) := (blk_cell BK246.out 1).trans rfl; have hfz119_0 := blk_frozen BK246.out 0; have hfz119_1 := blk_frozen BK246.out 1))
         refine bodyPost_ret (results_ct rfl _ _ gb246 29 #[.string (⟨#[]⟩ : ByteArray), .slice none 0 0] (0, 0) _ rfl (by (with_reducible repeat (first | refine blk_drewN ?_ _ | refine blk_drew ?_ | refine blk_alloc ?_ _)); refine blk_put (cs := #[.string (⟨#[]⟩ : ByteArray), .slice none 0 0]) ?_ 1 _ rfl; (with_reducible repeat (first | refine blk_drewN ?_ _ | refine blk_drew ?_ | refine blk_alloc ?_ _)); refine blk_put (cs := #[.string x247000_1, .slice none 0 0]) ?_ 0 _ rfl; (with_reducible repeat (first | refine blk_drewN ?_ _ | refine blk_drew ?_ | refine blk_alloc ?_ _)); exact BK246.out) Tryd.underlying29 rfl (by kernel_rfl)) rfl ?_
         exact ⟨_, by first | rfl | (simp [errW_none, errW_some] <;> rfl) | (simp [*, errW_none, errW_some] <;> rfl), by first | exact Kd.R_nil _ _ _ _ _ | exact Kd.N_nil _ _ _ _ _ | exact Kd.V_nil _ _ _ _ _ | exact Kd.Q_nil _ _ _ _ _ | exact Kd.S_nil _ _ _ _ _, by repeat (first | (with_reducible first | exact HB.out | apply below_alloc | apply pw_below_drewN | apply below_drew1 | refine below_set ?_ GE246.out | refine below_set ?_ GE251.out) | exact HB.out)⟩
       rw [if_pos c108] at H
       have c108b0 : (t256.toList == a0.toList) = true := beq_iff_eq.mpr c108
       have c108b1 : (t256.toList != a0.toList) = false := bne_eq_false_iff_eq.mpr c108
       clear c108
       simp only [Option.some.injEq, Prod.mk.injEq] at H
       obtain ⟨rfl, rfl, rfl⟩ := H
       have hnb109 := NB251_246.out
       have hnc109 := NB246_251.out
       have hcz110_0 : wr.cell? ⟨gb251, 0, none⟩ = some (.string (rdOf ByteArray.empty t247 0)) := (blk_cell BK251.out 0).trans rfl
       have hcz110_1 : wr.cell? ⟨gb251, 1, none⟩ = some (u252001) := (blk_cell BK251.out 1).trans rfl
       have hfz110_0 := blk_frozen BK251.out 0
       have hfz110_1 := blk_frozen BK251.out 1
       obtain ⟨Ao111, co111, eo111⟩ := Kd.R_slice HO_252001.out
       subst eo111
       go_wp2_with (first | (go_at_call 8; (with_reducible refine (impl_RecipeText.calls k1 (rdOf ByteArray.empty t247 0) _ _ x252001_1 l1 t256 _ ?side1 ?side2 ?side3 A107.out).mono ?_); (case side1 => repeat (first | exact (Kd.R_reads' HO_252001.out).2.2 | (with_reducible refine Kd.C_alloc ?_ _) | (with_reducible refine Kd.C_drewN ?_ _) | (with_reducible refine Kd.C_drew ?_))); (case side2 => exact (Kd.R_reads' HO_252001.out).2.1); (case side3 => exact cb_ HR1.out HB.out); rintro e w112 ⟨rfl, hb⟩; have n0_ := mkA (Kd.R_below (by (with_reducible repeat (first | apply Kd.R_alloc | apply Kd.R_drewN | apply Kd.R_drew)); exact HO_4.out) hb); have n1_ := mkA (Kd.R_below (by (with_reducible repeat (first | apply Kd.R_alloc | apply Kd.R_drewN | apply Kd.R_drew)); exact HO_252001.out) hb); have n2_ := mkA (blk_below (g := gb246) (o := .cells #[.string x247000_1, .slice none 0 0] 29 (0, 0)) (bl_ BK246.out) hb); have n3_ := mkA (blk_below (g := gb251) (o := .cells #[.string (rdOf ByteArray.empty t247 0), .slice Ao111 x252001_1.length co111] 29 (0, 0)) (bl_ BK251.out) hb); have n4_ := mkA (below_step (bs2_ HB.out GE246.out GE251.out) hb); clear HO_4; clear HO_252001; clear BK246; clear BK251; clear HB; have HO_4 := n0_; have HO_252001 := n1_; have BK246 := n2_; have BK251 := n3_; have HB := n4_; clear n0_ n1_ n2_ n3_ n4_; (try clear hb); (try clear hb2); (try clear hk); (try clear hi); have hcz113_0 : w112.cell? ⟨gb251, 0, none⟩ = some (.string (rdOf ByteArray.empty t247 0)) := (blk_cell BK251.out 0).trans rfl; have hcz113_1 : w112.cell? ⟨gb251, 1, none⟩ = some (.slice Ao111 x252001_1.length co111) := (blk_cell BK251.out 1).trans rfl; have hfz113_0 := blk_frozen BK251.out 0; have hfz113_1 := blk_frozen BK251.out 1; have hcz114_0 : w112.cell? ⟨gb246, 0, none⟩ = some (.string x247000_1) := (blk_cell BK246.out 0).trans rfl; have hcz114_1 : w112.cell? ⟨gb246, 1, none⟩ = some (.slice none 0 0) := (blk_cell BK246.out 1).trans rfl; have hfz114_0 := blk_frozen BK246.out 0; have hfz114_1 := blk_frozen BK246.out 1))
       refine bodyPost_ret (results_ct rfl _ _ gb246 29 #[.string (rdOf ByteArray.empty t247 0), .slice Ao111 x252001_1.length co111] (0, 0) _ rfl (by (with_reducible repeat (first | refine blk_drewN ?_ _ | refine blk_drew ?_ | refine blk_alloc ?_ _)); refine blk_put (cs := #[.string (rdOf ByteArray.empty t247 0), .slice none 0 0]) ?_ 1 _ rfl; (with_reducible repeat (first | refine blk_drewN ?_ _ | refine blk_drew ?_ | refine blk_alloc ?_ _)); refine blk_put (cs := #[.string x247000_1, .slice none 0 0]) ?_ 0 _ rfl; (with_reducible repeat (first | refine blk_drewN ?_ _ | refine blk_drew ?_ | refine blk_alloc ?_ _)); exact BK246.out) Tryd.underlying29 rfl (by kernel_rfl)) rfl ?_
       exact ⟨_, by first | rfl | (simp [errW_none, errW_some] <;> rfl) | (simp [*, errW_none, errW_some] <;> rfl), by (with_reducible repeat (first | apply Kd.R_alloc | apply Kd.R_drewN | apply Kd.R_drew)); exact Kd.R_mono (Kd.R_far (p := ⟨gb246, 1, none⟩) (Kd.R_far (p := ⟨gb246, 0, none⟩) (Kd.R_types HO_252001.out BK246.out (by decide)) (fun _ hk => hk.2) (.string (rdOf ByteArray.empty t247 0))) (fun _ hk => hk.2) (.slice Ao111 x252001_1.length co111)) (fun _ hk => trivial), by repeat (first | (with_reducible first | exact HB.out | apply below_alloc | apply pw_below_drewN | apply below_drew1 | refine below_set ?_ GE246.out | refine below_set ?_ GE251.out) | exact HB.out)⟩
   rw [if_pos c14] at H
   have c14b0 : decide (x23_1 < (y252.length : Int)) = true := decide_eq_true c14
   clear c14
   by_cases c15 : 0 ≤ x23_1
   rotate_left
   · rw [if_neg c15] at H
     exact absurd H (by simp)
   rw [if_pos c15] at H
   have c15b0 : decide (0 ≤ x23_1) = true := decide_eq_true c15
   clear c15
   by_cases c16 : x23_1 < (y252.length : Int)
   rotate_left
   · rw [if_neg c16] at H
     exact absurd H (by simp)
   rw [if_pos c16] at H
   have c16b0 : decide (x23_1 < (y252.length : Int)) = true := decide_eq_true c16
   clear c16
   replace H := Option.bind_eq_some_iff.mp H
   obtain ⟨⟨t258, t259, t260⟩, A170, H⟩ := H
   replace H : ((impl_ReadList.f k1 t259 l1).bind fun bt261 => (if bt261.2 = true then (if (bt261.1.length : Int) < 1 then (impl_ReadRecipe.j1 k1 a0 t247 t258 bt261.1 y252 (y252.length : Int) x23_1 true l1 (rdOf ByteArray.empty t247 0) x252001_1 3 0 0) else (impl_ReadRecipe.j1 k1 a0 t247 t258 bt261.1 y252 (y252.length : Int) x23_1 (decide ((bt261.1.length : Int) > 2)) l1 (rdOf ByteArray.empty t247 0) x252001_1 3 0 0)) else (impl_ReadRecipe.j1 k1 a0 t247 t258 bt261.1 y252 (y252.length : Int) x23_1 true l1 (rdOf ByteArray.empty t247 0) x252001_1 3 0 0))) = some (r1, r2, r3) := H
   have A17 := mkA A170
   clear A170
   replace H := Option.bind_eq_some_iff.mp H
   obtain ⟨⟨t261, t262⟩, A180, H⟩ := H
   replace H : (if t262 = true then (if (t261.length : Int) < 1 then (impl_ReadRecipe.j1 k1 a0 t247 t258 t261 y252 (y252.length : Int) x23_1 true l1 (rdOf ByteArray.empty t247 0) x252001_1 3 0 0) else (impl_ReadRecipe.j1 k1 a0 t247 t258 t261 y252 (y252.length : Int) x23_1 (decide ((t261.length : Int) > 2)) l1 (rdOf ByteArray.empty t247 0) x252001_1 3 0 0)) else (impl_ReadRecipe.j1 k1 a0 t247 t258 t261 y252 (y252.length : Int) x23_1 true l1 (rdOf ByteArray.empty t247 0) x252001_1 3 0 0)) = some (r1, r2, r3) := H
   have A18 := mkA A180
   clear A180
   have HC19 := mkA H
   clear H
   have p257 : 0 ≤ (x23_1 : Int) := dt_
   have q257 : x23_1 < (y252.length : Int) := dt_
   replace HR255 := mkA (show Kd.C Kd.string wr A13 y252.length y252 from by rw [KA13.out]; have h_ := Kd.C_drop (m := (1 : Int).toNat) (c := co8) ((Kd.R_reads' HO_4.out).2.2) (show (1 : Int).toNat ≤ t247.length from KL13.out) ((Kd.R_reads' HO_4.out).2.1); rw [show (t247).drop (1 : Int).toNat = y252 from Ny252.out.symm] at h_; exact h_)
   obtain ⟨ad257, e257, hx257_0⟩ := Kd.at_string HR255.out x23_1 p257 q257
   cases e257
   replace p257 := eq_true p257
   replace q257 := eq_true q257
   go_upto_region 9 with (first | ((with_reducible refine gate_callee (f := 25) rfl ?_); refine goesL_ (some 29) rfl rfl Tryd.func25 (by kernel_rfl) rfl #[.string (rdOf ByteArray.empty y252 x23_1), .string (⟨#[58]⟩ : ByteArray)] rfl (by (try simp only [List.map_toArray, List.map_cons, List.map_nil]); first | done | rfl | (simp only [List.length_drop, List.length_take]; rfl)) ?_; (with_reducible refine (Go.Proofs.YteijbdngbmciaaaDoorX.strings_Cut.calls (rdOf ByteArray.empty y252 x23_1) (⟨#[58]⟩ : ByteArray) l1 t258 t259 t260 _ ?side1 A17.out).mono ?_); (case side1 => exact cb_ HR1.out HB.out); rintro e w' ⟨rfl, ⟨nd, rfl⟩⟩; refine ⟨_, rfl, ?_⟩; (try (rw [drewN_self wr]; generalize hq_ : World.drewN wr _ = wr; have n0_ : Aside0 (Kd.R k44 44 wr w.heap.size (fun _ => True) u252001 x252001_1) := ⟨by rw [← hq_]; exact (by (with_reducible repeat (first | apply Kd.R_alloc | apply Kd.R_drewN | apply Kd.R_drew)); exact HO_252001.out)⟩; have n1_ : Aside0 (Kd.R Kd.string 9 wr w.heap.size (fun _ => True) (.slice (some ad250) t247.length co8) t247) := ⟨by rw [← hq_]; exact (by (with_reducible repeat (first | apply Kd.R_alloc | apply Kd.R_drewN | apply Kd.R_drew)); exact HO_4.out)⟩; have n2_ : Aside0 (wr.heap[gb246]? = some (.cells #[.string x247000_1, .slice none 0 0] 29 (0, 0))) := ⟨by rw [← hq_]; exact (bl_ BK246.out)⟩; have n3_ : Aside0 (wr.heap[gb251]? = some (.cells #[.string (rdOf ByteArray.empty t247 0), u252001] 29 (0, 0))) := ⟨by rw [← hq_]; exact (bl_ BK251.out)⟩; have n4_ : Aside0 (Below w.heap.size w wr) := ⟨by rw [← hq_]; exact (bs2_ HB.out GE246.out GE251.out)⟩; clear HO_252001 HO_4 BK246 BK251 HB hq_; have HO_252001 := n0_; have HO_4 := n1_; have BK246 := n2_; have BK251 := n3_; have HB := n4_; clear n0_ n1_ n2_ n3_ n4_))) | ((with_reducible refine gate_callee (f := 26) rfl ?_); refine goesL_ (some 35) rfl rfl Tryd.func26 (by kernel_rfl) rfl #[.string t259] rfl (by (try simp only [List.map_toArray, List.map_cons, List.map_nil]); first | done | rfl | (simp only [List.length_drop, List.length_take]; rfl)) ?_; (with_reducible refine (impl_ReadList.calls k1 t259 l1 t261 t262 _ ?side1 A18.out).mono ?_); (case side1 => exact cb_ HR1.out HB.out); rintro e w20 ⟨v263, rfl, ho0, hb⟩; refine ⟨_, rfl, ?_⟩; have n0_ := mkA (Kd.R_below (by (with_reducible repeat (first | apply Kd.R_alloc | apply Kd.R_drewN | apply Kd.R_drew)); exact HO_4.out) hb); have n1_ := mkA (Kd.R_below (by (with_reducible repeat (first | apply Kd.R_alloc | apply Kd.R_drewN | apply Kd.R_drew)); exact HO_252001.out) hb); have n2_ := mkA (Kd.R_lower ho0 (below_size (bs2_ HB.out GE246.out GE251.out))); have n3_ := mkA (blk_below (g := gb246) (o := .cells #[.string x247000_1, .slice none 0 0] 29 (0, 0)) (bl_ BK246.out) hb); have n4_ := mkA (blk_below (g := gb251) (o := .cells #[.string (rdOf ByteArray.empty t247 0), u252001] 29 (0, 0)) (bl_ BK251.out) hb); have n5_ := mkA (below_step (bs2_ HB.out GE246.out GE251.out) hb); clear HO_4; clear HO_252001; clear BK246; clear BK251; clear HB; have HO_4 := n0_; have HO_252001 := n1_; have HO264 := n2_; have BK246 := n3_; have BK251 := n4_; have HB := n5_; clear n0_ n1_ n2_ n3_ n4_ n5_; (try clear hb); (try clear hb2); (try clear hk); (try clear hi); (try clear ho0)) | ((with_reducible refine gate_dst (N := 13) rfl ?_); (try (refine gate_guard (by rfl) ?_; dsimp only)); refine box_event ?hg (N := 13) ?hd (cs := #[.int .i64 0, .int .i64 0, .int .i64 0]) (t := 44) ?hr ?_; (case hd => rfl); (case hg => rfl); (case hr => first | (go_simp; done) | (go_simp; rfl)); intro gb265 hg w21 hbox hb; have n0_ := mkA (Kd.R_below (by (with_reducible repeat (first | apply Kd.R_alloc | apply Kd.R_drewN | apply Kd.R_drew)); exact HO_4.out) hb); have n1_ := mkA (Kd.R_below (Kd.R_elderB (by (with_reducible repeat (first | apply Kd.R_alloc | apply Kd.R_drewN | apply Kd.R_drew)); exact HO_252001.out) gb265 (Nat.le_of_eq hg.symm)) hb); have n2_ := mkA (Kd.R_below (by (with_reducible repeat (first | apply Kd.R_alloc | apply Kd.R_drewN | apply Kd.R_drew)); exact HO264.out) hb); have n3_ := mkA (blk_below (g := gb246) (o := .cells #[.string x247000_1, .slice none 0 0] 29 (0, 0)) (bl_ BK246.out) hb); have n4_ := mkA (blk_below (g := gb251) (o := .cells #[.string (rdOf ByteArray.empty t247 0), u252001] 29 (0, 0)) (bl_ BK251.out) hb); have n5_ := mkA (below_step (bs2_ HB.out GE246.out GE251.out) hb); have n6_ := mkA (hbox); have n7_ := mkA ((by rw [hg]; exact (below_size (bs2_ HB.out GE246.out GE251.out)) : w.heap.size ≤ gb265)); have n8_ := mkA ((by rw [hg]; exact (below_size (bs2_ HB.out GE246.out GE251.out)) : w.heap.size ≤ gb265)); have n9_ := mkA ((by rw [hg]; exact Nat.ne_of_lt (blk_lt (g := gb246) (o := .cells #[.string x247000_1, .slice none 0 0] 29 (0, 0)) (bl_ BK246.out)) : gb246 ≠ gb265)); have n10_ := mkA ((by rw [hg]; exact Nat.ne_of_gt (blk_lt (g := gb246) (o := .cells #[.string x247000_1, .slice none 0 0] 29 (0, 0)) (bl_ BK246.out)) : gb265 ≠ gb246)); have n11_ := mkA ((by rw [hg]; exact Nat.ne_of_lt (blk_lt (g := gb251) (o := .cells #[.string (rdOf ByteArray.empty t247 0), u252001] 29 (0, 0)) (bl_ BK251.out)) : gb251 ≠ gb265)); have n12_ := mkA ((by rw [hg]; exact Nat.ne_of_gt (blk_lt (g := gb251) (o := .cells #[.string (rdOf ByteArray.empty t247 0), u252001] 29 (0, 0)) (bl_ BK251.out)) : gb265 ≠ gb251)); clear HO_4; clear HO_252001; clear HO264; clear BK246; clear BK251; clear HB; have HO_4 := n0_; have HO_252001 := n1_; have HO264 := n2_; have BK246 := n3_; have BK251 := n4_; have HB := n5_; have BK265 := n6_; have GW265 := n7_; have GE265 := n8_; have NB246_265 := n9_; have NB265_246 := n10_; have NB251_265 := n11_; have NB265_251 := n12_; clear n0_ n1_ n2_ n3_ n4_ n5_ n6_ n7_ n8_ n9_ n10_ n11_ n12_; clear hb hbox hg; have hnb22 := NB265_246.out; have hnc22 := NB246_265.out; have hnb23 := NB265_251.out; have hnc23 := NB251_265.out; have hcz24_0 : w21.cell? ⟨gb265, 0, none⟩ = some (.int .i64 0) := (blk_cell BK265.out 0).trans rfl; have hcz24_1 : w21.cell? ⟨gb265, 1, none⟩ = some (.int .i64 0) := (blk_cell BK265.out 1).trans rfl; have hcz24_2 : w21.cell? ⟨gb265, 2, none⟩ = some (.int .i64 0) := (blk_cell BK265.out 2).trans rfl; have hfz24_0 := blk_frozen BK265.out 0; have hfz24_1 := blk_frozen BK265.out 1; have hfz24_2 := blk_frozen BK265.out 2))
   (try simp only [Act.put, sA, sB, sC])
   go_cut [39] (fun v39 wc => ∃ (kq : Nat) (x39_18 : Bool), v39 = .bool x39_18 ∧ Aside0 (impl_ReadRecipe.j1 kq a0 t247 t258 t261 y252 (y252.length : Int) x23_1 x39_18 l1 (rdOf ByteArray.empty t247 0) x252001_1 3 0 0 = some (r1, r2, r3)) ∧ Aside0 (kq ≤ k1) ∧ Aside0 (Kd.R Kd.string 9 wc w.heap.size (fun _ => True) (.slice (some ad250) t247.length co8) t247) ∧ Aside0 (Kd.R (Kd.int .i64) 2 wc w.heap.size (fun _ => True) v263 t261) ∧ Aside0 (Kd.R k44 44 wc w.heap.size (fun k_ => k_ ≠ gb265) u252001 x252001_1) ∧ Aside0 (wc.heap[gb246]? = some (.cells #[.string x247000_1, (.slice none 0 0)] 29 (0, 0))) ∧ Aside0 (wc.heap[gb251]? = some (.cells #[.string (rdOf ByteArray.empty t247 0), u252001] 29 (0, 0))) ∧ Aside0 (wc.heap[gb265]? = some (.cells #[.int .i64 3, .int .i64 0, .int .i64 0] 44 (0, 0))) ∧ Aside0 (Below w.heap.size w wc))
   case first =>
    have H := HC19.out
    clear HC19
    by_cases c25 : t262 = true
    rotate_left
    · replace c25 := Bool.eq_false_iff.mpr c25
      subst c25
      have H1 : (impl_ReadRecipe.j1 k1 a0 t247 t258 t261 y252 (y252.length : Int) x23_1 true l1 (rdOf ByteArray.empty t247 0) x252001_1 3 0 0) = some (r1, r2, r3) := by rw [if_neg (show ¬ (false = true) by decide)] at H; exact H
      clear H
      have H := H1
      clear H1
      have H' := mkA H
      clear H
      go_wp2
      go_meet
      case rel => exact ⟨_, (true), (by first | rfl | (simp; done) | (simp [*]; done) | (simp [i64_w, i32_w]; done)), H', ⟨by have := HK1.out; first | omega | exact Nat.le_refl _⟩, ⟨by (with_reducible repeat (first | apply Kd.R_alloc | apply Kd.R_drewN | apply Kd.R_drew)); exact Kd.R_mono (Kd.R_far (p := ⟨gb265, 2, none⟩) (Kd.R_far (p := ⟨gb265, 1, none⟩) (Kd.R_far (p := ⟨gb265, 0, none⟩) (Kd.R_types HO_4.out BK265.out (by decide)) (fun _ hk => hk.2) (.int .i64 3)) (fun _ hk => hk.2) (.int .i64 0)) (fun _ hk => hk.2) (.int .i64 0)) (fun _ hk => trivial)⟩, ⟨by (with_reducible repeat (first | apply Kd.R_alloc | apply Kd.R_drewN | apply Kd.R_drew)); exact Kd.R_mono (Kd.R_far (p := ⟨gb265, 2, none⟩) (Kd.R_far (p := ⟨gb265, 1, none⟩) (Kd.R_far (p := ⟨gb265, 0, none⟩) (Kd.R_types HO264.out BK265.out (by decide)) (fun _ hk => hk.2) (.int .i64 3)) (fun _ hk => hk.2) (.int .i64 0)) (fun _ hk => hk.2) (.int .i64 0)) (fun _ hk => trivial)⟩, ⟨by (with_reducible repeat (first | apply Kd.R_alloc | apply Kd.R_drewN | apply Kd.R_drew)); exact Kd.R_mono (Kd.R_far (p := ⟨gb265, 2, none⟩) (Kd.R_far (p := ⟨gb265, 1, none⟩) (Kd.R_far (p := ⟨gb265, 0, none⟩) (Kd.R_mono HO_252001.out (fun k_ hk => (⟨hk, hk.2⟩ : _ ∧ k_ ≠ gb265))) (fun _ hk => hk.2) (.int .i64 3)) (fun _ hk => hk.2) (.int .i64 0)) (fun _ hk => hk.2) (.int .i64 0)) (fun _ hk => hk.1.2)⟩, ⟨by (with_reducible repeat (first | refine blk_drewN ?_ _ | refine blk_drew ?_ | refine blk_alloc ?_ _)); refine blk_far ?_ NB246_265.out _; (with_reducible repeat (first | refine blk_drewN ?_ _ | refine blk_drew ?_ | refine blk_alloc ?_ _)); refine blk_far ?_ NB246_265.out _; (with_reducible repeat (first | refine blk_drewN ?_ _ | refine blk_drew ?_ | refine blk_alloc ?_ _)); refine blk_far ?_ NB246_265.out _; (with_reducible repeat (first | refine blk_drewN ?_ _ | refine blk_drew ?_ | refine blk_alloc ?_ _)); exact BK246.out⟩, ⟨by (with_reducible repeat (first | refine blk_drewN ?_ _ | refine blk_drew ?_ | refine blk_alloc ?_ _)); refine blk_far ?_ NB251_265.out _; (with_reducible repeat (first | refine blk_drewN ?_ _ | refine blk_drew ?_ | refine blk_alloc ?_ _)); refine blk_far ?_ NB251_265.out _; (with_reducible repeat (first | refine blk_drewN ?_ _ | refine blk_drew ?_ | refine blk_alloc ?_ _)); refine blk_far ?_ NB251_265.out _; (with_reducible repeat (first | refine blk_drewN ?_ _ | refine blk_drew ?_ | refine blk_alloc ?_ _)); exact BK251.out⟩, ⟨by (with_reducible repeat (first | refine blk_drewN ?_ _ | refine blk_drew ?_ | refine blk_alloc ?_ _)); refine blk_put (cs := #[.int .i64 3, .int .i64 0, .int .i64 0]) ?_ 2 _ rfl; (with_reducible repeat (first | refine blk_drewN ?_ _ | refine blk_drew ?_ | refine blk_alloc ?_ _)); refine blk_put (cs := #[.int .i64 3, .int .i64 0, .int .i64 0]) ?_ 1 _ rfl; (with_reducible repeat (first | refine blk_drewN ?_ _ | refine blk_drew ?_ | refine blk_alloc ?_ _)); refine blk_put (cs := #[.int .i64 0, .int .i64 0, .int .i64 0]) ?_ 0 _ rfl; (with_reducible repeat (first | refine blk_drewN ?_ _ | refine blk_drew ?_ | refine blk_alloc ?_ _)); exact BK265.out⟩, ⟨by repeat (first | (with_reducible first | exact HB.out | apply below_alloc | apply pw_below_drewN | apply below_drew1 | refine below_set ?_ GE246.out | refine below_set ?_ GE251.out | refine below_set ?_ GE265.out) | exact HB.out)⟩⟩
    subst c25
    have H1 : (if (t261.length : Int) < 1 then (impl_ReadRecipe.j1 k1 a0 t247 t258 t261 y252 (y252.length : Int) x23_1 true l1 (rdOf ByteArray.empty t247 0) x252001_1 3 0 0) else (impl_ReadRecipe.j1 k1 a0 t247 t258 t261 y252 (y252.length : Int) x23_1 (decide ((t261.length : Int) > 2)) l1 (rdOf ByteArray.empty t247 0) x252001_1 3 0 0)) = some (r1, r2, r3) := by rw [if_pos rfl] at H; exact H
    clear H
    have H := H1
    clear H1
    by_cases c26 : (t261.length : Int) < 1
    · rw [if_pos c26] at H
      have c26b0 : decide ((t261.length : Int) < 1) = true := decide_eq_true c26
      have c26b1 : decide (t261.length < 1) = true := decide_eq_true (by omega)
      clear c26
      (first | rw [c26b0] | (simp only [i64_w, i32_w]; rw [c26b0]) | skip)
      have H' := mkA H
      clear H
      obtain ⟨Ao27, co27, eo27⟩ := Kd.R_slice HO264.out
      subst eo27
      go_wp2
      go_meet
      case rel => exact ⟨_, (true), (by first | rfl | (simp; done) | (simp [*]; done) | (simp [i64_w, i32_w]; done)), H', ⟨by have := HK1.out; first | omega | exact Nat.le_refl _⟩, ⟨by (with_reducible repeat (first | apply Kd.R_alloc | apply Kd.R_drewN | apply Kd.R_drew)); exact Kd.R_mono (Kd.R_far (p := ⟨gb265, 2, none⟩) (Kd.R_far (p := ⟨gb265, 1, none⟩) (Kd.R_far (p := ⟨gb265, 0, none⟩) (Kd.R_types HO_4.out BK265.out (by decide)) (fun _ hk => hk.2) (.int .i64 3)) (fun _ hk => hk.2) (.int .i64 0)) (fun _ hk => hk.2) (.int .i64 0)) (fun _ hk => trivial)⟩, ⟨by (with_reducible repeat (first | apply Kd.R_alloc | apply Kd.R_drewN | apply Kd.R_drew)); exact Kd.R_mono (Kd.R_far (p := ⟨gb265, 2, none⟩) (Kd.R_far (p := ⟨gb265, 1, none⟩) (Kd.R_far (p := ⟨gb265, 0, none⟩) (Kd.R_types HO264.out BK265.out (by decide)) (fun _ hk => hk.2) (.int .i64 3)) (fun _ hk => hk.2) (.int .i64 0)) (fun _ hk => hk.2) (.int .i64 0)) (fun _ hk => trivial)⟩, ⟨by (with_reducible repeat (first | apply Kd.R_alloc | apply Kd.R_drewN | apply Kd.R_drew)); exact Kd.R_mono (Kd.R_far (p := ⟨gb265, 2, none⟩) (Kd.R_far (p := ⟨gb265, 1, none⟩) (Kd.R_far (p := ⟨gb265, 0, none⟩) (Kd.R_mono HO_252001.out (fun k_ hk => (⟨hk, hk.2⟩ : _ ∧ k_ ≠ gb265))) (fun _ hk => hk.2) (.int .i64 3)) (fun _ hk => hk.2) (.int .i64 0)) (fun _ hk => hk.2) (.int .i64 0)) (fun _ hk => hk.1.2)⟩, ⟨by (with_reducible repeat (first | refine blk_drewN ?_ _ | refine blk_drew ?_ | refine blk_alloc ?_ _)); refine blk_far ?_ NB246_265.out _; (with_reducible repeat (first | refine blk_drewN ?_ _ | refine blk_drew ?_ | refine blk_alloc ?_ _)); refine blk_far ?_ NB246_265.out _; (with_reducible repeat (first | refine blk_drewN ?_ _ | refine blk_drew ?_ | refine blk_alloc ?_ _)); refine blk_far ?_ NB246_265.out _; (with_reducible repeat (first | refine blk_drewN ?_ _ | refine blk_drew ?_ | refine blk_alloc ?_ _)); exact BK246.out⟩, ⟨by (with_reducible repeat (first | refine blk_drewN ?_ _ | refine blk_drew ?_ | refine blk_alloc ?_ _)); refine blk_far ?_ NB251_265.out _; (with_reducible repeat (first | refine blk_drewN ?_ _ | refine blk_drew ?_ | refine blk_alloc ?_ _)); refine blk_far ?_ NB251_265.out _; (with_reducible repeat (first | refine blk_drewN ?_ _ | refine blk_drew ?_ | refine blk_alloc ?_ _)); refine blk_far ?_ NB251_265.out _; (with_reducible repeat (first | refine blk_drewN ?_ _ | refine blk_drew ?_ | refine blk_alloc ?_ _)); exact BK251.out⟩, ⟨by (with_reducible repeat (first | refine blk_drewN ?_ _ | refine blk_drew ?_ | refine blk_alloc ?_ _)); refine blk_put (cs := #[.int .i64 3, .int .i64 0, .int .i64 0]) ?_ 2 _ rfl; (with_reducible repeat (first | refine blk_drewN ?_ _ | refine blk_drew ?_ | refine blk_alloc ?_ _)); refine blk_put (cs := #[.int .i64 3, .int .i64 0, .int .i64 0]) ?_ 1 _ rfl; (with_reducible repeat (first | refine blk_drewN ?_ _ | refine blk_drew ?_ | refine blk_alloc ?_ _)); refine blk_put (cs := #[.int .i64 0, .int .i64 0, .int .i64 0]) ?_ 0 _ rfl; (with_reducible repeat (first | refine blk_drewN ?_ _ | refine blk_drew ?_ | refine blk_alloc ?_ _)); exact BK265.out⟩, ⟨by repeat (first | (with_reducible first | exact HB.out | apply below_alloc | apply pw_below_drewN | apply below_drew1 | refine below_set ?_ GE246.out | refine below_set ?_ GE251.out | refine below_set ?_ GE265.out) | exact HB.out)⟩⟩
    · rw [if_neg c26] at H
      have c26b0 : decide ((t261.length : Int) < 1) = false := decide_eq_false c26
      have c26b1 : decide (t261.length < 1) = false := decide_eq_false (by omega)
      clear c26
      (first | rw [c26b0] | (simp only [i64_w, i32_w]; rw [c26b0]) | skip)
      have H' := mkA H
      clear H
      obtain ⟨Ao28, co28, eo28⟩ := Kd.R_slice HO264.out
      subst eo28
      go_wp2
      go_meet
      case rel => exact ⟨_, (decide ((t261.length : Int) > 2)), (by first | rfl | (simp; done) | (simp [*]; done) | (simp [i64_w, i32_w]; done)), H', ⟨by have := HK1.out; first | omega | exact Nat.le_refl _⟩, ⟨by (with_reducible repeat (first | apply Kd.R_alloc | apply Kd.R_drewN | apply Kd.R_drew)); exact Kd.R_mono (Kd.R_far (p := ⟨gb265, 2, none⟩) (Kd.R_far (p := ⟨gb265, 1, none⟩) (Kd.R_far (p := ⟨gb265, 0, none⟩) (Kd.R_types HO_4.out BK265.out (by decide)) (fun _ hk => hk.2) (.int .i64 3)) (fun _ hk => hk.2) (.int .i64 0)) (fun _ hk => hk.2) (.int .i64 0)) (fun _ hk => trivial)⟩, ⟨by (with_reducible repeat (first | apply Kd.R_alloc | apply Kd.R_drewN | apply Kd.R_drew)); exact Kd.R_mono (Kd.R_far (p := ⟨gb265, 2, none⟩) (Kd.R_far (p := ⟨gb265, 1, none⟩) (Kd.R_far (p := ⟨gb265, 0, none⟩) (Kd.R_types HO264.out BK265.out (by decide)) (fun _ hk => hk.2) (.int .i64 3)) (fun _ hk => hk.2) (.int .i64 0)) (fun _ hk => hk.2) (.int .i64 0)) (fun _ hk => trivial)⟩, ⟨by (with_reducible repeat (first | apply Kd.R_alloc | apply Kd.R_drewN | apply Kd.R_drew)); exact Kd.R_mono (Kd.R_far (p := ⟨gb265, 2, none⟩) (Kd.R_far (p := ⟨gb265, 1, none⟩) (Kd.R_far (p := ⟨gb265, 0, none⟩) (Kd.R_mono HO_252001.out (fun k_ hk => (⟨hk, hk.2⟩ : _ ∧ k_ ≠ gb265))) (fun _ hk => hk.2) (.int .i64 3)) (fun _ hk => hk.2) (.int .i64 0)) (fun _ hk => hk.2) (.int .i64 0)) (fun _ hk => hk.1.2)⟩, ⟨by (with_reducible repeat (first | refine blk_drewN ?_ _ | refine blk_drew ?_ | refine blk_alloc ?_ _)); refine blk_far ?_ NB246_265.out _; (with_reducible repeat (first | refine blk_drewN ?_ _ | refine blk_drew ?_ | refine blk_alloc ?_ _)); refine blk_far ?_ NB246_265.out _; (with_reducible repeat (first | refine blk_drewN ?_ _ | refine blk_drew ?_ | refine blk_alloc ?_ _)); refine blk_far ?_ NB246_265.out _; (with_reducible repeat (first | refine blk_drewN ?_ _ | refine blk_drew ?_ | refine blk_alloc ?_ _)); exact BK246.out⟩, ⟨by (with_reducible repeat (first | refine blk_drewN ?_ _ | refine blk_drew ?_ | refine blk_alloc ?_ _)); refine blk_far ?_ NB251_265.out _; (with_reducible repeat (first | refine blk_drewN ?_ _ | refine blk_drew ?_ | refine blk_alloc ?_ _)); refine blk_far ?_ NB251_265.out _; (with_reducible repeat (first | refine blk_drewN ?_ _ | refine blk_drew ?_ | refine blk_alloc ?_ _)); refine blk_far ?_ NB251_265.out _; (with_reducible repeat (first | refine blk_drewN ?_ _ | refine blk_drew ?_ | refine blk_alloc ?_ _)); exact BK251.out⟩, ⟨by (with_reducible repeat (first | refine blk_drewN ?_ _ | refine blk_drew ?_ | refine blk_alloc ?_ _)); refine blk_put (cs := #[.int .i64 3, .int .i64 0, .int .i64 0]) ?_ 2 _ rfl; (with_reducible repeat (first | refine blk_drewN ?_ _ | refine blk_drew ?_ | refine blk_alloc ?_ _)); refine blk_put (cs := #[.int .i64 3, .int .i64 0, .int .i64 0]) ?_ 1 _ rfl; (with_reducible repeat (first | refine blk_drewN ?_ _ | refine blk_drew ?_ | refine blk_alloc ?_ _)); refine blk_put (cs := #[.int .i64 0, .int .i64 0, .int .i64 0]) ?_ 0 _ rfl; (with_reducible repeat (first | refine blk_drewN ?_ _ | refine blk_drew ?_ | refine blk_alloc ?_ _)); exact BK265.out⟩, ⟨by repeat (first | (with_reducible first | exact HB.out | apply below_alloc | apply pw_below_drewN | apply below_drew1 | refine below_set ?_ GE246.out | refine below_set ?_ GE251.out | refine below_set ?_ GE265.out) | exact HB.out)⟩⟩
   case rest =>
    clear HC19
    try clear c1
    try clear q1
    try clear c2
    try clear p2
    try clear q2
    try clear hx2
    try clear qi2
    try clear c4
    try clear c4b0
    try clear c4b1
    try clear c5
    try clear c5b0
    try clear c5b1
    try clear c10
    try clear c11
    try clear c13
    try clear q13
    try clear c14
    try clear c14b0
    try clear c15
    try clear c15b0
    try clear c16
    try clear c16b0
    try clear c22
    try clear c23
    try clear c24
    try clear c25
    try clear p25
    try clear q25
    try clear hx25
    try clear qi25
    try clear c26
    try clear c26b0
    try clear c26b1
    try clear hcz11_0
    try clear hcz11_1
    try clear hcz24_0
    try clear hcz24_1
    try clear hcz24_2
    try clear hfz11_0
    try clear hfz11_1
    try clear hfz24_0
    try clear hfz24_1
    try clear hfz24_2
    try clear hx250_0
    try clear hx257_0
    try clear p2
    try clear p250
    try clear p257
    try clear q1
    try clear q13
    try clear q2
    try clear q250
    try clear q257
    obtain ⟨kq, x39_18, rfl, HA, HJ18, HO_4, HO_11, HO_252001, BK246, BK251, BK265, HB⟩ := hcut
    cases kq with
    | zero => exact absurd HA.out (by simp [impl_ReadRecipe.j1])
    | succ kj18 =>
     have H := HA.out
     clear HA
     simp only [impl_ReadRecipe.j1] at H
     by_cases c29 : x39_18 = true
     · subst c29
       have H1 : (some ((⟨#[]⟩ : ByteArray), ([] : List (S44)), false)) = some (r1, r2, r3) := by rw [if_pos rfl] at H; exact H
       clear H
       have H := H1
       clear H1
       simp only [Option.some.injEq, Prod.mk.injEq] at H
       obtain ⟨rfl, rfl, rfl⟩ := H
       have hnb30 := NB246_251.out
       have hnc30 := NB251_246.out
       have hnb31 := NB246_265.out
       have hnc31 := NB265_246.out
       have hcz32_0 : wc.cell? ⟨gb246, 0, none⟩ = some (.string x247000_1) := (blk_cell BK246.out 0).trans rfl
       have hcz32_1 : wc.cell? ⟨gb246, 1, none⟩ = some (.slice none 0 0) := (blk_cell BK246.out 1).trans rfl
       have hfz32_0 := blk_frozen BK246.out 0
       have hfz32_1 := blk_frozen BK246.out 1
       go_wp2
       refine bodyPost_ret (results_ct rfl _ _ gb246 29 #[.string (⟨#[]⟩ : ByteArray), .slice none 0 0] (0, 0) _ rfl (by (with_reducible repeat (first | refine blk_drewN ?_ _ | refine blk_drew ?_ | refine blk_alloc ?_ _)); refine blk_put (cs := #[.string (⟨#[]⟩ : ByteArray), .slice none 0 0]) ?_ 1 _ rfl; (with_reducible repeat (first | refine blk_drewN ?_ _ | refine blk_drew ?_ | refine blk_alloc ?_ _)); refine blk_put (cs := #[.string x247000_1, .slice none 0 0]) ?_ 0 _ rfl; (with_reducible repeat (first | refine blk_drewN ?_ _ | refine blk_drew ?_ | refine blk_alloc ?_ _)); exact BK246.out) Tryd.underlying29 rfl (by kernel_rfl)) rfl ?_
       exact ⟨_, by first | rfl | (simp [errW_none, errW_some] <;> rfl) | (simp [*, errW_none, errW_some] <;> rfl), by first | exact Kd.R_nil _ _ _ _ _ | exact Kd.N_nil _ _ _ _ _ | exact Kd.V_nil _ _ _ _ _ | exact Kd.Q_nil _ _ _ _ _ | exact Kd.S_nil _ _ _ _ _, by repeat (first | (with_reducible first | exact HB.out | apply below_alloc | apply pw_below_drewN | apply below_drew1 | refine below_set ?_ GE246.out | refine below_set ?_ GE251.out | refine below_set ?_ GE265.out) | exact HB.out)⟩
     · replace c29 := Bool.eq_false_iff.mpr c29
       subst c29
       have H1 : (if t258.toList = ([115, 97, 110, 100] : List UInt8) then (if 0 < (t261.length : Int) then (if (t261.length : Int) = 2 then (if 1 < (t261.length : Int) then (if x252001_1.length < 5864062014805 then (impl_ReadRecipe.l0 kj18 a0 t247 y252 (y252.length : Int) (wrap64 (x23_1 + 1)) l1 (rdOf ByteArray.empty t247 0) (x252001_1 ++ [(⟨1, rd t261 0, rd t261 1⟩ : S44)])) else (none)) else (none)) else (if x252001_1.length < 5864062014805 then (impl_ReadRecipe.l0 kj18 a0 t247 y252 (y252.length : Int) (wrap64 (x23_1 + 1)) l1 (rdOf ByteArray.empty t247 0) (x252001_1 ++ [(⟨1, rd t261 0, 0⟩ : S44)])) else (none))) else (none)) else (if t258.toList = ([100, 121, 101] : List UInt8) then (if 0 < (t261.length : Int) then (if (t261.length : Int) = 2 then (if 1 < (t261.length : Int) then (if x252001_1.length < 5864062014805 then (impl_ReadRecipe.l0 kj18 a0 t247 y252 (y252.length : Int) (wrap64 (x23_1 + 1)) l1 (rdOf ByteArray.empty t247 0) (x252001_1 ++ [(⟨2, rd t261 0, rd t261 1⟩ : S44)])) else (none)) else (none)) else (if x252001_1.length < 5864062014805 then (impl_ReadRecipe.l0 kj18 a0 t247 y252 (y252.length : Int) (wrap64 (x23_1 + 1)) l1 (rdOf ByteArray.empty t247 0) (x252001_1 ++ [(⟨2, rd t261 0, 0⟩ : S44)])) else (none))) else (none)) else (if 0 < (t261.length : Int) then (if (t261.length : Int) = 2 then (if 1 < (t261.length : Int) then (if x252001_1.length < 5864062014805 then (impl_ReadRecipe.l0 kj18 a0 t247 y252 (y252.length : Int) (wrap64 (x23_1 + 1)) l1 (rdOf ByteArray.empty t247 0) (x252001_1 ++ [(⟨3, rd t261 0, rd t261 1⟩ : S44)])) else (none)) else (none)) else (if x252001_1.length < 5864062014805 then (impl_ReadRecipe.l0 kj18 a0 t247 y252 (y252.length : Int) (wrap64 (x23_1 + 1)) l1 (rdOf ByteArray.empty t247 0) (x252001_1 ++ [(⟨3, rd t261 0, 0⟩ : S44)])) else (none))) else (none)))) = some (r1, r2, r3) := by rw [if_neg (show ¬ (false = true) by decide)] at H; exact H
       clear H
       have H := H1
       clear H1
       by_cases c33 : t258.toList = ([115, 97, 110, 100] : List UInt8)
       · rw [if_pos c33] at H
         have c33b0 : (t258.toList == ([115, 97, 110, 100] : List UInt8)) = true := beq_iff_eq.mpr c33
         have c33b1 : (t258.toList != ([115, 97, 110, 100] : List UInt8)) = false := bne_eq_false_iff_eq.mpr c33
         clear c33
         by_cases c34 : 0 < (t261.length : Int)
         rotate_left
         · rw [if_neg c34] at H
           exact absurd H (by simp)
         rw [if_pos c34] at H
         have c34b0 : decide (0 < (t261.length : Int)) = true := decide_eq_true c34
         have c34b1 : decide (0 < t261.length) = true := decide_eq_true (by omega)
         clear c34
         by_cases c35 : (t261.length : Int) = 2
         rotate_left
         · rw [if_neg c35] at H
           have c35b0 : ((t261.length : Int) == 2) = false := beq_eq_false_iff_ne.mpr c35
           have c35b1 : ((t261.length : Int) != 2) = true := bne_iff_ne.mpr c35
           by_cases c47 : x252001_1.length < 5864062014805
           rotate_left
           · rw [if_neg c47] at H
             exact absurd H (by simp)
           rw [if_pos c47] at H
           have LMc47 := mkA c47
           clear c47
           obtain ⟨y271, hy271⟩ : ∃ y_ : List (S44), y_ = (x252001_1 ++ [(⟨1, rd t261 0, 0⟩ : S44)]) := ⟨_, rfl⟩
           replace H : (impl_ReadRecipe.l0 kj18 a0 t247 y252 (y252.length : Int) (wrap64 (x23_1 + 1)) l1 (rdOf ByteArray.empty t247 0) y271) = some (r1, r2, r3) := by first | (rw [hy271]; with_reducible exact H) | (have H2_ := (Option.bind_some _ _).symm.trans H; rw [hy271]; with_reducible exact H2_) | (have H2_ := (Option.bind_some _ _).symm.trans H; with_reducible exact H2_) | with_reducible exact H | (rw [hy271]; exact H) | exact H
           have Ny271 := mkA hy271
           clear hy271
           have H' := mkA H
           clear H
           have hnb48 := NB265_246.out
           have hnc48 := NB246_265.out
           have hnb49 := NB265_251.out
           have hnc49 := NB251_265.out
           have hcz50_0 : wc.cell? ⟨gb265, 0, none⟩ = some (.int .i64 3) := (blk_cell BK265.out 0).trans rfl
           have hcz50_1 : wc.cell? ⟨gb265, 1, none⟩ = some (.int .i64 0) := (blk_cell BK265.out 1).trans rfl
           have hcz50_2 : wc.cell? ⟨gb265, 2, none⟩ = some (.int .i64 0) := (blk_cell BK265.out 2).trans rfl
           have hfz50_0 := blk_frozen BK265.out 0
           have hfz50_1 := blk_frozen BK265.out 1
           have hfz50_2 := blk_frozen BK265.out 2
           obtain ⟨Ao51, co51, eo51⟩ := Kd.R_slice HO_11.out
           subst eo51
           have p266 : 0 ≤ (0 : Int) := (by omega)
           have q266 : 0 < (t261.length : Int) := dt_
           obtain ⟨ad266, e266, hx266_0⟩ := Kd.at_int (Kd.R_reads' HO_11.out).2.2 0 p266 q266
           cases e266
           have qi266 : (0 < t261.length) = True := eq_true (by omega)
           (try rw [show ((0 : Int)).toNat = 0 from rfl] at hx266_0)
           (try rw [Addr.add_zero'] at hx266_0)
           have hn266_0 : ad266.block ≠ gb265 := Kd.own_blk (Kd.R_ne HO_11.out BK265.out (by decide))
           replace hx266_0 := (cell_far (p := ⟨gb265, 0, none⟩) (by first | (rw [add_block]; exact hn266_0) | (show (Addr.add _ _).block ≠ _; rw [add_block]; exact hn266_0) | exact hn266_0) (.int .i64 1)).trans hx266_0
           clear hn266_0
           replace p266 := eq_true p266
           replace q266 := eq_true q266
           have hnb52 := NB251_246.out
           have hnc52 := NB246_251.out
           have hcz53_0 : wc.cell? ⟨gb251, 0, none⟩ = some (.string (rdOf ByteArray.empty t247 0)) := (blk_cell BK251.out 0).trans rfl
           have hcz53_1 : wc.cell? ⟨gb251, 1, none⟩ = some (u252001) := (blk_cell BK251.out 1).trans rfl
           have hfz53_0 := blk_frozen BK251.out 0
           have hfz53_1 := blk_frozen BK251.out 1
           go_wp2_with (first | ((with_reducible refine gate_builtin (b := .append) (xs := #[.tmp 73, .tmp 75]) rfl ?_); (try (refine gate_guard (by rfl) ?_; dsimp only)); at_builtin; refine Kd.R_append k44 (w0 := w) w.heap.size rfl (.tmp 73) (.tmp 75) 27 44 (.agg #[(.int .i64 0), (.int .i64 0), (.int .i64 0)]) 24 rfl Tryd.underlying27 info44 rfl (by decide) (by omega) u252001 x252001_1 (⟨1, rd t261 0, 0⟩ : S44) [.int .i64 1, .int .i64 (rd t261 0), .int .i64 0] (fun k_ => k_ ≠ gb265) (fun _ => False) rfl (by first | (go_simp; done) | (go_simp; rfl)) ?aP (fun _ hk => hk.elim) ?aF ?aO ?aB ?aS ?aL ?_; (case aP => exact k44_mkM _ _ _ (⟨1, rd t261 0, 0⟩ : S44)); (case aB => exact (bs3_ HB.out GE246.out GE251.out GE265.out)); (case aF => exact (fun k_ hk => Kd.freshB (g := gb265) (o := .cells #[.int .i64 1, .int .i64 (rd t261 0), .int .i64 0] 44 (0, 0)) (by (with_reducible repeat (first | refine blk_drewN ?_ _ | refine blk_drew ?_ | refine blk_alloc ?_ _)); refine blk_put (cs := #[.int .i64 1, .int .i64 0, .int .i64 0]) ?_ 1 _ rfl; (with_reducible repeat (first | refine blk_drewN ?_ _ | refine blk_drew ?_ | refine blk_alloc ?_ _)); refine blk_put (cs := #[.int .i64 3, .int .i64 0, .int .i64 0]) ?_ 0 _ rfl; (with_reducible repeat (first | refine blk_drewN ?_ _ | refine blk_drew ?_ | refine blk_alloc ?_ _)); exact BK265.out) k_ hk)); (case aO => exact (by (with_reducible repeat (first | apply Kd.R_alloc | apply Kd.R_drewN | apply Kd.R_drew)); exact Kd.R_mono (Kd.R_far (p := ⟨gb265, 1, none⟩) (Kd.R_far (p := ⟨gb265, 0, none⟩) (Kd.R_mono HO_252001.out (fun k_ hk => (⟨hk, hk⟩ : _ ∧ k_ ≠ gb265))) (fun _ hk => hk.2) (.int .i64 1)) (fun _ hk => hk.2) (.int .i64 (rd t261 0))) (fun _ hk => hk.1))); (case aS => exact (below_size (bs3_ HB.out GE246.out GE251.out GE265.out))); (case aL => have := LMc47.out; omega); intro v272 w54 ho hb hg hat; rw [← Ny271.out] at ho; have n0_ := mkA (Kd.R_over' (by (with_reducible repeat (first | apply Kd.R_alloc | apply Kd.R_drewN | apply Kd.R_drew)); exact (Kd.R_mono (Kd.R_far (p := ⟨gb265, 1, none⟩) (Kd.R_far (p := ⟨gb265, 0, none⟩) (Kd.R_types HO_4.out BK265.out (by decide)) (fun _ hk => hk.2) (.int .i64 1)) (fun _ hk => hk.2) (.int .i64 (rd t261 0))) (fun _ h_ => h_.1))) (Kd.R_typed (by (with_reducible repeat (first | apply Kd.R_alloc | apply Kd.R_drewN | apply Kd.R_drew)); exact (Kd.R_mono (Kd.R_far (p := ⟨gb265, 1, none⟩) (Kd.R_far (p := ⟨gb265, 0, none⟩) (Kd.R_mono HO_252001.out (fun k_ hk => (⟨hk, hk⟩ : _ ∧ k_ ≠ gb265))) (fun _ hk => hk.2) (.int .i64 1)) (fun _ hk => hk.2) (.int .i64 (rd t261 0))) (fun _ h_ => h_.1)))) (by decide) hg); have n1_ := mkA (Kd.R_over' (by (with_reducible repeat (first | apply Kd.R_alloc | apply Kd.R_drewN | apply Kd.R_drew)); exact (Kd.R_mono (Kd.R_far (p := ⟨gb265, 1, none⟩) (Kd.R_far (p := ⟨gb265, 0, none⟩) (Kd.R_types HO_11.out BK265.out (by decide)) (fun _ hk => hk.2) (.int .i64 1)) (fun _ hk => hk.2) (.int .i64 (rd t261 0))) (fun _ h_ => h_.1))) (Kd.R_typed (by (with_reducible repeat (first | apply Kd.R_alloc | apply Kd.R_drewN | apply Kd.R_drew)); exact (Kd.R_mono (Kd.R_far (p := ⟨gb265, 1, none⟩) (Kd.R_far (p := ⟨gb265, 0, none⟩) (Kd.R_mono HO_252001.out (fun k_ hk => (⟨hk, hk⟩ : _ ∧ k_ ≠ gb265))) (fun _ hk => hk.2) (.int .i64 1)) (fun _ hk => hk.2) (.int .i64 (rd t261 0))) (fun _ h_ => h_.1)))) (by decide) hg); have n2_ := mkA (blk_grown (g := gb246) (o := .cells #[.string x247000_1, .slice none 0 0] 29 (0, 0)) (by (with_reducible repeat (first | refine blk_drewN ?_ _ | refine blk_drew ?_ | refine blk_alloc ?_ _)); refine blk_far ?_ NB246_265.out _; (with_reducible repeat (first | refine blk_drewN ?_ _ | refine blk_drew ?_ | refine blk_alloc ?_ _)); refine blk_far ?_ NB246_265.out _; (with_reducible repeat (first | refine blk_drewN ?_ _ | refine blk_drew ?_ | refine blk_alloc ?_ _)); exact BK246.out) hg (Kd.R_ne HO_252001.out BK246.out (by decide))); have n3_ := mkA (blk_grown (g := gb251) (o := .cells #[.string (rdOf ByteArray.empty t247 0), u252001] 29 (0, 0)) (by (with_reducible repeat (first | refine blk_drewN ?_ _ | refine blk_drew ?_ | refine blk_alloc ?_ _)); refine blk_far ?_ NB251_265.out _; (with_reducible repeat (first | refine blk_drewN ?_ _ | refine blk_drew ?_ | refine blk_alloc ?_ _)); refine blk_far ?_ NB251_265.out _; (with_reducible repeat (first | refine blk_drewN ?_ _ | refine blk_drew ?_ | refine blk_alloc ?_ _)); exact BK251.out) hg (Kd.R_ne HO_252001.out BK251.out (by decide))); have n4_ := mkA (blk_grown (g := gb265) (o := .cells #[.int .i64 1, .int .i64 (rd t261 0), .int .i64 0] 44 (0, 0)) (by (with_reducible repeat (first | refine blk_drewN ?_ _ | refine blk_drew ?_ | refine blk_alloc ?_ _)); refine blk_put (cs := #[.int .i64 1, .int .i64 0, .int .i64 0]) ?_ 1 _ rfl; (with_reducible repeat (first | refine blk_drewN ?_ _ | refine blk_drew ?_ | refine blk_alloc ?_ _)); refine blk_put (cs := #[.int .i64 3, .int .i64 0, .int .i64 0]) ?_ 0 _ rfl; (with_reducible repeat (first | refine blk_drewN ?_ _ | refine blk_drew ?_ | refine blk_alloc ?_ _)); exact BK265.out) hg (Kd.R_away HO_252001.out (fun _ hk => hk))); have n5_ := mkA (hb); have n6_ := mkA (ho); clear HO_4; clear HO_11; clear BK246; clear BK251; clear BK265; clear HB; clear HO_252001; have HO_4 := n0_; have HO_11 := n1_; have BK246 := n2_; have BK251 := n3_; have BK265 := n4_; have HB := n5_; have HO273 := n6_; clear n0_ n1_ n2_ n3_ n4_ n5_ n6_; clear ho hb hg hat; obtain ⟨Ao55, co55, eo55⟩ := Kd.R_slice HO273.out; subst eo55; have hcz56_0 : w54.cell? ⟨gb251, 0, none⟩ = some (.string (rdOf ByteArray.empty t247 0)) := (blk_cell BK251.out 0).trans rfl; have hcz56_1 : w54.cell? ⟨gb251, 1, none⟩ = some (u252001) := (blk_cell BK251.out 1).trans rfl; have hfz56_0 := blk_frozen BK251.out 0; have hfz56_1 := blk_frozen BK251.out 1))
           go_roundg kj18
           case measure => have := HK1.out; have := HJ18.out; omega
           case rel => exact ⟨(wrap64 (x23_1 + 1)), (x247000_1), (y271), (.slice Ao55 y271.length co55), (by first | rfl | (simp; done) | (simp [*]; done) | (simp [i64_w, i32_w]; done)), H', ⟨by have := HK1.out; have := HJ18.out; omega⟩, ⟨by (with_reducible repeat (first | apply Kd.R_alloc | apply Kd.R_drewN | apply Kd.R_drew)); exact Kd.R_mono (Kd.R_far (p := ⟨gb251, 1, none⟩) (Kd.R_types HO_4.out BK251.out (by decide)) (fun _ hk => hk.2) (.slice Ao55 y271.length co55)) (fun _ hk => trivial)⟩, ⟨by (with_reducible repeat (first | apply Kd.R_alloc | apply Kd.R_drewN | apply Kd.R_drew)); exact Kd.R_mono (Kd.R_far (p := ⟨gb251, 1, none⟩) (Kd.R_types HO273.out BK251.out (by decide)) (fun _ hk => hk.2) (.slice Ao55 y271.length co55)) (fun _ hk => trivial)⟩, ⟨by (with_reducible repeat (first | refine blk_drewN ?_ _ | refine blk_drew ?_ | refine blk_alloc ?_ _)); refine blk_far ?_ NB246_251.out _; (with_reducible repeat (first | refine blk_drewN ?_ _ | refine blk_drew ?_ | refine blk_alloc ?_ _)); exact BK246.out⟩, ⟨by (with_reducible repeat (first | refine blk_drewN ?_ _ | refine blk_drew ?_ | refine blk_alloc ?_ _)); refine blk_put (cs := #[.string (rdOf ByteArray.empty t247 0), u252001]) ?_ 1 _ rfl; (with_reducible repeat (first | refine blk_drewN ?_ _ | refine blk_drew ?_ | refine blk_alloc ?_ _)); exact BK251.out⟩, ⟨by repeat (first | (with_reducible first | exact HB.out | apply below_alloc | apply pw_below_drewN | apply below_drew1 | refine below_set ?_ GE246.out | refine below_set ?_ GE251.out | refine below_set ?_ GE265.out) | exact HB.out)⟩⟩
         rw [if_pos c35] at H
         have c35b0 : ((t261.length : Int) == 2) = true := beq_iff_eq.mpr c35
         have c35b1 : ((t261.length : Int) != 2) = false := bne_eq_false_iff_eq.mpr c35
         clear c35
         by_cases c36 : 1 < (t261.length : Int)
         rotate_left
         · rw [if_neg c36] at H
           exact absurd H (by simp)
         rw [if_pos c36] at H
         have c36b0 : decide (1 < (t261.length : Int)) = true := decide_eq_true c36
         have c36b1 : decide (1 < t261.length) = true := decide_eq_true (by omega)
         clear c36
         by_cases c37 : x252001_1.length < 5864062014805
         rotate_left
         · rw [if_neg c37] at H
           exact absurd H (by simp)
         rw [if_pos c37] at H
         have LMc37 := mkA c37
         clear c37
         obtain ⟨y268, hy268⟩ : ∃ y_ : List (S44), y_ = (x252001_1 ++ [(⟨1, rd t261 0, rd t261 1⟩ : S44)]) := ⟨_, rfl⟩
         replace H : (impl_ReadRecipe.l0 kj18 a0 t247 y252 (y252.length : Int) (wrap64 (x23_1 + 1)) l1 (rdOf ByteArray.empty t247 0) y268) = some (r1, r2, r3) := by first | (rw [hy268]; with_reducible exact H) | (have H2_ := (Option.bind_some _ _).symm.trans H; rw [hy268]; with_reducible exact H2_) | (have H2_ := (Option.bind_some _ _).symm.trans H; with_reducible exact H2_) | with_reducible exact H | (rw [hy268]; exact H) | exact H
         have Ny268 := mkA hy268
         clear hy268
         have H' := mkA H
         clear H
         have hnb38 := NB265_246.out
         have hnc38 := NB246_265.out
         have hnb39 := NB265_251.out
         have hnc39 := NB251_265.out
         have hcz40_0 : wc.cell? ⟨gb265, 0, none⟩ = some (.int .i64 3) := (blk_cell BK265.out 0).trans rfl
         have hcz40_1 : wc.cell? ⟨gb265, 1, none⟩ = some (.int .i64 0) := (blk_cell BK265.out 1).trans rfl
         have hcz40_2 : wc.cell? ⟨gb265, 2, none⟩ = some (.int .i64 0) := (blk_cell BK265.out 2).trans rfl
         have hfz40_0 := blk_frozen BK265.out 0
         have hfz40_1 := blk_frozen BK265.out 1
         have hfz40_2 := blk_frozen BK265.out 2
         obtain ⟨Ao41, co41, eo41⟩ := Kd.R_slice HO_11.out
         subst eo41
         have p266 : 0 ≤ (0 : Int) := (by omega)
         have q266 : 0 < (t261.length : Int) := dt_
         obtain ⟨ad266, e266, hx266_0⟩ := Kd.at_int (Kd.R_reads' HO_11.out).2.2 0 p266 q266
         cases e266
         have qi266 : (0 < t261.length) = True := eq_true (by omega)
         (try rw [show ((0 : Int)).toNat = 0 from rfl] at hx266_0)
         (try rw [Addr.add_zero'] at hx266_0)
         have hn266_0 : ad266.block ≠ gb265 := Kd.own_blk (Kd.R_ne HO_11.out BK265.out (by decide))
         replace hx266_0 := (cell_far (p := ⟨gb265, 0, none⟩) (by first | (rw [add_block]; exact hn266_0) | (show (Addr.add _ _).block ≠ _; rw [add_block]; exact hn266_0) | exact hn266_0) (.int .i64 1)).trans hx266_0
         clear hn266_0
         replace p266 := eq_true p266
         replace q266 := eq_true q266
         have p267 : 0 ≤ (1 : Int) := (by omega)
         have q267 : 1 < (t261.length : Int) := dt_
         obtain ⟨ad267, e267, hx267_0⟩ := Kd.at_int (Kd.R_reads' HO_11.out).2.2 1 p267 q267
         obtain rfl : ad266 = ad267 := (by injection e267)
         (try simp only [show (1 : Int).toNat = 1 from rfl, Nat.reduceMul, Nat.reduceEqDiff, Go.Addr.add, ↓reduceIte] at hx267_0)
         have qi267 : (1 < t261.length) = True := eq_true (by omega)
         (try rw [show ((1 : Int)).toNat = 1 from rfl] at hx267_0)
         have hn267_0 : ad266.block ≠ gb265 := Kd.own_blk (Kd.R_ne HO_11.out BK265.out (by decide))
         have hn267_1 : ad266.block ≠ gb265 := Kd.own_blk (Kd.R_ne HO_11.out BK265.out (by decide))
         replace hx267_0 := (cell_far (p := ⟨gb265, 0, none⟩) (by first | (rw [add_block]; exact hn267_0) | (show (Addr.add _ _).block ≠ _; rw [add_block]; exact hn267_0) | exact hn267_0) (.int .i64 1)).trans hx267_0
         replace hx267_0 := (cell_far (p := ⟨gb265, 1, none⟩) (by first | (rw [add_block]; exact hn267_1) | (show (Addr.add _ _).block ≠ _; rw [add_block]; exact hn267_1) | exact hn267_1) (.int .i64 (rd t261 0))).trans hx267_0
         clear hn267_0
         clear hn267_1
         replace p267 := eq_true p267
         replace q267 := eq_true q267
         have hnb42 := NB251_246.out
         have hnc42 := NB246_251.out
         have hcz43_0 : wc.cell? ⟨gb251, 0, none⟩ = some (.string (rdOf ByteArray.empty t247 0)) := (blk_cell BK251.out 0).trans rfl
         have hcz43_1 : wc.cell? ⟨gb251, 1, none⟩ = some (u252001) := (blk_cell BK251.out 1).trans rfl
         have hfz43_0 := blk_frozen BK251.out 0
         have hfz43_1 := blk_frozen BK251.out 1
         go_wp2_with (first | ((with_reducible refine gate_builtin (b := .append) (xs := #[.tmp 73, .tmp 75]) rfl ?_); (try (refine gate_guard (by rfl) ?_; dsimp only)); at_builtin; refine Kd.R_append k44 (w0 := w) w.heap.size rfl (.tmp 73) (.tmp 75) 27 44 (.agg #[(.int .i64 0), (.int .i64 0), (.int .i64 0)]) 24 rfl Tryd.underlying27 info44 rfl (by decide) (by omega) u252001 x252001_1 (⟨1, rd t261 0, rd t261 1⟩ : S44) [.int .i64 1, .int .i64 (rd t261 0), .int .i64 (rd t261 1)] (fun k_ => k_ ≠ gb265) (fun _ => False) rfl (by first | (go_simp; done) | (go_simp; rfl)) ?aP (fun _ hk => hk.elim) ?aF ?aO ?aB ?aS ?aL ?_; (case aP => exact k44_mkM _ _ _ (⟨1, rd t261 0, rd t261 1⟩ : S44)); (case aB => exact (bs3_ HB.out GE246.out GE251.out GE265.out)); (case aF => exact (fun k_ hk => Kd.freshB (g := gb265) (o := .cells #[.int .i64 1, .int .i64 (rd t261 0), .int .i64 (rd t261 1)] 44 (0, 0)) (by (with_reducible repeat (first | refine blk_drewN ?_ _ | refine blk_drew ?_ | refine blk_alloc ?_ _)); refine blk_put (cs := #[.int .i64 1, .int .i64 (rd t261 0), .int .i64 0]) ?_ 2 _ rfl; (with_reducible repeat (first | refine blk_drewN ?_ _ | refine blk_drew ?_ | refine blk_alloc ?_ _)); refine blk_put (cs := #[.int .i64 1, .int .i64 0, .int .i64 0]) ?_ 1 _ rfl; (with_reducible repeat (first | refine blk_drewN ?_ _ | refine blk_drew ?_ | refine blk_alloc ?_ _)); refine blk_put (cs := #[.int .i64 3, .int .i64 0, .int .i64 0]) ?_ 0 _ rfl; (with_reducible repeat (first | refine blk_drewN ?_ _ | refine blk_drew ?_ | refine blk_alloc ?_ _)); exact BK265.out) k_ hk)); (case aO => exact (by (with_reducible repeat (first | apply Kd.R_alloc | apply Kd.R_drewN | apply Kd.R_drew)); exact Kd.R_mono (Kd.R_far (p := ⟨gb265, 2, none⟩) (Kd.R_far (p := ⟨gb265, 1, none⟩) (Kd.R_far (p := ⟨gb265, 0, none⟩) (Kd.R_mono HO_252001.out (fun k_ hk => (⟨hk, hk⟩ : _ ∧ k_ ≠ gb265))) (fun _ hk => hk.2) (.int .i64 1)) (fun _ hk => hk.2) (.int .i64 (rd t261 0))) (fun _ hk => hk.2) (.int .i64 (rd t261 1))) (fun _ hk => hk.1))); (case aS => exact (below_size (bs3_ HB.out GE246.out GE251.out GE265.out))); (case aL => have := LMc37.out; omega); intro v269 w44 ho hb hg hat; rw [← Ny268.out] at ho; have n0_ := mkA (Kd.R_over' (by (with_reducible repeat (first | apply Kd.R_alloc | apply Kd.R_drewN | apply Kd.R_drew)); exact (Kd.R_mono (Kd.R_far (p := ⟨gb265, 2, none⟩) (Kd.R_far (p := ⟨gb265, 1, none⟩) (Kd.R_far (p := ⟨gb265, 0, none⟩) (Kd.R_types HO_4.out BK265.out (by decide)) (fun _ hk => hk.2) (.int .i64 1)) (fun _ hk => hk.2) (.int .i64 (rd t261 0))) (fun _ hk => hk.2) (.int .i64 (rd t261 1))) (fun _ h_ => h_.1))) (Kd.R_typed (by (with_reducible repeat (first | apply Kd.R_alloc | apply Kd.R_drewN | apply Kd.R_drew)); exact (Kd.R_mono (Kd.R_far (p := ⟨gb265, 2, none⟩) (Kd.R_far (p := ⟨gb265, 1, none⟩) (Kd.R_far (p := ⟨gb265, 0, none⟩) (Kd.R_mono HO_252001.out (fun k_ hk => (⟨hk, hk⟩ : _ ∧ k_ ≠ gb265))) (fun _ hk => hk.2) (.int .i64 1)) (fun _ hk => hk.2) (.int .i64 (rd t261 0))) (fun _ hk => hk.2) (.int .i64 (rd t261 1))) (fun _ h_ => h_.1)))) (by decide) hg); have n1_ := mkA (Kd.R_over' (by (with_reducible repeat (first | apply Kd.R_alloc | apply Kd.R_drewN | apply Kd.R_drew)); exact (Kd.R_mono (Kd.R_far (p := ⟨gb265, 2, none⟩) (Kd.R_far (p := ⟨gb265, 1, none⟩) (Kd.R_far (p := ⟨gb265, 0, none⟩) (Kd.R_types HO_11.out BK265.out (by decide)) (fun _ hk => hk.2) (.int .i64 1)) (fun _ hk => hk.2) (.int .i64 (rd t261 0))) (fun _ hk => hk.2) (.int .i64 (rd t261 1))) (fun _ h_ => h_.1))) (Kd.R_typed (by (with_reducible repeat (first | apply Kd.R_alloc | apply Kd.R_drewN | apply Kd.R_drew)); exact (Kd.R_mono (Kd.R_far (p := ⟨gb265, 2, none⟩) (Kd.R_far (p := ⟨gb265, 1, none⟩) (Kd.R_far (p := ⟨gb265, 0, none⟩) (Kd.R_mono HO_252001.out (fun k_ hk => (⟨hk, hk⟩ : _ ∧ k_ ≠ gb265))) (fun _ hk => hk.2) (.int .i64 1)) (fun _ hk => hk.2) (.int .i64 (rd t261 0))) (fun _ hk => hk.2) (.int .i64 (rd t261 1))) (fun _ h_ => h_.1)))) (by decide) hg); have n2_ := mkA (blk_grown (g := gb246) (o := .cells #[.string x247000_1, .slice none 0 0] 29 (0, 0)) (by (with_reducible repeat (first | refine blk_drewN ?_ _ | refine blk_drew ?_ | refine blk_alloc ?_ _)); refine blk_far ?_ NB246_265.out _; (with_reducible repeat (first | refine blk_drewN ?_ _ | refine blk_drew ?_ | refine blk_alloc ?_ _)); refine blk_far ?_ NB246_265.out _; (with_reducible repeat (first | refine blk_drewN ?_ _ | refine blk_drew ?_ | refine blk_alloc ?_ _)); refine blk_far ?_ NB246_265.out _; (with_reducible repeat (first | refine blk_drewN ?_ _ | refine blk_drew ?_ | refine blk_alloc ?_ _)); exact BK246.out) hg (Kd.R_ne HO_252001.out BK246.out (by decide))); have n3_ := mkA (blk_grown (g := gb251) (o := .cells #[.string (rdOf ByteArray.empty t247 0), u252001] 29 (0, 0)) (by (with_reducible repeat (first | refine blk_drewN ?_ _ | refine blk_drew ?_ | refine blk_alloc ?_ _)); refine blk_far ?_ NB251_265.out _; (with_reducible repeat (first | refine blk_drewN ?_ _ | refine blk_drew ?_ | refine blk_alloc ?_ _)); refine blk_far ?_ NB251_265.out _; (with_reducible repeat (first | refine blk_drewN ?_ _ | refine blk_drew ?_ | refine blk_alloc ?_ _)); refine blk_far ?_ NB251_265.out _; (with_reducible repeat (first | refine blk_drewN ?_ _ | refine blk_drew ?_ | refine blk_alloc ?_ _)); exact BK251.out) hg (Kd.R_ne HO_252001.out BK251.out (by decide))); have n4_ := mkA (blk_grown (g := gb265) (o := .cells #[.int .i64 1, .int .i64 (rd t261 0), .int .i64 (rd t261 1)] 44 (0, 0)) (by (with_reducible repeat (first | refine blk_drewN ?_ _ | refine blk_drew ?_ | refine blk_alloc ?_ _)); refine blk_put (cs := #[.int .i64 1, .int .i64 (rd t261 0), .int .i64 0]) ?_ 2 _ rfl; (with_reducible repeat (first | refine blk_drewN ?_ _ | refine blk_drew ?_ | refine blk_alloc ?_ _)); refine blk_put (cs := #[.int .i64 1, .int .i64 0, .int .i64 0]) ?_ 1 _ rfl; (with_reducible repeat (first | refine blk_drewN ?_ _ | refine blk_drew ?_ | refine blk_alloc ?_ _)); refine blk_put (cs := #[.int .i64 3, .int .i64 0, .int .i64 0]) ?_ 0 _ rfl; (with_reducible repeat (first | refine blk_drewN ?_ _ | refine blk_drew ?_ | refine blk_alloc ?_ _)); exact BK265.out) hg (Kd.R_away HO_252001.out (fun _ hk => hk))); have n5_ := mkA (hb); have n6_ := mkA (ho); clear HO_4; clear HO_11; clear BK246; clear BK251; clear BK265; clear HB; clear HO_252001; have HO_4 := n0_; have HO_11 := n1_; have BK246 := n2_; have BK251 := n3_; have BK265 := n4_; have HB := n5_; have HO270 := n6_; clear n0_ n1_ n2_ n3_ n4_ n5_ n6_; clear ho hb hg hat; obtain ⟨Ao45, co45, eo45⟩ := Kd.R_slice HO270.out; subst eo45; have hcz46_0 : w44.cell? ⟨gb251, 0, none⟩ = some (.string (rdOf ByteArray.empty t247 0)) := (blk_cell BK251.out 0).trans rfl; have hcz46_1 : w44.cell? ⟨gb251, 1, none⟩ = some (u252001) := (blk_cell BK251.out 1).trans rfl; have hfz46_0 := blk_frozen BK251.out 0; have hfz46_1 := blk_frozen BK251.out 1))
         go_roundg kj18
         case measure => have := HK1.out; have := HJ18.out; omega
         case rel => exact ⟨(wrap64 (x23_1 + 1)), (x247000_1), (y268), (.slice Ao45 y268.length co45), (by first | rfl | (simp; done) | (simp [*]; done) | (simp [i64_w, i32_w]; done)), H', ⟨by have := HK1.out; have := HJ18.out; omega⟩, ⟨by (with_reducible repeat (first | apply Kd.R_alloc | apply Kd.R_drewN | apply Kd.R_drew)); exact Kd.R_mono (Kd.R_far (p := ⟨gb251, 1, none⟩) (Kd.R_types HO_4.out BK251.out (by decide)) (fun _ hk => hk.2) (.slice Ao45 y268.length co45)) (fun _ hk => trivial)⟩, ⟨by (with_reducible repeat (first | apply Kd.R_alloc | apply Kd.R_drewN | apply Kd.R_drew)); exact Kd.R_mono (Kd.R_far (p := ⟨gb251, 1, none⟩) (Kd.R_types HO270.out BK251.out (by decide)) (fun _ hk => hk.2) (.slice Ao45 y268.length co45)) (fun _ hk => trivial)⟩, ⟨by (with_reducible repeat (first | refine blk_drewN ?_ _ | refine blk_drew ?_ | refine blk_alloc ?_ _)); refine blk_far ?_ NB246_251.out _; (with_reducible repeat (first | refine blk_drewN ?_ _ | refine blk_drew ?_ | refine blk_alloc ?_ _)); exact BK246.out⟩, ⟨by (with_reducible repeat (first | refine blk_drewN ?_ _ | refine blk_drew ?_ | refine blk_alloc ?_ _)); refine blk_put (cs := #[.string (rdOf ByteArray.empty t247 0), u252001]) ?_ 1 _ rfl; (with_reducible repeat (first | refine blk_drewN ?_ _ | refine blk_drew ?_ | refine blk_alloc ?_ _)); exact BK251.out⟩, ⟨by repeat (first | (with_reducible first | exact HB.out | apply below_alloc | apply pw_below_drewN | apply below_drew1 | refine below_set ?_ GE246.out | refine below_set ?_ GE251.out | refine below_set ?_ GE265.out) | exact HB.out)⟩⟩
       · rw [if_neg c33] at H
         have c33b0 : (t258.toList == ([115, 97, 110, 100] : List UInt8)) = false := beq_eq_false_iff_ne.mpr c33
         have c33b1 : (t258.toList != ([115, 97, 110, 100] : List UInt8)) = true := bne_iff_ne.mpr c33
         by_cases c57 : t258.toList = ([100, 121, 101] : List UInt8)
         rotate_left
         · rw [if_neg c57] at H
           have c57b0 : (t258.toList == ([100, 121, 101] : List UInt8)) = false := beq_eq_false_iff_ne.mpr c57
           have c57b1 : (t258.toList != ([100, 121, 101] : List UInt8)) = true := bne_iff_ne.mpr c57
           by_cases c81 : 0 < (t261.length : Int)
           rotate_left
           · rw [if_neg c81] at H
             exact absurd H (by simp)
           rw [if_pos c81] at H
           have c81b0 : decide (0 < (t261.length : Int)) = true := decide_eq_true c81
           have c81b1 : decide (0 < t261.length) = true := decide_eq_true (by omega)
           clear c81
           by_cases c82 : (t261.length : Int) = 2
           rotate_left
           · rw [if_neg c82] at H
             have c82b0 : ((t261.length : Int) == 2) = false := beq_eq_false_iff_ne.mpr c82
             have c82b1 : ((t261.length : Int) != 2) = true := bne_iff_ne.mpr c82
             by_cases c94 : x252001_1.length < 5864062014805
             rotate_left
             · rw [if_neg c94] at H
               exact absurd H (by simp)
             rw [if_pos c94] at H
             have LMc94 := mkA c94
             clear c94
             obtain ⟨y287, hy287⟩ : ∃ y_ : List (S44), y_ = (x252001_1 ++ [(⟨3, rd t261 0, 0⟩ : S44)]) := ⟨_, rfl⟩
             replace H : (impl_ReadRecipe.l0 kj18 a0 t247 y252 (y252.length : Int) (wrap64 (x23_1 + 1)) l1 (rdOf ByteArray.empty t247 0) y287) = some (r1, r2, r3) := by first | (rw [hy287]; with_reducible exact H) | (have H2_ := (Option.bind_some _ _).symm.trans H; rw [hy287]; with_reducible exact H2_) | (have H2_ := (Option.bind_some _ _).symm.trans H; with_reducible exact H2_) | with_reducible exact H | (rw [hy287]; exact H) | exact H
             have Ny287 := mkA hy287
             clear hy287
             have H' := mkA H
             clear H
             obtain ⟨Ao95, co95, eo95⟩ := Kd.R_slice HO_11.out
             subst eo95
             have p282 : 0 ≤ (0 : Int) := (by omega)
             have q282 : 0 < (t261.length : Int) := dt_
             obtain ⟨ad282, e282, hx282_0⟩ := Kd.at_int (Kd.R_reads' HO_11.out).2.2 0 p282 q282
             cases e282
             have qi282 : (0 < t261.length) = True := eq_true (by omega)
             (try rw [show ((0 : Int)).toNat = 0 from rfl] at hx282_0)
             (try rw [Addr.add_zero'] at hx282_0)
             replace p282 := eq_true p282
             replace q282 := eq_true q282
             have hnb96 := NB265_246.out
             have hnc96 := NB246_265.out
             have hnb97 := NB265_251.out
             have hnc97 := NB251_265.out
             have hcz98_0 : wc.cell? ⟨gb265, 0, none⟩ = some (.int .i64 3) := (blk_cell BK265.out 0).trans rfl
             have hcz98_1 : wc.cell? ⟨gb265, 1, none⟩ = some (.int .i64 0) := (blk_cell BK265.out 1).trans rfl
             have hcz98_2 : wc.cell? ⟨gb265, 2, none⟩ = some (.int .i64 0) := (blk_cell BK265.out 2).trans rfl
             have hfz98_0 := blk_frozen BK265.out 0
             have hfz98_1 := blk_frozen BK265.out 1
             have hfz98_2 := blk_frozen BK265.out 2
             have hnb99 := NB251_246.out
             have hnc99 := NB246_251.out
             have hcz100_0 : wc.cell? ⟨gb251, 0, none⟩ = some (.string (rdOf ByteArray.empty t247 0)) := (blk_cell BK251.out 0).trans rfl
             have hcz100_1 : wc.cell? ⟨gb251, 1, none⟩ = some (u252001) := (blk_cell BK251.out 1).trans rfl
             have hfz100_0 := blk_frozen BK251.out 0
             have hfz100_1 := blk_frozen BK251.out 1
             go_wp2_with (first | ((with_reducible refine gate_builtin (b := .append) (xs := #[.tmp 73, .tmp 75]) rfl ?_); (try (refine gate_guard (by rfl) ?_; dsimp only)); at_builtin; refine Kd.R_append k44 (w0 := w) w.heap.size rfl (.tmp 73) (.tmp 75) 27 44 (.agg #[(.int .i64 0), (.int .i64 0), (.int .i64 0)]) 24 rfl Tryd.underlying27 info44 rfl (by decide) (by omega) u252001 x252001_1 (⟨3, rd t261 0, 0⟩ : S44) [.int .i64 3, .int .i64 (rd t261 0), .int .i64 0] (fun k_ => k_ ≠ gb265) (fun _ => False) rfl (by first | (go_simp; done) | (go_simp; rfl)) ?aP (fun _ hk => hk.elim) ?aF ?aO ?aB ?aS ?aL ?_; (case aP => exact k44_mkM _ _ _ (⟨3, rd t261 0, 0⟩ : S44)); (case aB => exact (bs3_ HB.out GE246.out GE251.out GE265.out)); (case aF => exact (fun k_ hk => Kd.freshB (g := gb265) (o := .cells #[.int .i64 3, .int .i64 (rd t261 0), .int .i64 0] 44 (0, 0)) (by (with_reducible repeat (first | refine blk_drewN ?_ _ | refine blk_drew ?_ | refine blk_alloc ?_ _)); refine blk_put (cs := #[.int .i64 3, .int .i64 0, .int .i64 0]) ?_ 1 _ rfl; (with_reducible repeat (first | refine blk_drewN ?_ _ | refine blk_drew ?_ | refine blk_alloc ?_ _)); exact BK265.out) k_ hk)); (case aO => exact (by (with_reducible repeat (first | apply Kd.R_alloc | apply Kd.R_drewN | apply Kd.R_drew)); exact Kd.R_mono (Kd.R_far (p := ⟨gb265, 1, none⟩) (Kd.R_mono HO_252001.out (fun k_ hk => (⟨hk, hk⟩ : _ ∧ k_ ≠ gb265))) (fun _ hk => hk.2) (.int .i64 (rd t261 0))) (fun _ hk => hk.1))); (case aS => exact (below_size (bs3_ HB.out GE246.out GE251.out GE265.out))); (case aL => have := LMc94.out; omega); intro v288 w101 ho hb hg hat; rw [← Ny287.out] at ho; have n0_ := mkA (Kd.R_over' (by (with_reducible repeat (first | apply Kd.R_alloc | apply Kd.R_drewN | apply Kd.R_drew)); exact (Kd.R_mono (Kd.R_far (p := ⟨gb265, 1, none⟩) (Kd.R_types HO_4.out BK265.out (by decide)) (fun _ hk => hk.2) (.int .i64 (rd t261 0))) (fun _ h_ => h_.1))) (Kd.R_typed (by (with_reducible repeat (first | apply Kd.R_alloc | apply Kd.R_drewN | apply Kd.R_drew)); exact (Kd.R_mono (Kd.R_far (p := ⟨gb265, 1, none⟩) (Kd.R_mono HO_252001.out (fun k_ hk => (⟨hk, hk⟩ : _ ∧ k_ ≠ gb265))) (fun _ hk => hk.2) (.int .i64 (rd t261 0))) (fun _ h_ => h_.1)))) (by decide) hg); have n1_ := mkA (Kd.R_over' (by (with_reducible repeat (first | apply Kd.R_alloc | apply Kd.R_drewN | apply Kd.R_drew)); exact (Kd.R_mono (Kd.R_far (p := ⟨gb265, 1, none⟩) (Kd.R_types HO_11.out BK265.out (by decide)) (fun _ hk => hk.2) (.int .i64 (rd t261 0))) (fun _ h_ => h_.1))) (Kd.R_typed (by (with_reducible repeat (first | apply Kd.R_alloc | apply Kd.R_drewN | apply Kd.R_drew)); exact (Kd.R_mono (Kd.R_far (p := ⟨gb265, 1, none⟩) (Kd.R_mono HO_252001.out (fun k_ hk => (⟨hk, hk⟩ : _ ∧ k_ ≠ gb265))) (fun _ hk => hk.2) (.int .i64 (rd t261 0))) (fun _ h_ => h_.1)))) (by decide) hg); have n2_ := mkA (blk_grown (g := gb246) (o := .cells #[.string x247000_1, .slice none 0 0] 29 (0, 0)) (by (with_reducible repeat (first | refine blk_drewN ?_ _ | refine blk_drew ?_ | refine blk_alloc ?_ _)); refine blk_far ?_ NB246_265.out _; (with_reducible repeat (first | refine blk_drewN ?_ _ | refine blk_drew ?_ | refine blk_alloc ?_ _)); exact BK246.out) hg (Kd.R_ne HO_252001.out BK246.out (by decide))); have n3_ := mkA (blk_grown (g := gb251) (o := .cells #[.string (rdOf ByteArray.empty t247 0), u252001] 29 (0, 0)) (by (with_reducible repeat (first | refine blk_drewN ?_ _ | refine blk_drew ?_ | refine blk_alloc ?_ _)); refine blk_far ?_ NB251_265.out _; (with_reducible repeat (first | refine blk_drewN ?_ _ | refine blk_drew ?_ | refine blk_alloc ?_ _)); exact BK251.out) hg (Kd.R_ne HO_252001.out BK251.out (by decide))); have n4_ := mkA (blk_grown (g := gb265) (o := .cells #[.int .i64 3, .int .i64 (rd t261 0), .int .i64 0] 44 (0, 0)) (by (with_reducible repeat (first | refine blk_drewN ?_ _ | refine blk_drew ?_ | refine blk_alloc ?_ _)); refine blk_put (cs := #[.int .i64 3, .int .i64 0, .int .i64 0]) ?_ 1 _ rfl; (with_reducible repeat (first | refine blk_drewN ?_ _ | refine blk_drew ?_ | refine blk_alloc ?_ _)); exact BK265.out) hg (Kd.R_away HO_252001.out (fun _ hk => hk))); have n5_ := mkA (hb); have n6_ := mkA (ho); clear HO_4; clear HO_11; clear BK246; clear BK251; clear BK265; clear HB; clear HO_252001; have HO_4 := n0_; have HO_11 := n1_; have BK246 := n2_; have BK251 := n3_; have BK265 := n4_; have HB := n5_; have HO289 := n6_; clear n0_ n1_ n2_ n3_ n4_ n5_ n6_; clear ho hb hg hat; obtain ⟨Ao102, co102, eo102⟩ := Kd.R_slice HO289.out; subst eo102; have hcz103_0 : w101.cell? ⟨gb251, 0, none⟩ = some (.string (rdOf ByteArray.empty t247 0)) := (blk_cell BK251.out 0).trans rfl; have hcz103_1 : w101.cell? ⟨gb251, 1, none⟩ = some (u252001) := (blk_cell BK251.out 1).trans rfl; have hfz103_0 := blk_frozen BK251.out 0; have hfz103_1 := blk_frozen BK251.out 1))
             go_roundg kj18
             case measure => have := HK1.out; have := HJ18.out; omega
             case rel => exact ⟨(wrap64 (x23_1 + 1)), (x247000_1), (y287), (.slice Ao102 y287.length co102), (by first | rfl | (simp; done) | (simp [*]; done) | (simp [i64_w, i32_w]; done)), H', ⟨by have := HK1.out; have := HJ18.out; omega⟩, ⟨by (with_reducible repeat (first | apply Kd.R_alloc | apply Kd.R_drewN | apply Kd.R_drew)); exact Kd.R_mono (Kd.R_far (p := ⟨gb251, 1, none⟩) (Kd.R_types HO_4.out BK251.out (by decide)) (fun _ hk => hk.2) (.slice Ao102 y287.length co102)) (fun _ hk => trivial)⟩, ⟨by (with_reducible repeat (first | apply Kd.R_alloc | apply Kd.R_drewN | apply Kd.R_drew)); exact Kd.R_mono (Kd.R_far (p := ⟨gb251, 1, none⟩) (Kd.R_types HO289.out BK251.out (by decide)) (fun _ hk => hk.2) (.slice Ao102 y287.length co102)) (fun _ hk => trivial)⟩, ⟨by (with_reducible repeat (first | refine blk_drewN ?_ _ | refine blk_drew ?_ | refine blk_alloc ?_ _)); refine blk_far ?_ NB246_251.out _; (with_reducible repeat (first | refine blk_drewN ?_ _ | refine blk_drew ?_ | refine blk_alloc ?_ _)); exact BK246.out⟩, ⟨by (with_reducible repeat (first | refine blk_drewN ?_ _ | refine blk_drew ?_ | refine blk_alloc ?_ _)); refine blk_put (cs := #[.string (rdOf ByteArray.empty t247 0), u252001]) ?_ 1 _ rfl; (with_reducible repeat (first | refine blk_drewN ?_ _ | refine blk_drew ?_ | refine blk_alloc ?_ _)); exact BK251.out⟩, ⟨by repeat (first | (with_reducible first | exact HB.out | apply below_alloc | apply pw_below_drewN | apply below_drew1 | refine below_set ?_ GE246.out | refine below_set ?_ GE251.out | refine below_set ?_ GE265.out) | exact HB.out)⟩⟩
           rw [if_pos c82] at H
           have c82b0 : ((t261.length : Int) == 2) = true := beq_iff_eq.mpr c82
           have c82b1 : ((t261.length : Int) != 2) = false := bne_eq_false_iff_eq.mpr c82
           clear c82
           by_cases c83 : 1 < (t261.length : Int)
           rotate_left
           · rw [if_neg c83] at H
             exact absurd H (by simp)
           rw [if_pos c83] at H
           have c83b0 : decide (1 < (t261.length : Int)) = true := decide_eq_true c83
           have c83b1 : decide (1 < t261.length) = true := decide_eq_true (by omega)
           clear c83
           by_cases c84 : x252001_1.length < 5864062014805
           rotate_left
           · rw [if_neg c84] at H
             exact absurd H (by simp)
           rw [if_pos c84] at H
           have LMc84 := mkA c84
           clear c84
           obtain ⟨y284, hy284⟩ : ∃ y_ : List (S44), y_ = (x252001_1 ++ [(⟨3, rd t261 0, rd t261 1⟩ : S44)]) := ⟨_, rfl⟩
           replace H : (impl_ReadRecipe.l0 kj18 a0 t247 y252 (y252.length : Int) (wrap64 (x23_1 + 1)) l1 (rdOf ByteArray.empty t247 0) y284) = some (r1, r2, r3) := by first | (rw [hy284]; with_reducible exact H) | (have H2_ := (Option.bind_some _ _).symm.trans H; rw [hy284]; with_reducible exact H2_) | (have H2_ := (Option.bind_some _ _).symm.trans H; with_reducible exact H2_) | with_reducible exact H | (rw [hy284]; exact H) | exact H
           have Ny284 := mkA hy284
           clear hy284
           have H' := mkA H
           clear H
           obtain ⟨Ao85, co85, eo85⟩ := Kd.R_slice HO_11.out
           subst eo85
           have p282 : 0 ≤ (0 : Int) := (by omega)
           have q282 : 0 < (t261.length : Int) := dt_
           obtain ⟨ad282, e282, hx282_0⟩ := Kd.at_int (Kd.R_reads' HO_11.out).2.2 0 p282 q282
           cases e282
           have qi282 : (0 < t261.length) = True := eq_true (by omega)
           (try rw [show ((0 : Int)).toNat = 0 from rfl] at hx282_0)
           (try rw [Addr.add_zero'] at hx282_0)
           replace p282 := eq_true p282
           replace q282 := eq_true q282
           have hnb86 := NB265_246.out
           have hnc86 := NB246_265.out
           have hnb87 := NB265_251.out
           have hnc87 := NB251_265.out
           have hcz88_0 : wc.cell? ⟨gb265, 0, none⟩ = some (.int .i64 3) := (blk_cell BK265.out 0).trans rfl
           have hcz88_1 : wc.cell? ⟨gb265, 1, none⟩ = some (.int .i64 0) := (blk_cell BK265.out 1).trans rfl
           have hcz88_2 : wc.cell? ⟨gb265, 2, none⟩ = some (.int .i64 0) := (blk_cell BK265.out 2).trans rfl
           have hfz88_0 := blk_frozen BK265.out 0
           have hfz88_1 := blk_frozen BK265.out 1
           have hfz88_2 := blk_frozen BK265.out 2
           have p283 : 0 ≤ (1 : Int) := (by omega)
           have q283 : 1 < (t261.length : Int) := dt_
           obtain ⟨ad283, e283, hx283_0⟩ := Kd.at_int (Kd.R_reads' HO_11.out).2.2 1 p283 q283
           obtain rfl : ad282 = ad283 := (by injection e283)
           (try simp only [show (1 : Int).toNat = 1 from rfl, Nat.reduceMul, Nat.reduceEqDiff, Go.Addr.add, ↓reduceIte] at hx283_0)
           have qi283 : (1 < t261.length) = True := eq_true (by omega)
           (try rw [show ((1 : Int)).toNat = 1 from rfl] at hx283_0)
           have hn283_0 : ad282.block ≠ gb265 := Kd.own_blk (Kd.R_ne HO_11.out BK265.out (by decide))
           replace hx283_0 := (cell_far (p := ⟨gb265, 1, none⟩) (by first | (rw [add_block]; exact hn283_0) | (show (Addr.add _ _).block ≠ _; rw [add_block]; exact hn283_0) | exact hn283_0) (.int .i64 (rd t261 0))).trans hx283_0
           clear hn283_0
           replace p283 := eq_true p283
           replace q283 := eq_true q283
           have hnb89 := NB251_246.out
           have hnc89 := NB246_251.out
           have hcz90_0 : wc.cell? ⟨gb251, 0, none⟩ = some (.string (rdOf ByteArray.empty t247 0)) := (blk_cell BK251.out 0).trans rfl
           have hcz90_1 : wc.cell? ⟨gb251, 1, none⟩ = some (u252001) := (blk_cell BK251.out 1).trans rfl
           have hfz90_0 := blk_frozen BK251.out 0
           have hfz90_1 := blk_frozen BK251.out 1
           go_wp2_with (first | ((with_reducible refine gate_builtin (b := .append) (xs := #[.tmp 73, .tmp 75]) rfl ?_); (try (refine gate_guard (by rfl) ?_; dsimp only)); at_builtin; refine Kd.R_append k44 (w0 := w) w.heap.size rfl (.tmp 73) (.tmp 75) 27 44 (.agg #[(.int .i64 0), (.int .i64 0), (.int .i64 0)]) 24 rfl Tryd.underlying27 info44 rfl (by decide) (by omega) u252001 x252001_1 (⟨3, rd t261 0, rd t261 1⟩ : S44) [.int .i64 3, .int .i64 (rd t261 0), .int .i64 (rd t261 1)] (fun k_ => k_ ≠ gb265) (fun _ => False) rfl (by first | (go_simp; done) | (go_simp; rfl)) ?aP (fun _ hk => hk.elim) ?aF ?aO ?aB ?aS ?aL ?_; (case aP => exact k44_mkM _ _ _ (⟨3, rd t261 0, rd t261 1⟩ : S44)); (case aB => exact (bs3_ HB.out GE246.out GE251.out GE265.out)); (case aF => exact (fun k_ hk => Kd.freshB (g := gb265) (o := .cells #[.int .i64 3, .int .i64 (rd t261 0), .int .i64 (rd t261 1)] 44 (0, 0)) (by (with_reducible repeat (first | refine blk_drewN ?_ _ | refine blk_drew ?_ | refine blk_alloc ?_ _)); refine blk_put (cs := #[.int .i64 3, .int .i64 (rd t261 0), .int .i64 0]) ?_ 2 _ rfl; (with_reducible repeat (first | refine blk_drewN ?_ _ | refine blk_drew ?_ | refine blk_alloc ?_ _)); refine blk_put (cs := #[.int .i64 3, .int .i64 0, .int .i64 0]) ?_ 1 _ rfl; (with_reducible repeat (first | refine blk_drewN ?_ _ | refine blk_drew ?_ | refine blk_alloc ?_ _)); exact BK265.out) k_ hk)); (case aO => exact (by (with_reducible repeat (first | apply Kd.R_alloc | apply Kd.R_drewN | apply Kd.R_drew)); exact Kd.R_mono (Kd.R_far (p := ⟨gb265, 2, none⟩) (Kd.R_far (p := ⟨gb265, 1, none⟩) (Kd.R_mono HO_252001.out (fun k_ hk => (⟨hk, hk⟩ : _ ∧ k_ ≠ gb265))) (fun _ hk => hk.2) (.int .i64 (rd t261 0))) (fun _ hk => hk.2) (.int .i64 (rd t261 1))) (fun _ hk => hk.1))); (case aS => exact (below_size (bs3_ HB.out GE246.out GE251.out GE265.out))); (case aL => have := LMc84.out; omega); intro v285 w91 ho hb hg hat; rw [← Ny284.out] at ho; have n0_ := mkA (Kd.R_over' (by (with_reducible repeat (first | apply Kd.R_alloc | apply Kd.R_drewN | apply Kd.R_drew)); exact (Kd.R_mono (Kd.R_far (p := ⟨gb265, 2, none⟩) (Kd.R_far (p := ⟨gb265, 1, none⟩) (Kd.R_types HO_4.out BK265.out (by decide)) (fun _ hk => hk.2) (.int .i64 (rd t261 0))) (fun _ hk => hk.2) (.int .i64 (rd t261 1))) (fun _ h_ => h_.1))) (Kd.R_typed (by (with_reducible repeat (first | apply Kd.R_alloc | apply Kd.R_drewN | apply Kd.R_drew)); exact (Kd.R_mono (Kd.R_far (p := ⟨gb265, 2, none⟩) (Kd.R_far (p := ⟨gb265, 1, none⟩) (Kd.R_mono HO_252001.out (fun k_ hk => (⟨hk, hk⟩ : _ ∧ k_ ≠ gb265))) (fun _ hk => hk.2) (.int .i64 (rd t261 0))) (fun _ hk => hk.2) (.int .i64 (rd t261 1))) (fun _ h_ => h_.1)))) (by decide) hg); have n1_ := mkA (Kd.R_over' (by (with_reducible repeat (first | apply Kd.R_alloc | apply Kd.R_drewN | apply Kd.R_drew)); exact (Kd.R_mono (Kd.R_far (p := ⟨gb265, 2, none⟩) (Kd.R_far (p := ⟨gb265, 1, none⟩) (Kd.R_types HO_11.out BK265.out (by decide)) (fun _ hk => hk.2) (.int .i64 (rd t261 0))) (fun _ hk => hk.2) (.int .i64 (rd t261 1))) (fun _ h_ => h_.1))) (Kd.R_typed (by (with_reducible repeat (first | apply Kd.R_alloc | apply Kd.R_drewN | apply Kd.R_drew)); exact (Kd.R_mono (Kd.R_far (p := ⟨gb265, 2, none⟩) (Kd.R_far (p := ⟨gb265, 1, none⟩) (Kd.R_mono HO_252001.out (fun k_ hk => (⟨hk, hk⟩ : _ ∧ k_ ≠ gb265))) (fun _ hk => hk.2) (.int .i64 (rd t261 0))) (fun _ hk => hk.2) (.int .i64 (rd t261 1))) (fun _ h_ => h_.1)))) (by decide) hg); have n2_ := mkA (blk_grown (g := gb246) (o := .cells #[.string x247000_1, .slice none 0 0] 29 (0, 0)) (by (with_reducible repeat (first | refine blk_drewN ?_ _ | refine blk_drew ?_ | refine blk_alloc ?_ _)); refine blk_far ?_ NB246_265.out _; (with_reducible repeat (first | refine blk_drewN ?_ _ | refine blk_drew ?_ | refine blk_alloc ?_ _)); refine blk_far ?_ NB246_265.out _; (with_reducible repeat (first | refine blk_drewN ?_ _ | refine blk_drew ?_ | refine blk_alloc ?_ _)); exact BK246.out) hg (Kd.R_ne HO_252001.out BK246.out (by decide))); have n3_ := mkA (blk_grown (g := gb251) (o := .cells #[.string (rdOf ByteArray.empty t247 0), u252001] 29 (0, 0)) (by (with_reducible repeat (first | refine blk_drewN ?_ _ | refine blk_drew ?_ | refine blk_alloc ?_ _)); refine blk_far ?_ NB251_265.out _; (with_reducible repeat (first | refine blk_drewN ?_ _ | refine blk_drew ?_ | refine blk_alloc ?_ _)); refine blk_far ?_ NB251_265.out _; (with_reducible repeat (first | refine blk_drewN ?_ _ | refine blk_drew ?_ | refine blk_alloc ?_ _)); exact BK251.out) hg (Kd.R_ne HO_252001.out BK251.out (by decide))); have n4_ := mkA (blk_grown (g := gb265) (o := .cells #[.int .i64 3, .int .i64 (rd t261 0), .int .i64 (rd t261 1)] 44 (0, 0)) (by (with_reducible repeat (first | refine blk_drewN ?_ _ | refine blk_drew ?_ | refine blk_alloc ?_ _)); refine blk_put (cs := #[.int .i64 3, .int .i64 (rd t261 0), .int .i64 0]) ?_ 2 _ rfl; (with_reducible repeat (first | refine blk_drewN ?_ _ | refine blk_drew ?_ | refine blk_alloc ?_ _)); refine blk_put (cs := #[.int .i64 3, .int .i64 0, .int .i64 0]) ?_ 1 _ rfl; (with_reducible repeat (first | refine blk_drewN ?_ _ | refine blk_drew ?_ | refine blk_alloc ?_ _)); exact BK265.out) hg (Kd.R_away HO_252001.out (fun _ hk => hk))); have n5_ := mkA (hb); have n6_ := mkA (ho); clear HO_4; clear HO_11; clear BK246; clear BK251; clear BK265; clear HB; clear HO_252001; have HO_4 := n0_; have HO_11 := n1_; have BK246 := n2_; have BK251 := n3_; have BK265 := n4_; have HB := n5_; have HO286 := n6_; clear n0_ n1_ n2_ n3_ n4_ n5_ n6_; clear ho hb hg hat; obtain ⟨Ao92, co92, eo92⟩ := Kd.R_slice HO286.out; subst eo92; have hcz93_0 : w91.cell? ⟨gb251, 0, none⟩ = some (.string (rdOf ByteArray.empty t247 0)) := (blk_cell BK251.out 0).trans rfl; have hcz93_1 : w91.cell? ⟨gb251, 1, none⟩ = some (u252001) := (blk_cell BK251.out 1).trans rfl; have hfz93_0 := blk_frozen BK251.out 0; have hfz93_1 := blk_frozen BK251.out 1))
           go_roundg kj18
           case measure => have := HK1.out; have := HJ18.out; omega
           case rel => exact ⟨(wrap64 (x23_1 + 1)), (x247000_1), (y284), (.slice Ao92 y284.length co92), (by first | rfl | (simp; done) | (simp [*]; done) | (simp [i64_w, i32_w]; done)), H', ⟨by have := HK1.out; have := HJ18.out; omega⟩, ⟨by (with_reducible repeat (first | apply Kd.R_alloc | apply Kd.R_drewN | apply Kd.R_drew)); exact Kd.R_mono (Kd.R_far (p := ⟨gb251, 1, none⟩) (Kd.R_types HO_4.out BK251.out (by decide)) (fun _ hk => hk.2) (.slice Ao92 y284.length co92)) (fun _ hk => trivial)⟩, ⟨by (with_reducible repeat (first | apply Kd.R_alloc | apply Kd.R_drewN | apply Kd.R_drew)); exact Kd.R_mono (Kd.R_far (p := ⟨gb251, 1, none⟩) (Kd.R_types HO286.out BK251.out (by decide)) (fun _ hk => hk.2) (.slice Ao92 y284.length co92)) (fun _ hk => trivial)⟩, ⟨by (with_reducible repeat (first | refine blk_drewN ?_ _ | refine blk_drew ?_ | refine blk_alloc ?_ _)); refine blk_far ?_ NB246_251.out _; (with_reducible repeat (first | refine blk_drewN ?_ _ | refine blk_drew ?_ | refine blk_alloc ?_ _)); exact BK246.out⟩, ⟨by (with_reducible repeat (first | refine blk_drewN ?_ _ | refine blk_drew ?_ | refine blk_alloc ?_ _)); refine blk_put (cs := #[.string (rdOf ByteArray.empty t247 0), u252001]) ?_ 1 _ rfl; (with_reducible repeat (first | refine blk_drewN ?_ _ | refine blk_drew ?_ | refine blk_alloc ?_ _)); exact BK251.out⟩, ⟨by repeat (first | (with_reducible first | exact HB.out | apply below_alloc | apply pw_below_drewN | apply below_drew1 | refine below_set ?_ GE246.out | refine below_set ?_ GE251.out | refine below_set ?_ GE265.out) | exact HB.out)⟩⟩
         rw [if_pos c57] at H
         have c57b0 : (t258.toList == ([100, 121, 101] : List UInt8)) = true := beq_iff_eq.mpr c57
         have c57b1 : (t258.toList != ([100, 121, 101] : List UInt8)) = false := bne_eq_false_iff_eq.mpr c57
         clear c57
         by_cases c58 : 0 < (t261.length : Int)
         rotate_left
         · rw [if_neg c58] at H
           exact absurd H (by simp)
         rw [if_pos c58] at H
         have c58b0 : decide (0 < (t261.length : Int)) = true := decide_eq_true c58
         have c58b1 : decide (0 < t261.length) = true := decide_eq_true (by omega)
         clear c58
         by_cases c59 : (t261.length : Int) = 2
         rotate_left
         · rw [if_neg c59] at H
           have c59b0 : ((t261.length : Int) == 2) = false := beq_eq_false_iff_ne.mpr c59
           have c59b1 : ((t261.length : Int) != 2) = true := bne_iff_ne.mpr c59
           by_cases c71 : x252001_1.length < 5864062014805
           rotate_left
           · rw [if_neg c71] at H
             exact absurd H (by simp)
           rw [if_pos c71] at H
           have LMc71 := mkA c71
           clear c71
           obtain ⟨y279, hy279⟩ : ∃ y_ : List (S44), y_ = (x252001_1 ++ [(⟨2, rd t261 0, 0⟩ : S44)]) := ⟨_, rfl⟩
           replace H : (impl_ReadRecipe.l0 kj18 a0 t247 y252 (y252.length : Int) (wrap64 (x23_1 + 1)) l1 (rdOf ByteArray.empty t247 0) y279) = some (r1, r2, r3) := by first | (rw [hy279]; with_reducible exact H) | (have H2_ := (Option.bind_some _ _).symm.trans H; rw [hy279]; with_reducible exact H2_) | (have H2_ := (Option.bind_some _ _).symm.trans H; with_reducible exact H2_) | with_reducible exact H | (rw [hy279]; exact H) | exact H
           have Ny279 := mkA hy279
           clear hy279
           have H' := mkA H
           clear H
           have hnb72 := NB265_246.out
           have hnc72 := NB246_265.out
           have hnb73 := NB265_251.out
           have hnc73 := NB251_265.out
           have hcz74_0 : wc.cell? ⟨gb265, 0, none⟩ = some (.int .i64 3) := (blk_cell BK265.out 0).trans rfl
           have hcz74_1 : wc.cell? ⟨gb265, 1, none⟩ = some (.int .i64 0) := (blk_cell BK265.out 1).trans rfl
           have hcz74_2 : wc.cell? ⟨gb265, 2, none⟩ = some (.int .i64 0) := (blk_cell BK265.out 2).trans rfl
           have hfz74_0 := blk_frozen BK265.out 0
           have hfz74_1 := blk_frozen BK265.out 1
           have hfz74_2 := blk_frozen BK265.out 2
           obtain ⟨Ao75, co75, eo75⟩ := Kd.R_slice HO_11.out
           subst eo75
           have p274 : 0 ≤ (0 : Int) := (by omega)
           have q274 : 0 < (t261.length : Int) := dt_
           obtain ⟨ad274, e274, hx274_0⟩ := Kd.at_int (Kd.R_reads' HO_11.out).2.2 0 p274 q274
           cases e274
           have qi274 : (0 < t261.length) = True := eq_true (by omega)
           (try rw [show ((0 : Int)).toNat = 0 from rfl] at hx274_0)
           (try rw [Addr.add_zero'] at hx274_0)
           have hn274_0 : ad274.block ≠ gb265 := Kd.own_blk (Kd.R_ne HO_11.out BK265.out (by decide))
           replace hx274_0 := (cell_far (p := ⟨gb265, 0, none⟩) (by first | (rw [add_block]; exact hn274_0) | (show (Addr.add _ _).block ≠ _; rw [add_block]; exact hn274_0) | exact hn274_0) (.int .i64 2)).trans hx274_0
           clear hn274_0
           replace p274 := eq_true p274
           replace q274 := eq_true q274
           have hnb76 := NB251_246.out
           have hnc76 := NB246_251.out
           have hcz77_0 : wc.cell? ⟨gb251, 0, none⟩ = some (.string (rdOf ByteArray.empty t247 0)) := (blk_cell BK251.out 0).trans rfl
           have hcz77_1 : wc.cell? ⟨gb251, 1, none⟩ = some (u252001) := (blk_cell BK251.out 1).trans rfl
           have hfz77_0 := blk_frozen BK251.out 0
           have hfz77_1 := blk_frozen BK251.out 1
           go_wp2_with (first | ((with_reducible refine gate_builtin (b := .append) (xs := #[.tmp 73, .tmp 75]) rfl ?_); (try (refine gate_guard (by rfl) ?_; dsimp only)); at_builtin; refine Kd.R_append k44 (w0 := w) w.heap.size rfl (.tmp 73) (.tmp 75) 27 44 (.agg #[(.int .i64 0), (.int .i64 0), (.int .i64 0)]) 24 rfl Tryd.underlying27 info44 rfl (by decide) (by omega) u252001 x252001_1 (⟨2, rd t261 0, 0⟩ : S44) [.int .i64 2, .int .i64 (rd t261 0), .int .i64 0] (fun k_ => k_ ≠ gb265) (fun _ => False) rfl (by first | (go_simp; done) | (go_simp; rfl)) ?aP (fun _ hk => hk.elim) ?aF ?aO ?aB ?aS ?aL ?_; (case aP => exact k44_mkM _ _ _ (⟨2, rd t261 0, 0⟩ : S44)); (case aB => exact (bs3_ HB.out GE246.out GE251.out GE265.out)); (case aF => exact (fun k_ hk => Kd.freshB (g := gb265) (o := .cells #[.int .i64 2, .int .i64 (rd t261 0), .int .i64 0] 44 (0, 0)) (by (with_reducible repeat (first | refine blk_drewN ?_ _ | refine blk_drew ?_ | refine blk_alloc ?_ _)); refine blk_put (cs := #[.int .i64 2, .int .i64 0, .int .i64 0]) ?_ 1 _ rfl; (with_reducible repeat (first | refine blk_drewN ?_ _ | refine blk_drew ?_ | refine blk_alloc ?_ _)); refine blk_put (cs := #[.int .i64 3, .int .i64 0, .int .i64 0]) ?_ 0 _ rfl; (with_reducible repeat (first | refine blk_drewN ?_ _ | refine blk_drew ?_ | refine blk_alloc ?_ _)); exact BK265.out) k_ hk)); (case aO => exact (by (with_reducible repeat (first | apply Kd.R_alloc | apply Kd.R_drewN | apply Kd.R_drew)); exact Kd.R_mono (Kd.R_far (p := ⟨gb265, 1, none⟩) (Kd.R_far (p := ⟨gb265, 0, none⟩) (Kd.R_mono HO_252001.out (fun k_ hk => (⟨hk, hk⟩ : _ ∧ k_ ≠ gb265))) (fun _ hk => hk.2) (.int .i64 2)) (fun _ hk => hk.2) (.int .i64 (rd t261 0))) (fun _ hk => hk.1))); (case aS => exact (below_size (bs3_ HB.out GE246.out GE251.out GE265.out))); (case aL => have := LMc71.out; omega); intro v280 w78 ho hb hg hat; rw [← Ny279.out] at ho; have n0_ := mkA (Kd.R_over' (by (with_reducible repeat (first | apply Kd.R_alloc | apply Kd.R_drewN | apply Kd.R_drew)); exact (Kd.R_mono (Kd.R_far (p := ⟨gb265, 1, none⟩) (Kd.R_far (p := ⟨gb265, 0, none⟩) (Kd.R_types HO_4.out BK265.out (by decide)) (fun _ hk => hk.2) (.int .i64 2)) (fun _ hk => hk.2) (.int .i64 (rd t261 0))) (fun _ h_ => h_.1))) (Kd.R_typed (by (with_reducible repeat (first | apply Kd.R_alloc | apply Kd.R_drewN | apply Kd.R_drew)); exact (Kd.R_mono (Kd.R_far (p := ⟨gb265, 1, none⟩) (Kd.R_far (p := ⟨gb265, 0, none⟩) (Kd.R_mono HO_252001.out (fun k_ hk => (⟨hk, hk⟩ : _ ∧ k_ ≠ gb265))) (fun _ hk => hk.2) (.int .i64 2)) (fun _ hk => hk.2) (.int .i64 (rd t261 0))) (fun _ h_ => h_.1)))) (by decide) hg); have n1_ := mkA (Kd.R_over' (by (with_reducible repeat (first | apply Kd.R_alloc | apply Kd.R_drewN | apply Kd.R_drew)); exact (Kd.R_mono (Kd.R_far (p := ⟨gb265, 1, none⟩) (Kd.R_far (p := ⟨gb265, 0, none⟩) (Kd.R_types HO_11.out BK265.out (by decide)) (fun _ hk => hk.2) (.int .i64 2)) (fun _ hk => hk.2) (.int .i64 (rd t261 0))) (fun _ h_ => h_.1))) (Kd.R_typed (by (with_reducible repeat (first | apply Kd.R_alloc | apply Kd.R_drewN | apply Kd.R_drew)); exact (Kd.R_mono (Kd.R_far (p := ⟨gb265, 1, none⟩) (Kd.R_far (p := ⟨gb265, 0, none⟩) (Kd.R_mono HO_252001.out (fun k_ hk => (⟨hk, hk⟩ : _ ∧ k_ ≠ gb265))) (fun _ hk => hk.2) (.int .i64 2)) (fun _ hk => hk.2) (.int .i64 (rd t261 0))) (fun _ h_ => h_.1)))) (by decide) hg); have n2_ := mkA (blk_grown (g := gb246) (o := .cells #[.string x247000_1, .slice none 0 0] 29 (0, 0)) (by (with_reducible repeat (first | refine blk_drewN ?_ _ | refine blk_drew ?_ | refine blk_alloc ?_ _)); refine blk_far ?_ NB246_265.out _; (with_reducible repeat (first | refine blk_drewN ?_ _ | refine blk_drew ?_ | refine blk_alloc ?_ _)); refine blk_far ?_ NB246_265.out _; (with_reducible repeat (first | refine blk_drewN ?_ _ | refine blk_drew ?_ | refine blk_alloc ?_ _)); exact BK246.out) hg (Kd.R_ne HO_252001.out BK246.out (by decide))); have n3_ := mkA (blk_grown (g := gb251) (o := .cells #[.string (rdOf ByteArray.empty t247 0), u252001] 29 (0, 0)) (by (with_reducible repeat (first | refine blk_drewN ?_ _ | refine blk_drew ?_ | refine blk_alloc ?_ _)); refine blk_far ?_ NB251_265.out _; (with_reducible repeat (first | refine blk_drewN ?_ _ | refine blk_drew ?_ | refine blk_alloc ?_ _)); refine blk_far ?_ NB251_265.out _; (with_reducible repeat (first | refine blk_drewN ?_ _ | refine blk_drew ?_ | refine blk_alloc ?_ _)); exact BK251.out) hg (Kd.R_ne HO_252001.out BK251.out (by decide))); have n4_ := mkA (blk_grown (g := gb265) (o := .cells #[.int .i64 2, .int .i64 (rd t261 0), .int .i64 0] 44 (0, 0)) (by (with_reducible repeat (first | refine blk_drewN ?_ _ | refine blk_drew ?_ | refine blk_alloc ?_ _)); refine blk_put (cs := #[.int .i64 2, .int .i64 0, .int .i64 0]) ?_ 1 _ rfl; (with_reducible repeat (first | refine blk_drewN ?_ _ | refine blk_drew ?_ | refine blk_alloc ?_ _)); refine blk_put (cs := #[.int .i64 3, .int .i64 0, .int .i64 0]) ?_ 0 _ rfl; (with_reducible repeat (first | refine blk_drewN ?_ _ | refine blk_drew ?_ | refine blk_alloc ?_ _)); exact BK265.out) hg (Kd.R_away HO_252001.out (fun _ hk => hk))); have n5_ := mkA (hb); have n6_ := mkA (ho); clear HO_4; clear HO_11; clear BK246; clear BK251; clear BK265; clear HB; clear HO_252001; have HO_4 := n0_; have HO_11 := n1_; have BK246 := n2_; have BK251 := n3_; have BK265 := n4_; have HB := n5_; have HO281 := n6_; clear n0_ n1_ n2_ n3_ n4_ n5_ n6_; clear ho hb hg hat; obtain ⟨Ao79, co79, eo79⟩ := Kd.R_slice HO281.out; subst eo79; have hcz80_0 : w78.cell? ⟨gb251, 0, none⟩ = some (.string (rdOf ByteArray.empty t247 0)) := (blk_cell BK251.out 0).trans rfl; have hcz80_1 : w78.cell? ⟨gb251, 1, none⟩ = some (u252001) := (blk_cell BK251.out 1).trans rfl; have hfz80_0 := blk_frozen BK251.out 0; have hfz80_1 := blk_frozen BK251.out 1))
           go_roundg kj18
           case measure => have := HK1.out; have := HJ18.out; omega
           case rel => exact ⟨(wrap64 (x23_1 + 1)), (x247000_1), (y279), (.slice Ao79 y279.length co79), (by first | rfl | (simp; done) | (simp [*]; done) | (simp [i64_w, i32_w]; done)), H', ⟨by have := HK1.out; have := HJ18.out; omega⟩, ⟨by (with_reducible repeat (first | apply Kd.R_alloc | apply Kd.R_drewN | apply Kd.R_drew)); exact Kd.R_mono (Kd.R_far (p := ⟨gb251, 1, none⟩) (Kd.R_types HO_4.out BK251.out (by decide)) (fun _ hk => hk.2) (.slice Ao79 y279.length co79)) (fun _ hk => trivial)⟩, ⟨by (with_reducible repeat (first | apply Kd.R_alloc | apply Kd.R_drewN | apply Kd.R_drew)); exact Kd.R_mono (Kd.R_far (p := ⟨gb251, 1, none⟩) (Kd.R_types HO281.out BK251.out (by decide)) (fun _ hk => hk.2) (.slice Ao79 y279.length co79)) (fun _ hk => trivial)⟩, ⟨by (with_reducible repeat (first | refine blk_drewN ?_ _ | refine blk_drew ?_ | refine blk_alloc ?_ _)); refine blk_far ?_ NB246_251.out _; (with_reducible repeat (first | refine blk_drewN ?_ _ | refine blk_drew ?_ | refine blk_alloc ?_ _)); exact BK246.out⟩, ⟨by (with_reducible repeat (first | refine blk_drewN ?_ _ | refine blk_drew ?_ | refine blk_alloc ?_ _)); refine blk_put (cs := #[.string (rdOf ByteArray.empty t247 0), u252001]) ?_ 1 _ rfl; (with_reducible repeat (first | refine blk_drewN ?_ _ | refine blk_drew ?_ | refine blk_alloc ?_ _)); exact BK251.out⟩, ⟨by repeat (first | (with_reducible first | exact HB.out | apply below_alloc | apply pw_below_drewN | apply below_drew1 | refine below_set ?_ GE246.out | refine below_set ?_ GE251.out | refine below_set ?_ GE265.out) | exact HB.out)⟩⟩
         rw [if_pos c59] at H
         have c59b0 : ((t261.length : Int) == 2) = true := beq_iff_eq.mpr c59
         have c59b1 : ((t261.length : Int) != 2) = false := bne_eq_false_iff_eq.mpr c59
         clear c59
         by_cases c60 : 1 < (t261.length : Int)
         rotate_left
         · rw [if_neg c60] at H
           exact absurd H (by simp)
         rw [if_pos c60] at H
         have c60b0 : decide (1 < (t261.length : Int)) = true := decide_eq_true c60
         have c60b1 : decide (1 < t261.length) = true := decide_eq_true (by omega)
         clear c60
         by_cases c61 : x252001_1.length < 5864062014805
         rotate_left
         · rw [if_neg c61] at H
           exact absurd H (by simp)
         rw [if_pos c61] at H
         have LMc61 := mkA c61
         clear c61
         obtain ⟨y276, hy276⟩ : ∃ y_ : List (S44), y_ = (x252001_1 ++ [(⟨2, rd t261 0, rd t261 1⟩ : S44)]) := ⟨_, rfl⟩
         replace H : (impl_ReadRecipe.l0 kj18 a0 t247 y252 (y252.length : Int) (wrap64 (x23_1 + 1)) l1 (rdOf ByteArray.empty t247 0) y276) = some (r1, r2, r3) := by first | (rw [hy276]; with_reducible exact H) | (have H2_ := (Option.bind_some _ _).symm.trans H; rw [hy276]; with_reducible exact H2_) | (have H2_ := (Option.bind_some _ _).symm.trans H; with_reducible exact H2_) | with_reducible exact H | (rw [hy276]; exact H) | exact H
         have Ny276 := mkA hy276
         clear hy276
         have H' := mkA H
         clear H
         have hnb62 := NB265_246.out
         have hnc62 := NB246_265.out
         have hnb63 := NB265_251.out
         have hnc63 := NB251_265.out
         have hcz64_0 : wc.cell? ⟨gb265, 0, none⟩ = some (.int .i64 3) := (blk_cell BK265.out 0).trans rfl
         have hcz64_1 : wc.cell? ⟨gb265, 1, none⟩ = some (.int .i64 0) := (blk_cell BK265.out 1).trans rfl
         have hcz64_2 : wc.cell? ⟨gb265, 2, none⟩ = some (.int .i64 0) := (blk_cell BK265.out 2).trans rfl
         have hfz64_0 := blk_frozen BK265.out 0
         have hfz64_1 := blk_frozen BK265.out 1
         have hfz64_2 := blk_frozen BK265.out 2
         obtain ⟨Ao65, co65, eo65⟩ := Kd.R_slice HO_11.out
         subst eo65
         have p274 : 0 ≤ (0 : Int) := (by omega)
         have q274 : 0 < (t261.length : Int) := dt_
         obtain ⟨ad274, e274, hx274_0⟩ := Kd.at_int (Kd.R_reads' HO_11.out).2.2 0 p274 q274
         cases e274
         have qi274 : (0 < t261.length) = True := eq_true (by omega)
         (try rw [show ((0 : Int)).toNat = 0 from rfl] at hx274_0)
         (try rw [Addr.add_zero'] at hx274_0)
         have hn274_0 : ad274.block ≠ gb265 := Kd.own_blk (Kd.R_ne HO_11.out BK265.out (by decide))
         replace hx274_0 := (cell_far (p := ⟨gb265, 0, none⟩) (by first | (rw [add_block]; exact hn274_0) | (show (Addr.add _ _).block ≠ _; rw [add_block]; exact hn274_0) | exact hn274_0) (.int .i64 2)).trans hx274_0
         clear hn274_0
         replace p274 := eq_true p274
         replace q274 := eq_true q274
         have p275 : 0 ≤ (1 : Int) := (by omega)
         have q275 : 1 < (t261.length : Int) := dt_
         obtain ⟨ad275, e275, hx275_0⟩ := Kd.at_int (Kd.R_reads' HO_11.out).2.2 1 p275 q275
         obtain rfl : ad274 = ad275 := (by injection e275)
         (try simp only [show (1 : Int).toNat = 1 from rfl, Nat.reduceMul, Nat.reduceEqDiff, Go.Addr.add, ↓reduceIte] at hx275_0)
         have qi275 : (1 < t261.length) = True := eq_true (by omega)
         (try rw [show ((1 : Int)).toNat = 1 from rfl] at hx275_0)
         have hn275_0 : ad274.block ≠ gb265 := Kd.own_blk (Kd.R_ne HO_11.out BK265.out (by decide))
         have hn275_1 : ad274.block ≠ gb265 := Kd.own_blk (Kd.R_ne HO_11.out BK265.out (by decide))
         replace hx275_0 := (cell_far (p := ⟨gb265, 0, none⟩) (by first | (rw [add_block]; exact hn275_0) | (show (Addr.add _ _).block ≠ _; rw [add_block]; exact hn275_0) | exact hn275_0) (.int .i64 2)).trans hx275_0
         replace hx275_0 := (cell_far (p := ⟨gb265, 1, none⟩) (by first | (rw [add_block]; exact hn275_1) | (show (Addr.add _ _).block ≠ _; rw [add_block]; exact hn275_1) | exact hn275_1) (.int .i64 (rd t261 0))).trans hx275_0
         clear hn275_0
         clear hn275_1
         replace p275 := eq_true p275
         replace q275 := eq_true q275
         have hnb66 := NB251_246.out
         have hnc66 := NB246_251.out
         have hcz67_0 : wc.cell? ⟨gb251, 0, none⟩ = some (.string (rdOf ByteArray.empty t247 0)) := (blk_cell BK251.out 0).trans rfl
         have hcz67_1 : wc.cell? ⟨gb251, 1, none⟩ = some (u252001) := (blk_cell BK251.out 1).trans rfl
         have hfz67_0 := blk_frozen BK251.out 0
         have hfz67_1 := blk_frozen BK251.out 1
         go_wp2_with (first | ((with_reducible refine gate_builtin (b := .append) (xs := #[.tmp 73, .tmp 75]) rfl ?_); (try (refine gate_guard (by rfl) ?_; dsimp only)); at_builtin; refine Kd.R_append k44 (w0 := w) w.heap.size rfl (.tmp 73) (.tmp 75) 27 44 (.agg #[(.int .i64 0), (.int .i64 0), (.int .i64 0)]) 24 rfl Tryd.underlying27 info44 rfl (by decide) (by omega) u252001 x252001_1 (⟨2, rd t261 0, rd t261 1⟩ : S44) [.int .i64 2, .int .i64 (rd t261 0), .int .i64 (rd t261 1)] (fun k_ => k_ ≠ gb265) (fun _ => False) rfl (by first | (go_simp; done) | (go_simp; rfl)) ?aP (fun _ hk => hk.elim) ?aF ?aO ?aB ?aS ?aL ?_; (case aP => exact k44_mkM _ _ _ (⟨2, rd t261 0, rd t261 1⟩ : S44)); (case aB => exact (bs3_ HB.out GE246.out GE251.out GE265.out)); (case aF => exact (fun k_ hk => Kd.freshB (g := gb265) (o := .cells #[.int .i64 2, .int .i64 (rd t261 0), .int .i64 (rd t261 1)] 44 (0, 0)) (by (with_reducible repeat (first | refine blk_drewN ?_ _ | refine blk_drew ?_ | refine blk_alloc ?_ _)); refine blk_put (cs := #[.int .i64 2, .int .i64 (rd t261 0), .int .i64 0]) ?_ 2 _ rfl; (with_reducible repeat (first | refine blk_drewN ?_ _ | refine blk_drew ?_ | refine blk_alloc ?_ _)); refine blk_put (cs := #[.int .i64 2, .int .i64 0, .int .i64 0]) ?_ 1 _ rfl; (with_reducible repeat (first | refine blk_drewN ?_ _ | refine blk_drew ?_ | refine blk_alloc ?_ _)); refine blk_put (cs := #[.int .i64 3, .int .i64 0, .int .i64 0]) ?_ 0 _ rfl; (with_reducible repeat (first | refine blk_drewN ?_ _ | refine blk_drew ?_ | refine blk_alloc ?_ _)); exact BK265.out) k_ hk)); (case aO => exact (by (with_reducible repeat (first | apply Kd.R_alloc | apply Kd.R_drewN | apply Kd.R_drew)); exact Kd.R_mono (Kd.R_far (p := ⟨gb265, 2, none⟩) (Kd.R_far (p := ⟨gb265, 1, none⟩) (Kd.R_far (p := ⟨gb265, 0, none⟩) (Kd.R_mono HO_252001.out (fun k_ hk => (⟨hk, hk⟩ : _ ∧ k_ ≠ gb265))) (fun _ hk => hk.2) (.int .i64 2)) (fun _ hk => hk.2) (.int .i64 (rd t261 0))) (fun _ hk => hk.2) (.int .i64 (rd t261 1))) (fun _ hk => hk.1))); (case aS => exact (below_size (bs3_ HB.out GE246.out GE251.out GE265.out))); (case aL => have := LMc61.out; omega); intro v277 w68 ho hb hg hat; rw [← Ny276.out] at ho; have n0_ := mkA (Kd.R_over' (by (with_reducible repeat (first | apply Kd.R_alloc | apply Kd.R_drewN | apply Kd.R_drew)); exact (Kd.R_mono (Kd.R_far (p := ⟨gb265, 2, none⟩) (Kd.R_far (p := ⟨gb265, 1, none⟩) (Kd.R_far (p := ⟨gb265, 0, none⟩) (Kd.R_types HO_4.out BK265.out (by decide)) (fun _ hk => hk.2) (.int .i64 2)) (fun _ hk => hk.2) (.int .i64 (rd t261 0))) (fun _ hk => hk.2) (.int .i64 (rd t261 1))) (fun _ h_ => h_.1))) (Kd.R_typed (by (with_reducible repeat (first | apply Kd.R_alloc | apply Kd.R_drewN | apply Kd.R_drew)); exact (Kd.R_mono (Kd.R_far (p := ⟨gb265, 2, none⟩) (Kd.R_far (p := ⟨gb265, 1, none⟩) (Kd.R_far (p := ⟨gb265, 0, none⟩) (Kd.R_mono HO_252001.out (fun k_ hk => (⟨hk, hk⟩ : _ ∧ k_ ≠ gb265))) (fun _ hk => hk.2) (.int .i64 2)) (fun _ hk => hk.2) (.int .i64 (rd t261 0))) (fun _ hk => hk.2) (.int .i64 (rd t261 1))) (fun _ h_ => h_.1)))) (by decide) hg); have n1_ := mkA (Kd.R_over' (by (with_reducible repeat (first | apply Kd.R_alloc | apply Kd.R_drewN | apply Kd.R_drew)); exact (Kd.R_mono (Kd.R_far (p := ⟨gb265, 2, none⟩) (Kd.R_far (p := ⟨gb265, 1, none⟩) (Kd.R_far (p := ⟨gb265, 0, none⟩) (Kd.R_types HO_11.out BK265.out (by decide)) (fun _ hk => hk.2) (.int .i64 2)) (fun _ hk => hk.2) (.int .i64 (rd t261 0))) (fun _ hk => hk.2) (.int .i64 (rd t261 1))) (fun _ h_ => h_.1))) (Kd.R_typed (by (with_reducible repeat (first | apply Kd.R_alloc | apply Kd.R_drewN | apply Kd.R_drew)); exact (Kd.R_mono (Kd.R_far (p := ⟨gb265, 2, none⟩) (Kd.R_far (p := ⟨gb265, 1, none⟩) (Kd.R_far (p := ⟨gb265, 0, none⟩) (Kd.R_mono HO_252001.out (fun k_ hk => (⟨hk, hk⟩ : _ ∧ k_ ≠ gb265))) (fun _ hk => hk.2) (.int .i64 2)) (fun _ hk => hk.2) (.int .i64 (rd t261 0))) (fun _ hk => hk.2) (.int .i64 (rd t261 1))) (fun _ h_ => h_.1)))) (by decide) hg); have n2_ := mkA (blk_grown (g := gb246) (o := .cells #[.string x247000_1, .slice none 0 0] 29 (0, 0)) (by (with_reducible repeat (first | refine blk_drewN ?_ _ | refine blk_drew ?_ | refine blk_alloc ?_ _)); refine blk_far ?_ NB246_265.out _; (with_reducible repeat (first | refine blk_drewN ?_ _ | refine blk_drew ?_ | refine blk_alloc ?_ _)); refine blk_far ?_ NB246_265.out _; (with_reducible repeat (first | refine blk_drewN ?_ _ | refine blk_drew ?_ | refine blk_alloc ?_ _)); refine blk_far ?_ NB246_265.out _; (with_reducible repeat (first | refine blk_drewN ?_ _ | refine blk_drew ?_ | refine blk_alloc ?_ _)); exact BK246.out) hg (Kd.R_ne HO_252001.out BK246.out (by decide))); have n3_ := mkA (blk_grown (g := gb251) (o := .cells #[.string (rdOf ByteArray.empty t247 0), u252001] 29 (0, 0)) (by (with_reducible repeat (first | refine blk_drewN ?_ _ | refine blk_drew ?_ | refine blk_alloc ?_ _)); refine blk_far ?_ NB251_265.out _; (with_reducible repeat (first | refine blk_drewN ?_ _ | refine blk_drew ?_ | refine blk_alloc ?_ _)); refine blk_far ?_ NB251_265.out _; (with_reducible repeat (first | refine blk_drewN ?_ _ | refine blk_drew ?_ | refine blk_alloc ?_ _)); refine blk_far ?_ NB251_265.out _; (with_reducible repeat (first | refine blk_drewN ?_ _ | refine blk_drew ?_ | refine blk_alloc ?_ _)); exact BK251.out) hg (Kd.R_ne HO_252001.out BK251.out (by decide))); have n4_ := mkA (blk_grown (g := gb265) (o := .cells #[.int .i64 2, .int .i64 (rd t261 0), .int .i64 (rd t261 1)] 44 (0, 0)) (by (with_reducible repeat (first | refine blk_drewN ?_ _ | refine blk_drew ?_ | refine blk_alloc ?_ _)); refine blk_put (cs := #[.int .i64 2, .int .i64 (rd t261 0), .int .i64 0]) ?_ 2 _ rfl; (with_reducible repeat (first | refine blk_drewN ?_ _ | refine blk_drew ?_ | refine blk_alloc ?_ _)); refine blk_put (cs := #[.int .i64 2, .int .i64 0, .int .i64 0]) ?_ 1 _ rfl; (with_reducible repeat (first | refine blk_drewN ?_ _ | refine blk_drew ?_ | refine blk_alloc ?_ _)); refine blk_put (cs := #[.int .i64 3, .int .i64 0, .int .i64 0]) ?_ 0 _ rfl; (with_reducible repeat (first | refine blk_drewN ?_ _ | refine blk_drew ?_ | refine blk_alloc ?_ _)); exact BK265.out) hg (Kd.R_away HO_252001.out (fun _ hk => hk))); have n5_ := mkA (hb); have n6_ := mkA (ho); clear HO_4; clear HO_11; clear BK246; clear BK251; clear BK265; clear HB; clear HO_252001; have HO_4 := n0_; have HO_11 := n1_; have BK246 := n2_; have BK251 := n3_; have BK265 := n4_; have HB := n5_; have HO278 := n6_; clear n0_ n1_ n2_ n3_ n4_ n5_ n6_; clear ho hb hg hat; obtain ⟨Ao69, co69, eo69⟩ := Kd.R_slice HO278.out; subst eo69; have hcz70_0 : w68.cell? ⟨gb251, 0, none⟩ = some (.string (rdOf ByteArray.empty t247 0)) := (blk_cell BK251.out 0).trans rfl; have hcz70_1 : w68.cell? ⟨gb251, 1, none⟩ = some (u252001) := (blk_cell BK251.out 1).trans rfl; have hfz70_0 := blk_frozen BK251.out 0; have hfz70_1 := blk_frozen BK251.out 1))
         go_roundg kj18
         case measure => have := HK1.out; have := HJ18.out; omega
         case rel => exact ⟨(wrap64 (x23_1 + 1)), (x247000_1), (y276), (.slice Ao69 y276.length co69), (by first | rfl | (simp; done) | (simp [*]; done) | (simp [i64_w, i32_w]; done)), H', ⟨by have := HK1.out; have := HJ18.out; omega⟩, ⟨by (with_reducible repeat (first | apply Kd.R_alloc | apply Kd.R_drewN | apply Kd.R_drew)); exact Kd.R_mono (Kd.R_far (p := ⟨gb251, 1, none⟩) (Kd.R_types HO_4.out BK251.out (by decide)) (fun _ hk => hk.2) (.slice Ao69 y276.length co69)) (fun _ hk => trivial)⟩, ⟨by (with_reducible repeat (first | apply Kd.R_alloc | apply Kd.R_drewN | apply Kd.R_drew)); exact Kd.R_mono (Kd.R_far (p := ⟨gb251, 1, none⟩) (Kd.R_types HO278.out BK251.out (by decide)) (fun _ hk => hk.2) (.slice Ao69 y276.length co69)) (fun _ hk => trivial)⟩, ⟨by (with_reducible repeat (first | refine blk_drewN ?_ _ | refine blk_drew ?_ | refine blk_alloc ?_ _)); refine blk_far ?_ NB246_251.out _; (with_reducible repeat (first | refine blk_drewN ?_ _ | refine blk_drew ?_ | refine blk_alloc ?_ _)); exact BK246.out⟩, ⟨by (with_reducible repeat (first | refine blk_drewN ?_ _ | refine blk_drew ?_ | refine blk_alloc ?_ _)); refine blk_put (cs := #[.string (rdOf ByteArray.empty t247 0), u252001]) ?_ 1 _ rfl; (with_reducible repeat (first | refine blk_drewN ?_ _ | refine blk_drew ?_ | refine blk_alloc ?_ _)); exact BK251.out⟩, ⟨by repeat (first | (with_reducible first | exact HB.out | apply below_alloc | apply pw_below_drewN | apply below_drew1 | refine below_set ?_ GE246.out | refine below_set ?_ GE251.out | refine below_set ?_ GE265.out) | exact HB.out)⟩⟩
end Go.Proofs.YteijbdngbmciaaaDoor.GFnExactReadRecipe

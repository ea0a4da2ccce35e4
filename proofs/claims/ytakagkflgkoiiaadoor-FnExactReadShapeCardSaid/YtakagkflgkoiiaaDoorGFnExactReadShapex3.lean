-- Written by the session's own program (gen.py) out of the translation's print. Lean checks it.
import Derived.Test.YtakagkflgkoiiaaDoorGFnExactReadShapex0
import Derived.Test.YtakagkflgkoiiaaDoorGFnExactReadShapex1
import Derived.Test.YtakagkflgkoiiaaDoorGFnExactReadShapex2
namespace Go.Proofs.YtakagkflgkoiiaaDoor.GFnExactReadShape
open Go.RowKit Go.Proofs.YtakagkflgkoiiaaDoorW.PrintWords Go.Proofs.YtakagkflgkoiiaaDoorW.PrintLast Go.Proofs.YtakagkflgkoiiaaDoorW.PrintMore
attribute [local go_sem] max2_int min2_int max_two min_two max_three min_three max_four min_four   -- for this text's walks alone
set_option linter.unusedVariables false
set_option linter.unusedSimpArgs false

/-! ### spec_l19Read: function 9 -/
mutual
def spec_l19Read.l0 : Nat → List ByteArray → Int → Int → Int → List Int → Option (Int × Int × List Int × Bool)
  | 0, _, _, _, _, _ => none
  | k + 1, x4, x6, x127000, x127001, x127002 => if x6 < (x4.length : Int) then (if 0 ≤ x6 then (if 0 < (x4.length : Int) then (if ((rdOf ByteArray.empty x4 x6).size : Int) = ((rdOf ByteArray.empty x4 0).size : Int) then (spec_l19Read.l1 k x4 x6 0 x127000 x127001 x127002) else (some (0, 0, ([] : List Int), false))) else (none)) else (none)) else ((spec_l19Ok.f k [(⟨x127000, x127001, x127002⟩ : S24)]).bind fun t127 => (if t127 = true then (some (x127000, x127001, x127002, true)) else (some (0, 0, ([] : List Int), false))))
def spec_l19Read.l1 : Nat → List ByteArray → Int → Int → Int → Int → List Int → Option (Int × Int × List Int × Bool)
  | 0, _, _, _, _, _, _ => none
  | k + 1, x4, x6, x7, x127000, x127001, x127002 => if 0 ≤ x6 then (if x6 < (x4.length : Int) then (if x7 < ((rdOf ByteArray.empty x4 x6).size : Int) then (if 0 ≤ x7 then (if (bt (rdOf ByteArray.empty x4 x6) x7) = 35 then (if x127002.length < 17592186044416 then (spec_l19Read.l1 k x4 x6 (wrap64 (x7 + 1)) x127000 x127001 (x127002 ++ [1])) else (none)) else (if (bt (rdOf ByteArray.empty x4 x6) x7) = 46 then (if x127002.length < 17592186044416 then (spec_l19Read.l1 k x4 x6 (wrap64 (x7 + 1)) x127000 x127001 (x127002 ++ [0])) else (none)) else (some (0, 0, ([] : List Int), false)))) else (none)) else (spec_l19Read.l0 k x4 (wrap64 (x6 + 1)) x127000 x127001 x127002)) else (none)) else (none)
end
def spec_l19Read.f (k : Nat) (a0 : ByteArray) : Option (Int × Int × List Int × Bool) := (spec_l01Split.f k a0 47).bind fun t122 => (if 0 < (t122.length : Int) then (spec_l19Read.l0 k t122 0 ((rdOf ByteArray.empty t122 0).size : Int) (t122.length : Int) ([] : List Int)) else (none))
theorem spec_l19Read.mono_l : ∀ k, (∀ y0 y1 y2 y3 y4, LeO (spec_l19Read.l0 k y0 y1 y2 y3 y4) (spec_l19Read.l0 (k + 1) y0 y1 y2 y3 y4)) ∧ (∀ y0 y1 y2 y3 y4 y5, LeO (spec_l19Read.l1 k y0 y1 y2 y3 y4 y5) (spec_l19Read.l1 (k + 1) y0 y1 y2 y3 y4 y5))
  | 0 => ⟨fun _ _ _ _ _ r h => by simp [spec_l19Read.l0] at h, fun _ _ _ _ _ _ r h => by simp [spec_l19Read.l1] at h⟩
  | k + 1 => by
    obtain ⟨ih0, ih1⟩ := spec_l19Read.mono_l k
    refine ⟨?_, ?_⟩
    · intro y0 y1 y2 y3 y4
      unfold spec_l19Read.l0
      repeat' first
      | (with_reducible exact ih0 _ _ _ _ _)
      | (with_reducible exact ih1 _ _ _ _ _ _)
      | (with_reducible exact spec_l01Split.mono _ _ _)
      | (with_reducible exact spec_l19Ok.mono _ _)
      | (with_reducible exact LeO.refl _)
      | (with_reducible exact LeO.none _)
      | (with_reducible refine LeO.ite ?_ ?_)
      | (with_reducible refine LeO.bind ?_ (fun _ => ?_))
      | exact ih0 _ _ _ _ _
      | exact ih1 _ _ _ _ _ _
      | exact spec_l01Split.mono _ _ _
      | exact spec_l19Ok.mono _ _
      | exact LeO.none _
      | refine LeO.ite ?_ ?_
      | refine LeO.bind ?_ (fun _ => ?_)
    · intro y0 y1 y2 y3 y4 y5
      unfold spec_l19Read.l1
      repeat' first
      | (with_reducible exact ih0 _ _ _ _ _)
      | (with_reducible exact ih1 _ _ _ _ _ _)
      | (with_reducible exact spec_l01Split.mono _ _ _)
      | (with_reducible exact spec_l19Ok.mono _ _)
      | (with_reducible exact LeO.refl _)
      | (with_reducible exact LeO.none _)
      | (with_reducible refine LeO.ite ?_ ?_)
      | (with_reducible refine LeO.bind ?_ (fun _ => ?_))
      | exact ih0 _ _ _ _ _
      | exact ih1 _ _ _ _ _ _
      | exact spec_l01Split.mono _ _ _
      | exact spec_l19Ok.mono _ _
      | exact LeO.none _
      | refine LeO.ite ?_ ?_
      | refine LeO.bind ?_ (fun _ => ?_)
theorem spec_l19Read.mono : ∀ a0 k, LeO (spec_l19Read.f k a0) (spec_l19Read.f (k + 1) a0) := by
  intro a0 k
  obtain ⟨ih0, ih1⟩ := spec_l19Read.mono_l k
  unfold spec_l19Read.f
  repeat' first
      | (with_reducible exact ih0 _ _ _ _ _)
      | (with_reducible exact ih1 _ _ _ _ _ _)
      | (with_reducible exact spec_l01Split.mono _ _ _)
      | (with_reducible exact spec_l19Ok.mono _ _)
      | (with_reducible exact LeO.refl _)
      | (with_reducible exact LeO.none _)
      | (with_reducible refine LeO.ite ?_ ?_)
      | (with_reducible refine LeO.bind ?_ (fun _ => ?_))
      | exact ih0 _ _ _ _ _
      | exact ih1 _ _ _ _ _ _
      | exact spec_l01Split.mono _ _ _
      | exact spec_l19Ok.mono _ _
      | exact LeO.none _
      | refine LeO.ite ?_ ?_
      | refine LeO.bind ?_ (fun _ => ?_)
open List renaming setIfInBounds_toArray → sA, set_cons_zero → sB, set_cons_succ → sC
open Go.Proofs.YtakagkflgkoiiaaDoorW.PrintWords.Aside0 renaming mk → mkA
open Go.Proofs.YtakagkflgkoiiaaDoorX (dt_ bc_ p0_ p1_ bl_ cb_ bs0_ bs1_ bs2_ bs3_ bs4_ bs5_ bs6_ bs7_ bs8_ bs9_ bs10_ bs11_ bs12_)
set_option maxHeartbeats 8000000 in
set_option maxRecDepth 100000 in
theorem spec_l19Read.calls (k : Nat) (a0 : ByteArray) (r1 : Int) (r2 : Int) (r3 : List Int) (r4 : Bool) (w : World) (h : spec_l19Read.f k a0 = some (r1, r2, r3, r4)) :
 Calls Tryd.prog 9 #[.string a0] w fun e w' => ∃ v2_ : Value, e = .returned (.tuple #[.agg #[.int .i64 r1, .int .i64 r2, v2_], .bool r4]) ∧ Kd.R (Kd.int .i64) 2 w' w.heap.size (fun _ => True) v2_ r3 ∧ Below w.heap.size w w' := by
 have hu24 := Tryd.underlying24
 have HB := mkA (Below.refl w.heap.size w)
 have H : ((spec_l01Split.f k a0 47).bind fun t122 => (if 0 < (t122.length : Int) then (spec_l19Read.l0 k t122 0 ((rdOf ByteArray.empty t122 0).size : Int) (t122.length : Int) ([] : List Int)) else (none))) = some (r1, r2, r3, r4) := h
 clear h
 replace H := Option.bind_eq_some_iff.mp H
 obtain ⟨t122, A20, H⟩ := H
 replace H : (if 0 < (t122.length : Int) then (spec_l19Read.l0 k t122 0 ((rdOf ByteArray.empty t122 0).size : Int) (t122.length : Int) ([] : List Int)) else (none)) = some (r1, r2, r3, r4) := H
 have A2 := mkA A20
 clear A20
 by_cases c3 : 0 < (t122.length : Int)
 rotate_left
 · rw [if_neg c3] at H
   exact absurd H (by simp)

 rw [if_pos c3] at H
 have c3b0 : decide (0 < (t122.length : Int)) = true := decide_eq_true c3
 have c3b1 : decide (0 < t122.length) = true := decide_eq_true (by omega)
 clear c3
 have H' := mkA H
 clear H
 go_enter Tryd.func9, Tryd.ntmps9
 have gt_ := trivial; repeat (clear gt_; try go_wp2_with (first | ((with_reducible refine gate_dst (N := 2) rfl ?_); refine box_event ?hg (N := 2) ?hd (cs := #[.int .i64 0, .int .i64 0, .slice none 0 0]) (t := 24) ?hr ?_; (case hd => rfl); (case hg => rfl); (case hr => first | (go_simp; done) | (go_simp; rfl)); intro gb121 hg w4 hbox hb; have n0_ := mkA (below_step (bs0_ HB.out) hb); have n1_ := mkA (hbox); have n2_ := mkA ((by rw [hg]; exact (below_size (bs0_ HB.out)) : w.heap.size ≤ gb121)); have n3_ := mkA ((by rw [hg]; exact (below_size (bs0_ HB.out)) : w.heap.size ≤ gb121)); clear HB; have HB := n0_; have BK121 := n1_; have GW121 := n2_; have GE121 := n3_; clear n0_ n1_ n2_ n3_; clear hb hbox hg) | (go_at_call 15; (with_reducible refine (spec_l01Split.calls k a0 47 t122 _ A2.out).mono ?_); rintro e w5 ⟨v123, rfl, ho0, hb⟩; have n0_ := mkA (Kd.R_lower ho0 (below_size (bs1_ HB.out GE121.out))); have n1_ := mkA (blk_below (g := gb121) (o := .cells #[.int .i64 0, .int .i64 0, .slice none 0 0] 24 (0, 0)) (bl_ BK121.out) hb); have n2_ := mkA (below_step (bs1_ HB.out GE121.out) hb); clear BK121; clear HB; have HO124 := n0_; have BK121 := n1_; have HB := n2_; clear n0_ n1_ n2_; (try clear hb); (try clear hb2); (try clear hk); (try clear hi); (try clear ho0); obtain ⟨Ao6, co6, eo6⟩ := Kd.R_slice HO124.out; subst eo6; have p125 : 0 ≤ (0 : Int) := (by omega); have q125 : 0 < (t122.length : Int) := dt_; obtain ⟨ad125, e125, hx125_0⟩ := Kd.at_string (Kd.R_reads' HO124.out).2.2 0 p125 q125; cases e125; have qi125 : (0 < t122.length) = True := eq_true (by omega); (try rw [show ((0 : Int)).toNat = 0 from rfl] at hx125_0); (try rw [Addr.add_zero'] at hx125_0); replace p125 := eq_true p125; replace q125 := eq_true q125) | ((with_reducible refine gate_dst (N := 5) rfl ?_); refine box_event ?hg (N := 5) ?hd (cs := #[.int .i64 0, .int .i64 0, .slice none 0 0]) (t := 24) ?hr ?_; (case hd => rfl); (case hg => rfl); (case hr => first | (go_simp; done) | (go_simp; rfl)); intro gb126 hg w7 hbox hb; have n0_ := mkA (Kd.R_below (by (with_reducible repeat (first | apply Kd.R_alloc | apply Kd.R_drewN | apply Kd.R_drew)); exact HO124.out) hb); have n1_ := mkA (blk_below (g := gb121) (o := .cells #[.int .i64 0, .int .i64 0, .slice none 0 0] 24 (0, 0)) (bl_ BK121.out) hb); have n2_ := mkA (below_step (bs1_ HB.out GE121.out) hb); have n3_ := mkA (hbox); have n4_ := mkA ((by rw [hg]; exact (below_size (bs1_ HB.out GE121.out)) : w.heap.size ≤ gb126)); have n5_ := mkA ((by rw [hg]; exact (below_size (bs1_ HB.out GE121.out)) : w.heap.size ≤ gb126)); have n6_ := mkA ((by rw [hg]; exact Nat.ne_of_lt (blk_lt (g := gb121) (o := .cells #[.int .i64 0, .int .i64 0, .slice none 0 0] 24 (0, 0)) (bl_ BK121.out)) : gb121 ≠ gb126)); have n7_ := mkA ((by rw [hg]; exact Nat.ne_of_gt (blk_lt (g := gb121) (o := .cells #[.int .i64 0, .int .i64 0, .slice none 0 0] 24 (0, 0)) (bl_ BK121.out)) : gb126 ≠ gb121)); clear HO124; clear BK121; clear HB; have HO124 := n0_; have BK121 := n1_; have HB := n2_; have BK126 := n3_; have GW126 := n4_; have GE126 := n5_; have NB121_126 := n6_; have NB126_121 := n7_; clear n0_ n1_ n2_ n3_ n4_ n5_ n6_ n7_; clear hb hbox hg; have hnb8 := NB126_121.out; have hnc8 := NB121_126.out; have hcz9_0 : w7.cell? ⟨gb126, 0, none⟩ = some (.int .i64 0) := (blk_cell BK126.out 0).trans rfl; have hcz9_1 : w7.cell? ⟨gb126, 1, none⟩ = some (.int .i64 0) := (blk_cell BK126.out 1).trans rfl; have hcz9_2 : w7.cell? ⟨gb126, 2, none⟩ = some (.slice none 0 0) := (blk_cell BK126.out 2).trans rfl; have hfz9_0 := blk_frozen BK126.out 0; have hfz9_1 := blk_frozen BK126.out 1; have hfz9_2 := blk_frozen BK126.out 2)); try (go_quiet (fail); have gt_ := trivial))
 go_loopg [6] k (fun kq v6 w' => ∃ (x6_1 : Int) (x122000_1 : Int) (x122001_1 : Int) (x127002_1 : List Int) (u127002 : Value), v6 = .int .i64 x6_1 ∧ Aside0 (spec_l19Read.l0 kq t122 x6_1 ((rdOf ByteArray.empty t122 0).size : Int) (t122.length : Int) x127002_1 = some (r1, r2, r3, r4)) ∧ Aside0 (kq ≤ k) ∧ Aside0 (Kd.R Kd.string 9 w' w.heap.size (fun _ => True) (.slice (some ad125) t122.length co6) t122) ∧ Aside0 (Kd.R (Kd.int .i64) 2 w' w.heap.size (fun _ => True) u127002 x127002_1) ∧ Aside0 (w'.heap[gb121]? = some (.cells #[.int .i64 x122000_1, .int .i64 x122001_1, (.slice none 0 0)] 24 (0, 0))) ∧ Aside0 (w'.heap[gb126]? = some (.cells #[.int .i64 ((rdOf ByteArray.empty t122 0).size : Int), .int .i64 (t122.length : Int), u127002] 24 (0, 0))) ∧ Aside0 (Below w.heap.size w w'))
 case atStart => exact ⟨(0), (0), (0), (([] : List Int)), (.slice none 0 0), (by first | rfl | (simp; done) | (simp [*]; done) | (simp [i64_w, i32_w]; done)), H', ⟨Nat.le_refl _⟩, ⟨by (with_reducible repeat (first | apply Kd.R_alloc | apply Kd.R_drewN | apply Kd.R_drew)); exact Kd.R_mono (Kd.R_far (p := ⟨gb126, 2, none⟩) (Kd.R_far (p := ⟨gb126, 1, none⟩) (Kd.R_far (p := ⟨gb126, 0, none⟩) (Kd.R_types HO124.out BK126.out (by decide)) (fun _ hk => hk.2) (.int .i64 ((rdOf ByteArray.empty t122 0).size : Int))) (fun _ hk => hk.2) (.int .i64 (t122.length : Int))) (fun _ hk => hk.2) (.slice none 0 0)) (fun _ hk => trivial)⟩, ⟨by first | exact Kd.R_nil _ _ _ _ _ | exact Kd.N_nil _ _ _ _ _ | exact Kd.V_nil _ _ _ _ _ | exact Kd.Q_nil _ _ _ _ _ | exact Kd.S_nil _ _ _ _ _⟩, ⟨by (with_reducible repeat (first | refine blk_drewN ?_ _ | refine blk_drew ?_ | refine blk_alloc ?_ _)); refine blk_far ?_ NB121_126.out _; (with_reducible repeat (first | refine blk_drewN ?_ _ | refine blk_drew ?_ | refine blk_alloc ?_ _)); refine blk_far ?_ NB121_126.out _; (with_reducible repeat (first | refine blk_drewN ?_ _ | refine blk_drew ?_ | refine blk_alloc ?_ _)); refine blk_far ?_ NB121_126.out _; (with_reducible repeat (first | refine blk_drewN ?_ _ | refine blk_drew ?_ | refine blk_alloc ?_ _)); exact BK121.out⟩, ⟨by (with_reducible repeat (first | refine blk_drewN ?_ _ | refine blk_drew ?_ | refine blk_alloc ?_ _)); refine blk_put (cs := #[.int .i64 ((rdOf ByteArray.empty t122 0).size : Int), .int .i64 (t122.length : Int), .slice none 0 0]) ?_ 2 _ rfl; (with_reducible repeat (first | refine blk_drewN ?_ _ | refine blk_drew ?_ | refine blk_alloc ?_ _)); refine blk_put (cs := #[.int .i64 ((rdOf ByteArray.empty t122 0).size : Int), .int .i64 0, .slice none 0 0]) ?_ 1 _ rfl; (with_reducible repeat (first | refine blk_drewN ?_ _ | refine blk_drew ?_ | refine blk_alloc ?_ _)); refine blk_put (cs := #[.int .i64 0, .int .i64 0, .slice none 0 0]) ?_ 0 _ rfl; (with_reducible repeat (first | refine blk_drewN ?_ _ | refine blk_drew ?_ | refine blk_alloc ?_ _)); exact BK126.out⟩, ⟨by repeat (first | (with_reducible first | exact HB.out | apply below_alloc | apply pw_below_drewN | apply below_drew1 | refine below_set ?_ GE121.out | refine below_set ?_ GE126.out) | exact HB.out)⟩⟩
 case round =>
  clear H'
  try clear p1
  try clear q1
  try clear hx1
  try clear qi1
  try clear p2
  try clear c3
  try clear c3b0
  try clear c3b1
  try clear c8
  try clear c9
  try clear hcz9_0
  try clear hcz9_1
  try clear hcz9_2
  try clear hfz9_0
  try clear hfz9_1
  try clear hfz9_2
  try clear hx125_0
  try clear p125
  try clear q125
  obtain ⟨x6_1, x122000_1, x122001_1, x127002_1, u127002, rfl, HA, HK1, HO_4, HO_127002, BK121, BK126, HB⟩ := hrel
  cases gk with
  | zero => exact absurd HA.out (by simp [spec_l19Read.l0])
  | succ k1 =>
   have H := HA.out
   clear HA
   simp only [spec_l19Read.l0] at H
   by_cases c10 : x6_1 < (t122.length : Int)
   rotate_left
   · rw [if_neg c10] at H
     have c10b0 : decide (x6_1 < (t122.length : Int)) = false := decide_eq_false c10
     clear c10
     replace H := Option.bind_eq_some_iff.mp H
     obtain ⟨t127, A380, H⟩ := H
     replace H : (if t127 = true then (some (((rdOf ByteArray.empty t122 0).size : Int), (t122.length : Int), x127002_1, true)) else (some (0, 0, ([] : List Int), false))) = some (r1, r2, r3, r4) := H
     have A38 := mkA A380
     clear A380
     by_cases c39 : t127 = true
     · subst c39
       have H1 : (some (((rdOf ByteArray.empty t122 0).size : Int), (t122.length : Int), x127002_1, true)) = some (r1, r2, r3, r4) := by rw [if_pos rfl] at H; exact H
       clear H
       have H := H1
       clear H1
       simp only [Option.some.injEq, Prod.mk.injEq] at H
       obtain ⟨rfl, rfl, rfl, rfl⟩ := H
       obtain ⟨Ao40, co40, eo40⟩ := Kd.R_slice HO_127002.out
       subst eo40
       have gt_ := trivial; repeat (clear gt_; try go_wp2_with (first | (go_at_call 16; (with_reducible refine (spec_l19Ok.calls k1 _ [(⟨((rdOf ByteArray.empty t122 0).size : Int), (t122.length : Int), x127002_1⟩ : S24)] true _ ?side1 A38.out).mono ?_); (case side1 => exact Go.Proofs.YtakagkflgkoiiaaDoorX.rp_box (t := 24) (fr := (0, 0)) (bl_ BK126.out) (k24_mk _ (⟨((rdOf ByteArray.empty t122 0).size : Int), (t122.length : Int), x127002_1⟩ : S24) (by exact (Kd.R_reads' HO_127002.out).2.1) (by repeat (first | exact (Kd.R_reads' HO_127002.out).2.2 | (with_reducible refine Kd.C_alloc ?_ _) | (with_reducible refine Kd.C_drewN ?_ _) | (with_reducible refine Kd.C_drew ?_))))); rintro e w41 ⟨rfl, hb⟩; have n0_ := mkA (Kd.R_below (by (with_reducible repeat (first | apply Kd.R_alloc | apply Kd.R_drewN | apply Kd.R_drew)); exact HO_4.out) hb); have n1_ := mkA (Kd.R_below (by (with_reducible repeat (first | apply Kd.R_alloc | apply Kd.R_drewN | apply Kd.R_drew)); exact HO_127002.out) hb); have n2_ := mkA (blk_below (g := gb121) (o := .cells #[.int .i64 x122000_1, .int .i64 x122001_1, .slice none 0 0] 24 (0, 0)) (bl_ BK121.out) hb); have n3_ := mkA (blk_below (g := gb126) (o := .cells #[.int .i64 ((rdOf ByteArray.empty t122 0).size : Int), .int .i64 (t122.length : Int), .slice Ao40 x127002_1.length co40] 24 (0, 0)) (bl_ BK126.out) hb); have n4_ := mkA (below_step (bs2_ HB.out GE121.out GE126.out) hb); clear HO_4; clear HO_127002; clear BK121; clear BK126; clear HB; have HO_4 := n0_; have HO_127002 := n1_; have BK121 := n2_; have BK126 := n3_; have HB := n4_; clear n0_ n1_ n2_ n3_ n4_; (try clear hb); (try clear hb2); (try clear hk); (try clear hi); have hnb42 := NB126_121.out; have hnc42 := NB121_126.out; have hcz43_0 : w41.cell? ⟨gb126, 0, none⟩ = some (.int .i64 ((rdOf ByteArray.empty t122 0).size : Int)) := (blk_cell BK126.out 0).trans rfl; have hcz43_1 : w41.cell? ⟨gb126, 1, none⟩ = some (.int .i64 (t122.length : Int)) := (blk_cell BK126.out 1).trans rfl; have hcz43_2 : w41.cell? ⟨gb126, 2, none⟩ = some (.slice Ao40 x127002_1.length co40) := (blk_cell BK126.out 2).trans rfl; have hfz43_0 := blk_frozen BK126.out 0; have hfz43_1 := blk_frozen BK126.out 1; have hfz43_2 := blk_frozen BK126.out 2; have hcz44_0 : w41.cell? ⟨gb121, 0, none⟩ = some (.int .i64 x122000_1) := (blk_cell BK121.out 0).trans rfl; have hcz44_1 : w41.cell? ⟨gb121, 1, none⟩ = some (.int .i64 x122001_1) := (blk_cell BK121.out 1).trans rfl; have hcz44_2 : w41.cell? ⟨gb121, 2, none⟩ = some (.slice none 0 0) := (blk_cell BK121.out 2).trans rfl; have hfz44_0 := blk_frozen BK121.out 0; have hfz44_1 := blk_frozen BK121.out 1; have hfz44_2 := blk_frozen BK121.out 2)); try (go_quiet (fail); have gt_ := trivial))
       refine bodyPost_ret (results_ct rfl _ _ gb121 24 #[.int .i64 ((rdOf ByteArray.empty t122 0).size : Int), .int .i64 (t122.length : Int), .slice Ao40 x127002_1.length co40] (0, 0) _ rfl (by (with_reducible repeat (first | refine blk_drewN ?_ _ | refine blk_drew ?_ | refine blk_alloc ?_ _)); refine blk_put (cs := #[.int .i64 ((rdOf ByteArray.empty t122 0).size : Int), .int .i64 (t122.length : Int), .slice none 0 0]) ?_ 2 _ rfl; (with_reducible repeat (first | refine blk_drewN ?_ _ | refine blk_drew ?_ | refine blk_alloc ?_ _)); refine blk_put (cs := #[.int .i64 ((rdOf ByteArray.empty t122 0).size : Int), .int .i64 x122001_1, .slice none 0 0]) ?_ 1 _ rfl; (with_reducible repeat (first | refine blk_drewN ?_ _ | refine blk_drew ?_ | refine blk_alloc ?_ _)); refine blk_put (cs := #[.int .i64 x122000_1, .int .i64 x122001_1, .slice none 0 0]) ?_ 0 _ rfl; (with_reducible repeat (first | refine blk_drewN ?_ _ | refine blk_drew ?_ | refine blk_alloc ?_ _)); exact BK121.out) Tryd.underlying24 rfl (by kernel_rfl)) rfl ?_
       exact ⟨_, by first | rfl | (simp [errW_none, errW_some] <;> rfl) | (simp [*, errW_none, errW_some] <;> rfl), by (with_reducible repeat (first | apply Kd.R_alloc | apply Kd.R_drewN | apply Kd.R_drew)); exact Kd.R_mono (Kd.R_far (p := ⟨gb121, 2, none⟩) (Kd.R_far (p := ⟨gb121, 1, none⟩) (Kd.R_far (p := ⟨gb121, 0, none⟩) (Kd.R_types HO_127002.out BK121.out (by decide)) (fun _ hk => hk.2) (.int .i64 ((rdOf ByteArray.empty t122 0).size : Int))) (fun _ hk => hk.2) (.int .i64 (t122.length : Int))) (fun _ hk => hk.2) (.slice Ao40 x127002_1.length co40)) (fun _ hk => trivial), by repeat (first | (with_reducible first | exact HB.out | apply below_alloc | apply pw_below_drewN | apply below_drew1 | refine below_set ?_ GE121.out | refine below_set ?_ GE126.out) | exact HB.out)⟩
     · replace c39 := Bool.eq_false_iff.mpr c39
       subst c39
       have H1 : (some (0, 0, ([] : List Int), false)) = some (r1, r2, r3, r4) := by rw [if_neg (show ¬ (false = true) by decide)] at H; exact H
       clear H
       have H := H1
       clear H1
       simp only [Option.some.injEq, Prod.mk.injEq] at H
       obtain ⟨rfl, rfl, rfl, rfl⟩ := H
       obtain ⟨Ao45, co45, eo45⟩ := Kd.R_slice HO_127002.out
       subst eo45
       have gt_ := trivial; repeat (clear gt_; try go_wp2_with (first | (go_at_call 16; (with_reducible refine (spec_l19Ok.calls k1 _ [(⟨((rdOf ByteArray.empty t122 0).size : Int), (t122.length : Int), x127002_1⟩ : S24)] false _ ?side1 A38.out).mono ?_); (case side1 => exact Go.Proofs.YtakagkflgkoiiaaDoorX.rp_box (t := 24) (fr := (0, 0)) (bl_ BK126.out) (k24_mk _ (⟨((rdOf ByteArray.empty t122 0).size : Int), (t122.length : Int), x127002_1⟩ : S24) (by exact (Kd.R_reads' HO_127002.out).2.1) (by repeat (first | exact (Kd.R_reads' HO_127002.out).2.2 | (with_reducible refine Kd.C_alloc ?_ _) | (with_reducible refine Kd.C_drewN ?_ _) | (with_reducible refine Kd.C_drew ?_))))); rintro e w46 ⟨rfl, hb⟩; have n0_ := mkA (Kd.R_below (by (with_reducible repeat (first | apply Kd.R_alloc | apply Kd.R_drewN | apply Kd.R_drew)); exact HO_4.out) hb); have n1_ := mkA (Kd.R_below (by (with_reducible repeat (first | apply Kd.R_alloc | apply Kd.R_drewN | apply Kd.R_drew)); exact HO_127002.out) hb); have n2_ := mkA (blk_below (g := gb121) (o := .cells #[.int .i64 x122000_1, .int .i64 x122001_1, .slice none 0 0] 24 (0, 0)) (bl_ BK121.out) hb); have n3_ := mkA (blk_below (g := gb126) (o := .cells #[.int .i64 ((rdOf ByteArray.empty t122 0).size : Int), .int .i64 (t122.length : Int), .slice Ao45 x127002_1.length co45] 24 (0, 0)) (bl_ BK126.out) hb); have n4_ := mkA (below_step (bs2_ HB.out GE121.out GE126.out) hb); clear HO_4; clear HO_127002; clear BK121; clear BK126; clear HB; have HO_4 := n0_; have HO_127002 := n1_; have BK121 := n2_; have BK126 := n3_; have HB := n4_; clear n0_ n1_ n2_ n3_ n4_; (try clear hb); (try clear hb2); (try clear hk); (try clear hi); have hnb47 := NB121_126.out; have hnc47 := NB126_121.out; have hcz48_0 : w46.cell? ⟨gb121, 0, none⟩ = some (.int .i64 x122000_1) := (blk_cell BK121.out 0).trans rfl; have hcz48_1 : w46.cell? ⟨gb121, 1, none⟩ = some (.int .i64 x122001_1) := (blk_cell BK121.out 1).trans rfl; have hcz48_2 : w46.cell? ⟨gb121, 2, none⟩ = some (.slice none 0 0) := (blk_cell BK121.out 2).trans rfl; have hfz48_0 := blk_frozen BK121.out 0; have hfz48_1 := blk_frozen BK121.out 1; have hfz48_2 := blk_frozen BK121.out 2)); try (go_quiet (fail); have gt_ := trivial))
       refine bodyPost_ret (results_ct rfl _ _ gb121 24 #[.int .i64 0, .int .i64 0, .slice none 0 0] (0, 0) _ rfl (by (with_reducible repeat (first | refine blk_drewN ?_ _ | refine blk_drew ?_ | refine blk_alloc ?_ _)); refine blk_put (cs := #[.int .i64 0, .int .i64 0, .slice none 0 0]) ?_ 2 _ rfl; (with_reducible repeat (first | refine blk_drewN ?_ _ | refine blk_drew ?_ | refine blk_alloc ?_ _)); refine blk_put (cs := #[.int .i64 0, .int .i64 x122001_1, .slice none 0 0]) ?_ 1 _ rfl; (with_reducible repeat (first | refine blk_drewN ?_ _ | refine blk_drew ?_ | refine blk_alloc ?_ _)); refine blk_put (cs := #[.int .i64 x122000_1, .int .i64 x122001_1, .slice none 0 0]) ?_ 0 _ rfl; (with_reducible repeat (first | refine blk_drewN ?_ _ | refine blk_drew ?_ | refine blk_alloc ?_ _)); exact BK121.out) Tryd.underlying24 rfl (by kernel_rfl)) rfl ?_
       exact ⟨_, by first | rfl | (simp [errW_none, errW_some] <;> rfl) | (simp [*, errW_none, errW_some] <;> rfl), by first | exact Kd.R_nil _ _ _ _ _ | exact Kd.N_nil _ _ _ _ _ | exact Kd.V_nil _ _ _ _ _ | exact Kd.Q_nil _ _ _ _ _ | exact Kd.S_nil _ _ _ _ _, by repeat (first | (with_reducible first | exact HB.out | apply below_alloc | apply pw_below_drewN | apply below_drew1 | refine below_set ?_ GE121.out | refine below_set ?_ GE126.out) | exact HB.out)⟩
   rw [if_pos c10] at H
   have c10b0 : decide (x6_1 < (t122.length : Int)) = true := decide_eq_true c10
   clear c10
   by_cases c11 : 0 ≤ x6_1
   rotate_left
   · rw [if_neg c11] at H
     exact absurd H (by simp)
   rw [if_pos c11] at H
   have c11b0 : decide (0 ≤ x6_1) = true := decide_eq_true c11
   clear c11
   by_cases c12 : 0 < (t122.length : Int)
   rotate_left
   · rw [if_neg c12] at H
     exact absurd H (by simp)
   rw [if_pos c12] at H
   have c12b0 : decide (0 < (t122.length : Int)) = true := decide_eq_true c12
   have c12b1 : decide (0 < t122.length) = true := decide_eq_true (by omega)
   clear c12
   by_cases c13 : ((rdOf ByteArray.empty t122 x6_1).size : Int) = ((rdOf ByteArray.empty t122 0).size : Int)
   rotate_left
   · rw [if_neg c13] at H
     have c13b0 : (((rdOf ByteArray.empty t122 x6_1).size : Int) == ((rdOf ByteArray.empty t122 0).size : Int)) = false := beq_eq_false_iff_ne.mpr c13
     have c13b1 : (((rdOf ByteArray.empty t122 x6_1).size : Int) != ((rdOf ByteArray.empty t122 0).size : Int)) = true := bne_iff_ne.mpr c13
     have c13b2 : ((rdOf ByteArray.empty t122 x6_1).size == (rdOf ByteArray.empty t122 0).size) = false := by first | simpa using c13 | (simp at c13 ⊢; omega)
     simp only [Option.some.injEq, Prod.mk.injEq] at H
     obtain ⟨rfl, rfl, rfl, rfl⟩ := H
     have p128 : 0 ≤ (x6_1 : Int) := dt_
     have q128 : x6_1 < (t122.length : Int) := dt_
     obtain ⟨ad128, e128, hx128_0⟩ := Kd.at_string (Kd.R_reads' HO_4.out).2.2 x6_1 p128 q128
     obtain rfl : ad125 = ad128 := (by injection e128)
     replace p128 := eq_true p128
     replace q128 := eq_true q128
     have p129 : 0 ≤ (0 : Int) := (by omega)
     have q129 : 0 < (t122.length : Int) := dt_
     obtain ⟨ad129, e129, hx129_0⟩ := Kd.at_string (Kd.R_reads' HO_4.out).2.2 0 p129 q129
     obtain rfl : ad125 = ad129 := (by injection e129)
     have qi129 : (0 < t122.length) = True := eq_true (by omega)
     (try rw [show ((0 : Int)).toNat = 0 from rfl] at hx129_0)
     (try rw [Addr.add_zero'] at hx129_0)
     replace p129 := eq_true p129
     replace q129 := eq_true q129
     have hnb36 := NB121_126.out
     have hnc36 := NB126_121.out
     have hcz37_0 : wr.cell? ⟨gb121, 0, none⟩ = some (.int .i64 x122000_1) := (blk_cell BK121.out 0).trans rfl
     have hcz37_1 : wr.cell? ⟨gb121, 1, none⟩ = some (.int .i64 x122001_1) := (blk_cell BK121.out 1).trans rfl
     have hcz37_2 : wr.cell? ⟨gb121, 2, none⟩ = some (.slice none 0 0) := (blk_cell BK121.out 2).trans rfl
     have hfz37_0 := blk_frozen BK121.out 0
     have hfz37_1 := blk_frozen BK121.out 1
     have hfz37_2 := blk_frozen BK121.out 2
     go_wp2
     repeat (go_quiet (fail); try go_wp2)
     refine bodyPost_ret (results_ct rfl _ _ gb121 24 #[.int .i64 0, .int .i64 0, .slice none 0 0] (0, 0) _ rfl (by (with_reducible repeat (first | refine blk_drewN ?_ _ | refine blk_drew ?_ | refine blk_alloc ?_ _)); refine blk_put (cs := #[.int .i64 0, .int .i64 0, .slice none 0 0]) ?_ 2 _ rfl; (with_reducible repeat (first | refine blk_drewN ?_ _ | refine blk_drew ?_ | refine blk_alloc ?_ _)); refine blk_put (cs := #[.int .i64 0, .int .i64 x122001_1, .slice none 0 0]) ?_ 1 _ rfl; (with_reducible repeat (first | refine blk_drewN ?_ _ | refine blk_drew ?_ | refine blk_alloc ?_ _)); refine blk_put (cs := #[.int .i64 x122000_1, .int .i64 x122001_1, .slice none 0 0]) ?_ 0 _ rfl; (with_reducible repeat (first | refine blk_drewN ?_ _ | refine blk_drew ?_ | refine blk_alloc ?_ _)); exact BK121.out) Tryd.underlying24 rfl (by kernel_rfl)) rfl ?_
     exact ⟨_, by first | rfl | (simp [errW_none, errW_some] <;> rfl) | (simp [*, errW_none, errW_some] <;> rfl), by first | exact Kd.R_nil _ _ _ _ _ | exact Kd.N_nil _ _ _ _ _ | exact Kd.V_nil _ _ _ _ _ | exact Kd.Q_nil _ _ _ _ _ | exact Kd.S_nil _ _ _ _ _, by repeat (first | (with_reducible first | exact HB.out | apply below_alloc | apply pw_below_drewN | apply below_drew1 | refine below_set ?_ GE121.out | refine below_set ?_ GE126.out) | exact HB.out)⟩
   rw [if_pos c13] at H
   have c13b0 : (((rdOf ByteArray.empty t122 x6_1).size : Int) == ((rdOf ByteArray.empty t122 0).size : Int)) = true := beq_iff_eq.mpr c13
   have c13b1 : (((rdOf ByteArray.empty t122 x6_1).size : Int) != ((rdOf ByteArray.empty t122 0).size : Int)) = false := bne_eq_false_iff_eq.mpr c13
   have c13b2 : ((rdOf ByteArray.empty t122 x6_1).size == (rdOf ByteArray.empty t122 0).size) = true := by first | simpa using c13 | (simp at c13 ⊢; omega)
   clear c13
   have H' := mkA H
   clear H
   have p128 : 0 ≤ (x6_1 : Int) := dt_
   have q128 : x6_1 < (t122.length : Int) := dt_
   obtain ⟨ad128, e128, hx128_0⟩ := Kd.at_string (Kd.R_reads' HO_4.out).2.2 x6_1 p128 q128
   obtain rfl : ad125 = ad128 := (by injection e128)
   replace p128 := eq_true p128
   replace q128 := eq_true q128
   have p129 : 0 ≤ (0 : Int) := (by omega)
   have q129 : 0 < (t122.length : Int) := dt_
   obtain ⟨ad129, e129, hx129_0⟩ := Kd.at_string (Kd.R_reads' HO_4.out).2.2 0 p129 q129
   obtain rfl : ad125 = ad129 := (by injection e129)
   have qi129 : (0 < t122.length) = True := eq_true (by omega)
   (try rw [show ((0 : Int)).toNat = 0 from rfl] at hx129_0)
   (try rw [Addr.add_zero'] at hx129_0)
   replace p129 := eq_true p129
   replace q129 := eq_true q129
   go_wp2
   repeat (go_quiet (fail); try go_wp2)
   go_loopg [7] k1 (fun kq v7 w' => ∃ (x7_2 : Int) (x122000_2 : Int) (x122001_2 : Int) (x127002_2 : List Int) (u127002 : Value), v7 = .int .i64 x7_2 ∧ Aside0 (spec_l19Read.l1 kq t122 x6_1 x7_2 ((rdOf ByteArray.empty t122 0).size : Int) (t122.length : Int) x127002_2 = some (r1, r2, r3, r4)) ∧ Aside0 (kq ≤ k1) ∧ Aside0 (Kd.R Kd.string 9 w' w.heap.size (fun _ => True) (.slice (some ad125) t122.length co6) t122) ∧ Aside0 (Kd.R (Kd.int .i64) 2 w' w.heap.size (fun _ => True) u127002 x127002_2) ∧ Aside0 (w'.heap[gb121]? = some (.cells #[.int .i64 x122000_2, .int .i64 x122001_2, (.slice none 0 0)] 24 (0, 0))) ∧ Aside0 (w'.heap[gb126]? = some (.cells #[.int .i64 ((rdOf ByteArray.empty t122 0).size : Int), .int .i64 (t122.length : Int), u127002] 24 (0, 0))) ∧ Aside0 (Below w.heap.size w w'))
   case atStart => exact ⟨(0), (x122000_1), (x122001_1), (x127002_1), (u127002), (by first | rfl | (simp; done) | (simp [*]; done) | (simp [i64_w, i32_w]; done)), H', ⟨Nat.le_refl _⟩, ⟨by (with_reducible repeat (first | apply Kd.R_alloc | apply Kd.R_drewN | apply Kd.R_drew)); exact HO_4.out⟩, ⟨by (with_reducible repeat (first | apply Kd.R_alloc | apply Kd.R_drewN | apply Kd.R_drew)); exact HO_127002.out⟩, ⟨by (with_reducible repeat (first | refine blk_drewN ?_ _ | refine blk_drew ?_ | refine blk_alloc ?_ _)); exact BK121.out⟩, ⟨by (with_reducible repeat (first | refine blk_drewN ?_ _ | refine blk_drew ?_ | refine blk_alloc ?_ _)); exact BK126.out⟩, ⟨by repeat (first | (with_reducible first | exact HB.out | apply below_alloc | apply pw_below_drewN | apply below_drew1 | refine below_set ?_ GE121.out | refine below_set ?_ GE126.out) | exact HB.out)⟩⟩
   case round =>
    clear H'
    try clear c1
    try clear p1
    try clear q1
    try clear hx1
    try clear qi1
    try clear p2
    try clear c3
    try clear c3b0
    try clear c3b1
    try clear c8
    try clear c9
    try clear c10
    try clear c10b0
    try clear c11
    try clear c11b0
    try clear c12
    try clear c12b0
    try clear c12b1
    try clear p12
    try clear q12
    try clear hx12
    try clear qi12
    try clear c13
    try clear c13b0
    try clear c13b1
    try clear c13b2
    try clear hcz9_0
    try clear hcz9_1
    try clear hcz9_2
    try clear hfz9_0
    try clear hfz9_1
    try clear hfz9_2
    try clear hx125_0
    try clear hx128_0
    try clear hx129_0
    try clear p1
    try clear p125
    try clear p128
    try clear p129
    try clear p2
    try clear q1
    try clear q125
    try clear q128
    try clear q129
    obtain ⟨x7_2, x122000_2, x122001_2, x127002_2, u127002, rfl, HA, HK2, HO_4, HO_127002, BK121, BK126, HB⟩ := hrel
    cases gk with
    | zero => exact absurd HA.out (by simp [spec_l19Read.l1])
    | succ k2 =>
     have H := HA.out
     clear HA
     simp only [spec_l19Read.l1] at H
     by_cases c14 : 0 ≤ x6_1
     rotate_left
     · rw [if_neg c14] at H
       exact absurd H (by simp)
     rw [if_pos c14] at H
     have c14b0 : decide (0 ≤ x6_1) = true := decide_eq_true c14
     clear c14
     by_cases c15 : x6_1 < (t122.length : Int)
     rotate_left
     · rw [if_neg c15] at H
       exact absurd H (by simp)
     rw [if_pos c15] at H
     have c15b0 : decide (x6_1 < (t122.length : Int)) = true := decide_eq_true c15
     clear c15
     by_cases c16 : x7_2 < ((rdOf ByteArray.empty t122 x6_1).size : Int)
     rotate_left
     · rw [if_neg c16] at H
       have c16b0 : decide (x7_2 < ((rdOf ByteArray.empty t122 x6_1).size : Int)) = false := decide_eq_false c16
       clear c16
       have H' := mkA H
       clear H
       have p130 : 0 ≤ (x6_1 : Int) := dt_
       have q130 : x6_1 < (t122.length : Int) := dt_
       obtain ⟨ad130, e130, hx130_0⟩ := Kd.at_string (Kd.R_reads' HO_4.out).2.2 x6_1 p130 q130
       obtain rfl : ad125 = ad130 := (by injection e130)
       replace p130 := eq_true p130
       replace q130 := eq_true q130
       go_wp2
       repeat (go_quiet (fail); try go_wp2)
       go_roundg k2
       case measure => have := HK1.out; have := HK2.out; omega
       case rel => exact ⟨(wrap64 (x6_1 + 1)), (x122000_2), (x122001_2), (x127002_2), (u127002), (by first | rfl | (simp; done) | (simp [*]; done) | (simp [i64_w, i32_w]; done)), H', ⟨by have := HK1.out; have := HK2.out; omega⟩, ⟨by (with_reducible repeat (first | apply Kd.R_alloc | apply Kd.R_drewN | apply Kd.R_drew)); exact HO_4.out⟩, ⟨by (with_reducible repeat (first | apply Kd.R_alloc | apply Kd.R_drewN | apply Kd.R_drew)); exact HO_127002.out⟩, ⟨by (with_reducible repeat (first | refine blk_drewN ?_ _ | refine blk_drew ?_ | refine blk_alloc ?_ _)); exact BK121.out⟩, ⟨by (with_reducible repeat (first | refine blk_drewN ?_ _ | refine blk_drew ?_ | refine blk_alloc ?_ _)); exact BK126.out⟩, ⟨by repeat (first | (with_reducible first | exact HB.out | apply below_alloc | apply pw_below_drewN | apply below_drew1 | refine below_set ?_ GE121.out | refine below_set ?_ GE126.out) | exact HB.out)⟩⟩
     rw [if_pos c16] at H
     have c16b0 : decide (x7_2 < ((rdOf ByteArray.empty t122 x6_1).size : Int)) = true := decide_eq_true c16
     clear c16
     by_cases c17 : 0 ≤ x7_2
     rotate_left
     · rw [if_neg c17] at H
       exact absurd H (by simp)
     rw [if_pos c17] at H
     have c17b0 : decide (0 ≤ x7_2) = true := decide_eq_true c17
     clear c17
     by_cases c19 : (bt (rdOf ByteArray.empty t122 x6_1) x7_2) = 35
     · rw [if_pos c19] at H
       have c19b0 : ((bt (rdOf ByteArray.empty t122 x6_1) x7_2) == 35) = true := beq_iff_eq.mpr c19
       have c19b1 : ((bt (rdOf ByteArray.empty t122 x6_1) x7_2) != 35) = false := bne_eq_false_iff_eq.mpr c19
       clear c19
       by_cases c20 : x127002_2.length < 17592186044416
       rotate_left
       · rw [if_neg c20] at H
         exact absurd H (by simp)
       rw [if_pos c20] at H
       have LMc20 := mkA c20
       clear c20
       obtain ⟨y132, hy132⟩ : ∃ y_ : List Int, y_ = (x127002_2 ++ [1]) := ⟨_, rfl⟩
       replace H : (spec_l19Read.l1 k2 t122 x6_1 (wrap64 (x7_2 + 1)) ((rdOf ByteArray.empty t122 0).size : Int) (t122.length : Int) y132) = some (r1, r2, r3, r4) := by first | (rw [hy132]; with_reducible exact H) | (have H2_ := (Option.bind_some _ _).symm.trans H; rw [hy132]; with_reducible exact H2_) | (have H2_ := (Option.bind_some _ _).symm.trans H; with_reducible exact H2_) | with_reducible exact H | (rw [hy132]; exact H) | exact H
       have Ny132 := mkA hy132
       clear hy132
       have H' := mkA H
       clear H
       have p130 : 0 ≤ (x6_1 : Int) := dt_
       have q130 : x6_1 < (t122.length : Int) := dt_
       obtain ⟨ad130, e130, hx130_0⟩ := Kd.at_string (Kd.R_reads' HO_4.out).2.2 x6_1 p130 q130
       obtain rfl : ad125 = ad130 := (by injection e130)
       replace p130 := eq_true p130
       replace q130 := eq_true q130
       have p131 : 0 ≤ (x6_1 : Int) := dt_
       have q131 : x6_1 < (t122.length : Int) := dt_
       obtain ⟨ad131, e131, hx131_0⟩ := Kd.at_string (Kd.R_reads' HO_4.out).2.2 x6_1 p131 q131
       obtain rfl : ad125 = ad131 := (by injection e131)
       replace p131 := eq_true p131
       replace q131 := eq_true q131
       have p18 : 0 ≤ (x7_2 : Int) := dt_
       have q18 : x7_2 < ((rdOf ByteArray.empty t122 x6_1).size : Int) := dt_
       have hx18 := bt_at (rdOf ByteArray.empty t122 x6_1) x7_2
       replace p18 := eq_true p18
       replace q18 := eq_true q18
       have hnb21 := NB126_121.out
       have hnc21 := NB121_126.out
       have hcz22_0 : wr.cell? ⟨gb126, 0, none⟩ = some (.int .i64 ((rdOf ByteArray.empty t122 0).size : Int)) := (blk_cell BK126.out 0).trans rfl
       have hcz22_1 : wr.cell? ⟨gb126, 1, none⟩ = some (.int .i64 (t122.length : Int)) := (blk_cell BK126.out 1).trans rfl
       have hcz22_2 : wr.cell? ⟨gb126, 2, none⟩ = some (u127002) := (blk_cell BK126.out 2).trans rfl
       have hfz22_0 := blk_frozen BK126.out 0
       have hfz22_1 := blk_frozen BK126.out 1
       have hfz22_2 := blk_frozen BK126.out 2
       have gt_ := trivial; repeat (clear gt_; try go_wp2_with (first | ((with_reducible refine gate_builtin (b := .append) (xs := #[.tmp 60, .tmp 62]) rfl ?_); at_builtin; refine Kd.R_append (Kd.int .i64) (w0 := w) w.heap.size rfl (.tmp 60) (.tmp 62) 22 2 (.int .i64 0) 8 rfl Tryd.underlying22 info2 rfl (by decide) (by omega) u127002 x127002_2 1 [.int .i64 1] (fun _ => True) (fun _ => False) rfl rfl ?aP (fun _ hk => hk.elim) ?aF ?aO ?aB ?aS ?aL ?_; (case aP => exact rfl); (case aB => exact (bs2_ HB.out GE121.out GE126.out)); (case aF => exact (fun _ _ => trivial)); (case aO => exact (by (with_reducible repeat (first | apply Kd.R_alloc | apply Kd.R_drewN | apply Kd.R_drew)); exact HO_127002.out)); (case aS => exact (below_size (bs2_ HB.out GE121.out GE126.out))); (case aL => have := LMc20.out; omega); intro v133 w23 ho hb hg hat; rw [← Ny132.out] at ho; have n0_ := mkA (Kd.R_over' (by (with_reducible repeat (first | apply Kd.R_alloc | apply Kd.R_drewN | apply Kd.R_drew)); exact HO_4.out) (Kd.R_typed (by (with_reducible repeat (first | apply Kd.R_alloc | apply Kd.R_drewN | apply Kd.R_drew)); exact HO_127002.out)) (by decide) hg); have n1_ := mkA (blk_grown (g := gb121) (o := .cells #[.int .i64 x122000_2, .int .i64 x122001_2, .slice none 0 0] 24 (0, 0)) (bl_ BK121.out) hg (Kd.R_ne HO_127002.out BK121.out (by decide))); have n2_ := mkA (blk_grown (g := gb126) (o := .cells #[.int .i64 ((rdOf ByteArray.empty t122 0).size : Int), .int .i64 (t122.length : Int), u127002] 24 (0, 0)) (bl_ BK126.out) hg (Kd.R_ne HO_127002.out BK126.out (by decide))); have n3_ := mkA (hb); have n4_ := mkA (ho); clear HO_4; clear BK121; clear BK126; clear HB; clear HO_127002; have HO_4 := n0_; have BK121 := n1_; have BK126 := n2_; have HB := n3_; have HO134 := n4_; clear n0_ n1_ n2_ n3_ n4_; clear ho hb hg hat; obtain ⟨Ao24, co24, eo24⟩ := Kd.R_slice HO134.out; subst eo24; have hcz25_0 : w23.cell? ⟨gb126, 0, none⟩ = some (.int .i64 ((rdOf ByteArray.empty t122 0).size : Int)) := (blk_cell BK126.out 0).trans rfl; have hcz25_1 : w23.cell? ⟨gb126, 1, none⟩ = some (.int .i64 (t122.length : Int)) := (blk_cell BK126.out 1).trans rfl; have hcz25_2 : w23.cell? ⟨gb126, 2, none⟩ = some (u127002) := (blk_cell BK126.out 2).trans rfl; have hfz25_0 := blk_frozen BK126.out 0; have hfz25_1 := blk_frozen BK126.out 1; have hfz25_2 := blk_frozen BK126.out 2)); try (go_quiet (fail); have gt_ := trivial))
       go_roundg k2
       case measure => have := HK1.out; have := HK2.out; omega
       case rel => exact ⟨(wrap64 (x7_2 + 1)), (x122000_2), (x122001_2), (y132), (.slice Ao24 y132.length co24), (by first | rfl | (simp; done) | (simp [*]; done) | (simp [i64_w, i32_w]; done)), H', ⟨by have := HK1.out; have := HK2.out; omega⟩, ⟨by (with_reducible repeat (first | apply Kd.R_alloc | apply Kd.R_drewN | apply Kd.R_drew)); exact Kd.R_mono (Kd.R_far (p := ⟨gb126, 2, none⟩) (Kd.R_types HO_4.out BK126.out (by decide)) (fun _ hk => hk.2) (.slice Ao24 y132.length co24)) (fun _ hk => trivial)⟩, ⟨by (with_reducible repeat (first | apply Kd.R_alloc | apply Kd.R_drewN | apply Kd.R_drew)); exact Kd.R_mono (Kd.R_far (p := ⟨gb126, 2, none⟩) (Kd.R_types HO134.out BK126.out (by decide)) (fun _ hk => hk.2) (.slice Ao24 y132.length co24)) (fun _ hk => trivial)⟩, ⟨by (with_reducible repeat (first | refine blk_drewN ?_ _ | refine blk_drew ?_ | refine blk_alloc ?_ _)); refine blk_far ?_ NB121_126.out _; (with_reducible repeat (first | refine blk_drewN ?_ _ | refine blk_drew ?_ | refine blk_alloc ?_ _)); exact BK121.out⟩, ⟨by (with_reducible repeat (first | refine blk_drewN ?_ _ | refine blk_drew ?_ | refine blk_alloc ?_ _)); refine blk_put (cs := #[.int .i64 ((rdOf ByteArray.empty t122 0).size : Int), .int .i64 (t122.length : Int), u127002]) ?_ 2 _ rfl; (with_reducible repeat (first | refine blk_drewN ?_ _ | refine blk_drew ?_ | refine blk_alloc ?_ _)); exact BK126.out⟩, ⟨by repeat (first | (with_reducible first | exact HB.out | apply below_alloc | apply pw_below_drewN | apply below_drew1 | refine below_set ?_ GE121.out | refine below_set ?_ GE126.out) | exact HB.out)⟩⟩
     · rw [if_neg c19] at H
       have c19b0 : ((bt (rdOf ByteArray.empty t122 x6_1) x7_2) == 35) = false := beq_eq_false_iff_ne.mpr c19
       have c19b1 : ((bt (rdOf ByteArray.empty t122 x6_1) x7_2) != 35) = true := bne_iff_ne.mpr c19
       by_cases c27 : (bt (rdOf ByteArray.empty t122 x6_1) x7_2) = 46
       rotate_left
       · rw [if_neg c27] at H
         have c27b0 : ((bt (rdOf ByteArray.empty t122 x6_1) x7_2) == 46) = false := beq_eq_false_iff_ne.mpr c27
         have c27b1 : ((bt (rdOf ByteArray.empty t122 x6_1) x7_2) != 46) = true := bne_iff_ne.mpr c27
         simp only [Option.some.injEq, Prod.mk.injEq] at H
         obtain ⟨rfl, rfl, rfl, rfl⟩ := H
         have p130 : 0 ≤ (x6_1 : Int) := dt_
         have q130 : x6_1 < (t122.length : Int) := dt_
         obtain ⟨ad130, e130, hx130_0⟩ := Kd.at_string (Kd.R_reads' HO_4.out).2.2 x6_1 p130 q130
         obtain rfl : ad125 = ad130 := (by injection e130)
         replace p130 := eq_true p130
         replace q130 := eq_true q130
         have p131 : 0 ≤ (x6_1 : Int) := dt_
         have q131 : x6_1 < (t122.length : Int) := dt_
         obtain ⟨ad131, e131, hx131_0⟩ := Kd.at_string (Kd.R_reads' HO_4.out).2.2 x6_1 p131 q131
         obtain rfl : ad125 = ad131 := (by injection e131)
         replace p131 := eq_true p131
         replace q131 := eq_true q131
         have p18 : 0 ≤ (x7_2 : Int) := dt_
         have q18 : x7_2 < ((rdOf ByteArray.empty t122 x6_1).size : Int) := dt_
         have hx18 := bt_at (rdOf ByteArray.empty t122 x6_1) x7_2
         replace p18 := eq_true p18
         replace q18 := eq_true q18
         have p135 : 0 ≤ (x6_1 : Int) := dt_
         have q135 : x6_1 < (t122.length : Int) := dt_
         obtain ⟨ad135, e135, hx135_0⟩ := Kd.at_string (Kd.R_reads' HO_4.out).2.2 x6_1 p135 q135
         obtain rfl : ad125 = ad135 := (by injection e135)
         replace p135 := eq_true p135
         replace q135 := eq_true q135
         have p26 : 0 ≤ (x7_2 : Int) := dt_
         have q26 : x7_2 < ((rdOf ByteArray.empty t122 x6_1).size : Int) := dt_
         have hx26 := bt_at (rdOf ByteArray.empty t122 x6_1) x7_2
         replace p26 := eq_true p26
         replace q26 := eq_true q26
         have hnb34 := NB121_126.out
         have hnc34 := NB126_121.out
         have hcz35_0 : wr.cell? ⟨gb121, 0, none⟩ = some (.int .i64 x122000_2) := (blk_cell BK121.out 0).trans rfl
         have hcz35_1 : wr.cell? ⟨gb121, 1, none⟩ = some (.int .i64 x122001_2) := (blk_cell BK121.out 1).trans rfl
         have hcz35_2 : wr.cell? ⟨gb121, 2, none⟩ = some (.slice none 0 0) := (blk_cell BK121.out 2).trans rfl
         have hfz35_0 := blk_frozen BK121.out 0
         have hfz35_1 := blk_frozen BK121.out 1
         have hfz35_2 := blk_frozen BK121.out 2
         go_wp2
         repeat (go_quiet (fail); try go_wp2)
         refine bodyPost_ret (results_ct rfl _ _ gb121 24 #[.int .i64 0, .int .i64 0, .slice none 0 0] (0, 0) _ rfl (by (with_reducible repeat (first | refine blk_drewN ?_ _ | refine blk_drew ?_ | refine blk_alloc ?_ _)); refine blk_put (cs := #[.int .i64 0, .int .i64 0, .slice none 0 0]) ?_ 2 _ rfl; (with_reducible repeat (first | refine blk_drewN ?_ _ | refine blk_drew ?_ | refine blk_alloc ?_ _)); refine blk_put (cs := #[.int .i64 0, .int .i64 x122001_2, .slice none 0 0]) ?_ 1 _ rfl; (with_reducible repeat (first | refine blk_drewN ?_ _ | refine blk_drew ?_ | refine blk_alloc ?_ _)); refine blk_put (cs := #[.int .i64 x122000_2, .int .i64 x122001_2, .slice none 0 0]) ?_ 0 _ rfl; (with_reducible repeat (first | refine blk_drewN ?_ _ | refine blk_drew ?_ | refine blk_alloc ?_ _)); exact BK121.out) Tryd.underlying24 rfl (by kernel_rfl)) rfl ?_
         exact ⟨_, by first | rfl | (simp [errW_none, errW_some] <;> rfl) | (simp [*, errW_none, errW_some] <;> rfl), by first | exact Kd.R_nil _ _ _ _ _ | exact Kd.N_nil _ _ _ _ _ | exact Kd.V_nil _ _ _ _ _ | exact Kd.Q_nil _ _ _ _ _ | exact Kd.S_nil _ _ _ _ _, by repeat (first | (with_reducible first | exact HB.out | apply below_alloc | apply pw_below_drewN | apply below_drew1 | refine below_set ?_ GE121.out | refine below_set ?_ GE126.out) | exact HB.out)⟩
       rw [if_pos c27] at H
       have c27b0 : ((bt (rdOf ByteArray.empty t122 x6_1) x7_2) == 46) = true := beq_iff_eq.mpr c27
       have c27b1 : ((bt (rdOf ByteArray.empty t122 x6_1) x7_2) != 46) = false := bne_eq_false_iff_eq.mpr c27
       clear c27
       by_cases c28 : x127002_2.length < 17592186044416
       rotate_left
       · rw [if_neg c28] at H
         exact absurd H (by simp)
       rw [if_pos c28] at H
       have LMc28 := mkA c28
       clear c28
       obtain ⟨y136, hy136⟩ : ∃ y_ : List Int, y_ = (x127002_2 ++ [0]) := ⟨_, rfl⟩
       replace H : (spec_l19Read.l1 k2 t122 x6_1 (wrap64 (x7_2 + 1)) ((rdOf ByteArray.empty t122 0).size : Int) (t122.length : Int) y136) = some (r1, r2, r3, r4) := by first | (rw [hy136]; with_reducible exact H) | (have H2_ := (Option.bind_some _ _).symm.trans H; rw [hy136]; with_reducible exact H2_) | (have H2_ := (Option.bind_some _ _).symm.trans H; with_reducible exact H2_) | with_reducible exact H | (rw [hy136]; exact H) | exact H
       have Ny136 := mkA hy136
       clear hy136
       have H' := mkA H
       clear H
       have p130 : 0 ≤ (x6_1 : Int) := dt_
       have q130 : x6_1 < (t122.length : Int) := dt_
       obtain ⟨ad130, e130, hx130_0⟩ := Kd.at_string (Kd.R_reads' HO_4.out).2.2 x6_1 p130 q130
       obtain rfl : ad125 = ad130 := (by injection e130)
       replace p130 := eq_true p130
       replace q130 := eq_true q130
       have p131 : 0 ≤ (x6_1 : Int) := dt_
       have q131 : x6_1 < (t122.length : Int) := dt_
       obtain ⟨ad131, e131, hx131_0⟩ := Kd.at_string (Kd.R_reads' HO_4.out).2.2 x6_1 p131 q131
       obtain rfl : ad125 = ad131 := (by injection e131)
       replace p131 := eq_true p131
       replace q131 := eq_true q131
       have p18 : 0 ≤ (x7_2 : Int) := dt_
       have q18 : x7_2 < ((rdOf ByteArray.empty t122 x6_1).size : Int) := dt_
       have hx18 := bt_at (rdOf ByteArray.empty t122 x6_1) x7_2
       replace p18 := eq_true p18
       replace q18 := eq_true q18
       have p135 : 0 ≤ (x6_1 : Int) := dt_
       have q135 : x6_1 < (t122.length : Int) := dt_
       obtain ⟨ad135, e135, hx135_0⟩ := Kd.at_string (Kd.R_reads' HO_4.out).2.2 x6_1 p135 q135
       obtain rfl : ad125 = ad135 := (by injection e135)
       replace p135 := eq_true p135
       replace q135 := eq_true q135
       have p26 : 0 ≤ (x7_2 : Int) := dt_
       have q26 : x7_2 < ((rdOf ByteArray.empty t122 x6_1).size : Int) := dt_
       have hx26 := bt_at (rdOf ByteArray.empty t122 x6_1) x7_2
       replace p26 := eq_true p26
       replace q26 := eq_true q26
       have hnb29 := NB126_121.out
       have hnc29 := NB121_126.out
       have hcz30_0 : wr.cell? ⟨gb126, 0, none⟩ = some (.int .i64 ((rdOf ByteArray.empty t122 0).size : Int)) := (blk_cell BK126.out 0).trans rfl
       have hcz30_1 : wr.cell? ⟨gb126, 1, none⟩ = some (.int .i64 (t122.length : Int)) := (blk_cell BK126.out 1).trans rfl
       have hcz30_2 : wr.cell? ⟨gb126, 2, none⟩ = some (u127002) := (blk_cell BK126.out 2).trans rfl
       have hfz30_0 := blk_frozen BK126.out 0
       have hfz30_1 := blk_frozen BK126.out 1
       have hfz30_2 := blk_frozen BK126.out 2
       have gt_ := trivial; repeat (clear gt_; try go_wp2_with (first | ((with_reducible refine gate_builtin (b := .append) (xs := #[.tmp 60, .tmp 62]) rfl ?_); at_builtin; refine Kd.R_append (Kd.int .i64) (w0 := w) w.heap.size rfl (.tmp 60) (.tmp 62) 22 2 (.int .i64 0) 8 rfl Tryd.underlying22 info2 rfl (by decide) (by omega) u127002 x127002_2 0 [.int .i64 0] (fun _ => True) (fun _ => False) rfl rfl ?aP (fun _ hk => hk.elim) ?aF ?aO ?aB ?aS ?aL ?_; (case aP => exact rfl); (case aB => exact (bs2_ HB.out GE121.out GE126.out)); (case aF => exact (fun _ _ => trivial)); (case aO => exact (by (with_reducible repeat (first | apply Kd.R_alloc | apply Kd.R_drewN | apply Kd.R_drew)); exact HO_127002.out)); (case aS => exact (below_size (bs2_ HB.out GE121.out GE126.out))); (case aL => have := LMc28.out; omega); intro v137 w31 ho hb hg hat; rw [← Ny136.out] at ho; have n0_ := mkA (Kd.R_over' (by (with_reducible repeat (first | apply Kd.R_alloc | apply Kd.R_drewN | apply Kd.R_drew)); exact HO_4.out) (Kd.R_typed (by (with_reducible repeat (first | apply Kd.R_alloc | apply Kd.R_drewN | apply Kd.R_drew)); exact HO_127002.out)) (by decide) hg); have n1_ := mkA (blk_grown (g := gb121) (o := .cells #[.int .i64 x122000_2, .int .i64 x122001_2, .slice none 0 0] 24 (0, 0)) (bl_ BK121.out) hg (Kd.R_ne HO_127002.out BK121.out (by decide))); have n2_ := mkA (blk_grown (g := gb126) (o := .cells #[.int .i64 ((rdOf ByteArray.empty t122 0).size : Int), .int .i64 (t122.length : Int), u127002] 24 (0, 0)) (bl_ BK126.out) hg (Kd.R_ne HO_127002.out BK126.out (by decide))); have n3_ := mkA (hb); have n4_ := mkA (ho); clear HO_4; clear BK121; clear BK126; clear HB; clear HO_127002; have HO_4 := n0_; have BK121 := n1_; have BK126 := n2_; have HB := n3_; have HO138 := n4_; clear n0_ n1_ n2_ n3_ n4_; clear ho hb hg hat; obtain ⟨Ao32, co32, eo32⟩ := Kd.R_slice HO138.out; subst eo32; have hcz33_0 : w31.cell? ⟨gb126, 0, none⟩ = some (.int .i64 ((rdOf ByteArray.empty t122 0).size : Int)) := (blk_cell BK126.out 0).trans rfl; have hcz33_1 : w31.cell? ⟨gb126, 1, none⟩ = some (.int .i64 (t122.length : Int)) := (blk_cell BK126.out 1).trans rfl; have hcz33_2 : w31.cell? ⟨gb126, 2, none⟩ = some (u127002) := (blk_cell BK126.out 2).trans rfl; have hfz33_0 := blk_frozen BK126.out 0; have hfz33_1 := blk_frozen BK126.out 1; have hfz33_2 := blk_frozen BK126.out 2)); try (go_quiet (fail); have gt_ := trivial))
       go_roundg k2
       case measure => have := HK1.out; have := HK2.out; omega
       case rel => exact ⟨(wrap64 (x7_2 + 1)), (x122000_2), (x122001_2), (y136), (.slice Ao32 y136.length co32), (by first | rfl | (simp; done) | (simp [*]; done) | (simp [i64_w, i32_w]; done)), H', ⟨by have := HK1.out; have := HK2.out; omega⟩, ⟨by (with_reducible repeat (first | apply Kd.R_alloc | apply Kd.R_drewN | apply Kd.R_drew)); exact Kd.R_mono (Kd.R_far (p := ⟨gb126, 2, none⟩) (Kd.R_types HO_4.out BK126.out (by decide)) (fun _ hk => hk.2) (.slice Ao32 y136.length co32)) (fun _ hk => trivial)⟩, ⟨by (with_reducible repeat (first | apply Kd.R_alloc | apply Kd.R_drewN | apply Kd.R_drew)); exact Kd.R_mono (Kd.R_far (p := ⟨gb126, 2, none⟩) (Kd.R_types HO138.out BK126.out (by decide)) (fun _ hk => hk.2) (.slice Ao32 y136.length co32)) (fun _ hk => trivial)⟩, ⟨by (with_reducible repeat (first | refine blk_drewN ?_ _ | refine blk_drew ?_ | refine blk_alloc ?_ _)); refine blk_far ?_ NB121_126.out _; (with_reducible repeat (first | refine blk_drewN ?_ _ | refine blk_drew ?_ | refine blk_alloc ?_ _)); exact BK121.out⟩, ⟨by (with_reducible repeat (first | refine blk_drewN ?_ _ | refine blk_drew ?_ | refine blk_alloc ?_ _)); refine blk_put (cs := #[.int .i64 ((rdOf ByteArray.empty t122 0).size : Int), .int .i64 (t122.length : Int), u127002]) ?_ 2 _ rfl; (with_reducible repeat (first | refine blk_drewN ?_ _ | refine blk_drew ?_ | refine blk_alloc ?_ _)); exact BK126.out⟩, ⟨by repeat (first | (with_reducible first | exact HB.out | apply below_alloc | apply pw_below_drewN | apply below_drew1 | refine below_set ?_ GE121.out | refine below_set ?_ GE126.out) | exact HB.out)⟩⟩
/-! ### spec_ReadShape: function 4 -/
def spec_ReadShape.f (k : Nat) (a0 : ByteArray) : Option (Int × Int × List Int × Bool) := (spec_l19Read.f k a0).bind fun bt140 => (some (bt140.1, bt140.2.1, bt140.2.2.1, bt140.2.2.2))
theorem spec_ReadShape.mono : ∀ a0 k, LeO (spec_ReadShape.f k a0) (spec_ReadShape.f (k + 1) a0) := by
  intro a0 k
  unfold spec_ReadShape.f
  repeat' first
      | (with_reducible exact spec_l19Read.mono _ _)
      | (with_reducible exact LeO.refl _)
      | (with_reducible exact LeO.none _)
      | (with_reducible refine LeO.ite ?_ ?_)
      | (with_reducible refine LeO.bind ?_ (fun _ => ?_))
      | exact spec_l19Read.mono _ _
      | exact LeO.none _
      | refine LeO.ite ?_ ?_
      | refine LeO.bind ?_ (fun _ => ?_)
set_option maxHeartbeats 8000000 in
set_option maxRecDepth 100000 in
theorem spec_ReadShape.calls (k : Nat) (a0 : ByteArray) (r1 : Int) (r2 : Int) (r3 : List Int) (r4 : Bool) (w : World) (h : spec_ReadShape.f k a0 = some (r1, r2, r3, r4)) :
    Calls Tryd.prog 4 #[.string a0] w fun e w' => ∃ v2_ : Value, e = .returned (.tuple #[.agg #[.int .i64 r1, .int .i64 r2, v2_], .bool r4]) ∧ Kd.R (Kd.int .i64) 2 w' w.heap.size (fun _ => True) v2_ r3 ∧ Below w.heap.size w w' := by
  have hu24 := Tryd.underlying24
  have HB := Aside0.mk (Below.refl w.heap.size w)
  have H : ((spec_l19Read.f k a0).bind fun bt140 => (some (bt140.1, bt140.2.1, bt140.2.2.1, bt140.2.2.2))) = some (r1, r2, r3, r4) := h
  clear h
  replace H := Option.bind_eq_some_iff.mp H
  obtain ⟨⟨t140, t141, t142, t145⟩, A20, H⟩ := H
  replace H : (some (t140, t141, t142, t145)) = some (r1, r2, r3, r4) := H
  have A2 := Aside0.mk A20
  clear A20
  simp only [Option.some.injEq, Prod.mk.injEq] at H
  obtain ⟨rfl, rfl, rfl, rfl⟩ := H
  go_enter Tryd.func4, Tryd.ntmps4
  go_wp2_with (first | ((with_reducible refine gate_dst (N := 2) rfl ?_); refine box_event ?hg (N := 2) ?hd (cs := #[.int .i64 0, .int .i64 0, .slice none 0 0]) (t := 24) ?hr ?_; (case hd => rfl); (case hg => rfl); (case hr => first | (go_simp; done) | (go_simp; rfl)); intro gb139 hg w3 hbox hb; have n0_ := Aside0.mk (below_step (by repeat (first | (with_reducible first | exact HB.out | apply below_alloc | apply pw_below_drewN | apply below_drew1) | exact HB.out)) hb); have n1_ := Aside0.mk (hbox); have n2_ := Aside0.mk ((by rw [hg]; exact (below_size (by repeat (first | (with_reducible first | exact HB.out | apply below_alloc | apply pw_below_drewN | apply below_drew1) | exact HB.out))) : w.heap.size ≤ gb139)); have n3_ := Aside0.mk ((by rw [hg]; exact (below_size (by repeat (first | (with_reducible first | exact HB.out | apply below_alloc | apply pw_below_drewN | apply below_drew1) | exact HB.out))) : w.heap.size ≤ gb139)); clear HB; have HB := n0_; have BK139 := n1_; have GW139 := n2_; have GE139 := n3_; clear n0_ n1_ n2_ n3_; clear hb hbox hg) | ((with_reducible refine gate_callee (f := 9) rfl ?_); refine goesL_ (some 5) rfl rfl Tryd.func9 (by kernel_rfl) rfl #[.string a0] rfl (by (try simp only [List.map_toArray, List.map_cons, List.map_nil]); first | done | rfl | (simp only [List.length_drop, List.length_take]; rfl)) ?_; (with_reducible refine (spec_l19Read.calls k a0 t140 t141 t142 t145 _ A2.out).mono ?_); rintro e w4 ⟨v143, rfl, ho0, hb⟩; refine ⟨_, rfl, ?_⟩; have n0_ := Aside0.mk (Kd.R_lower ho0 (below_size (by repeat (first | (with_reducible first | exact HB.out | apply below_alloc | apply pw_below_drewN | apply below_drew1 | refine below_set ?_ GE139.out) | exact HB.out)))); have n1_ := Aside0.mk (blk_below (g := gb139) (o := .cells #[.int .i64 0, .int .i64 0, .slice none 0 0] 24 (0, 0)) (by (with_reducible repeat (first | refine blk_drewN ?_ _ | refine blk_drew ?_ | refine blk_alloc ?_ _)); exact BK139.out) hb); have n2_ := Aside0.mk (below_step (by repeat (first | (with_reducible first | exact HB.out | apply below_alloc | apply pw_below_drewN | apply below_drew1 | refine below_set ?_ GE139.out) | exact HB.out)) hb); clear BK139; clear HB; have HO144 := n0_; have BK139 := n1_; have HB := n2_; clear n0_ n1_ n2_; (try clear hb); (try clear hb2); (try clear hk); (try clear hi); (try clear ho0); have hcz5_0 : w4.cell? ⟨gb139, 0, none⟩ = some (.int .i64 0) := (blk_cell BK139.out 0).trans rfl; have hcz5_1 : w4.cell? ⟨gb139, 1, none⟩ = some (.int .i64 0) := (blk_cell BK139.out 1).trans rfl; have hcz5_2 : w4.cell? ⟨gb139, 2, none⟩ = some (.slice none 0 0) := (blk_cell BK139.out 2).trans rfl; have hfz5_0 := blk_frozen BK139.out 0; have hfz5_1 := blk_frozen BK139.out 1; have hfz5_2 := blk_frozen BK139.out 2; obtain ⟨Ao6, co6, eo6⟩ := Kd.R_slice HO144.out; subst eo6))
  refine bodyPost_ret (results_ct rfl _ _ gb139 24 #[.int .i64 t140, .int .i64 t141, .slice Ao6 t142.length co6] (0, 0) _ rfl (by (with_reducible repeat (first | refine blk_drewN ?_ _ | refine blk_drew ?_ | refine blk_alloc ?_ _)); refine blk_put (cs := #[.int .i64 t140, .int .i64 t141, .slice none 0 0]) ?_ 2 _ rfl; (with_reducible repeat (first | refine blk_drewN ?_ _ | refine blk_drew ?_ | refine blk_alloc ?_ _)); refine blk_put (cs := #[.int .i64 t140, .int .i64 0, .slice none 0 0]) ?_ 1 _ rfl; (with_reducible repeat (first | refine blk_drewN ?_ _ | refine blk_drew ?_ | refine blk_alloc ?_ _)); refine blk_put (cs := #[.int .i64 0, .int .i64 0, .slice none 0 0]) ?_ 0 _ rfl; (with_reducible repeat (first | refine blk_drewN ?_ _ | refine blk_drew ?_ | refine blk_alloc ?_ _)); exact BK139.out) Tryd.underlying24 rfl (by kernel_rfl)) rfl ?_
  exact ⟨_, by first | rfl | (simp [errW_none, errW_some] <;> rfl) | (simp [*, errW_none, errW_some] <;> rfl), by (with_reducible repeat (first | apply Kd.R_alloc | apply Kd.R_drewN | apply Kd.R_drew)); exact Kd.R_mono (Kd.R_far (p := ⟨gb139, 2, none⟩) (Kd.R_far (p := ⟨gb139, 1, none⟩) (Kd.R_far (p := ⟨gb139, 0, none⟩) (Kd.R_types HO144.out BK139.out (by decide)) (fun _ hk => hk.2) (.int .i64 t140)) (fun _ hk => hk.2) (.int .i64 t141)) (fun _ hk => hk.2) (.slice Ao6 t142.length co6)) (fun _ hk => trivial), by repeat (first | (with_reducible first | exact HB.out | apply below_alloc | apply pw_below_drewN | apply below_drew1 | refine below_set ?_ GE139.out) | exact HB.out)⟩

/-! ### impl_within: function 18 -/
def impl_within.f (a0 : Int) (a1 : Int) (a2 : Int) : Option (Bool) := if a0 ≥ a1 then (some (decide (a0 ≤ a2))) else (some false)
set_option maxHeartbeats 8000000 in
set_option maxRecDepth 100000 in
theorem impl_within.calls (a0 : Int) (a1 : Int) (a2 : Int) (r : Bool) (w : World) (h : impl_within.f a0 a1 a2 = some r) :
    Calls Tryd.prog 18 #[.int .i64 a0, .int .i64 a1, .int .i64 a2] w fun e w' => e = .returned (.bool r) ∧ Drawn0 w w' := by
  have H : (if a0 ≥ a1 then (some (decide (a0 ≤ a2))) else (some false)) = some r := h
  clear h
  by_cases c4 : a0 ≥ a1
  · rw [if_pos c4] at H
    have c4b0 : decide (a1 ≤ a0) = true := decide_eq_true c4
    clear c4
    obtain rfl := Option.some.inj H
    go_enter Tryd.func18, Tryd.ntmps18
    go_wp2
    go_ret
    exact ⟨by first | rfl | (simp; done) | (simp [*]; done) | (simp [i64_w, i32_w]; done), by repeat (first | exact Drawn0.refl _ | apply Drawn0.step)⟩
  · rw [if_neg c4] at H
    have c4b0 : decide (a1 ≤ a0) = false := decide_eq_false c4
    clear c4
    obtain rfl := Option.some.inj H
    go_enter Tryd.func18, Tryd.ntmps18
    go_wp2
    go_ret
    exact ⟨by first | rfl | (simp; done) | (simp [*]; done) | (simp [i64_w, i32_w]; done), by repeat (first | exact Drawn0.refl _ | apply Drawn0.step)⟩

-- NOT PRINTED: function 25 (slices_IndexFunc_int64_int64)

-- NOT PRINTED: function 19 (slices_ContainsFunc_int64_int64)

/-! ### impl_ValidShape_1: function 20 -/
def impl_ValidShape_1.f (a0 : Int) : Option (Bool) := (impl_within.f a0 0 1).bind fun t146 => (some (!t146))
set_option maxHeartbeats 8000000 in
set_option maxRecDepth 100000 in
theorem impl_ValidShape_1.calls (a0 : Int) (r : Bool) (w : World) (h : impl_ValidShape_1.f a0 = some r) :
    Calls Tryd.prog 20 #[.int .i64 a0] w fun e w' => e = .returned (.bool r) ∧ Drawn0 w w' := by
  have H : ((impl_within.f a0 0 1).bind fun t146 => (some (!t146))) = some r := h
  clear h
  replace H := Option.bind_eq_some_iff.mp H
  obtain ⟨t146, A20, H⟩ := H
  replace H : (some (!t146)) = some r := H
  have A2 := Aside0.mk A20
  clear A20
  obtain rfl := Option.some.inj H
  go_enter Tryd.func20, Tryd.ntmps20
  go_wp2_with (first | ((with_reducible refine gate_callee (f := 18) rfl ?_); refine goesL_ (some 4) rfl rfl Tryd.func18 (by kernel_rfl) rfl #[.int .i64 a0, .int .i64 0, .int .i64 1] rfl (by (try simp only [List.map_toArray, List.map_cons, List.map_nil]); first | done | rfl | (simp only [List.length_drop, List.length_take]; rfl)) ?_; (with_reducible refine (impl_within.calls a0 0 1 t146 _ A2.out).mono ?_); rintro e w' ⟨rfl, ⟨nd, rfl⟩⟩; refine ⟨_, rfl, ?_⟩))
  go_ret
  exact ⟨by first | rfl | (simp; done) | (simp [*]; done) | (simp [i64_w, i32_w]; done), by repeat (first | exact Drawn0.refl _ | apply Drawn0.step)⟩

/-! ### fi25_20: function 100001 -/
def fi25_20.l0 : Nat → List Int → Int → Int → Option (Int)
  | 0, _, _, _ => none
  | k + 1, x0, x7, x8 => if x8 < x7 then (if 0 ≤ x8 then (if x8 < (x0.length : Int) then ((impl_ValidShape_1.f (rd x0 x8)).bind fun t148 => (if t148 = true then (some x8) else (fi25_20.l0 k x0 x7 (wrap64 (x8 + 1))))) else (none)) else (none)) else (some (-1))
def fi25_20.f (k : Nat) (l0 : List Int)  : Option (Int) := fi25_20.l0 k l0 (l0.length : Int) 0
theorem fi25_20.mono_l : ∀ k, (∀ y0 y1 y2, LeO (fi25_20.l0 k y0 y1 y2) (fi25_20.l0 (k + 1) y0 y1 y2))
  | 0 => fun _ _ _ r h => by simp [fi25_20.l0] at h
  | k + 1 => by
    have ih0 := fi25_20.mono_l k
    · intro y0 y1 y2
      unfold fi25_20.l0
      repeat' first
      | (with_reducible exact ih0 _ _ _)
      | (with_reducible exact LeO.refl _)
      | (with_reducible exact LeO.none _)
      | (with_reducible refine LeO.ite ?_ ?_)
      | (with_reducible refine LeO.bind ?_ (fun _ => ?_))
      | exact ih0 _ _ _
      | exact LeO.none _
      | refine LeO.ite ?_ ?_
      | refine LeO.bind ?_ (fun _ => ?_)
theorem fi25_20.mono : ∀ a0 k, LeO (fi25_20.f k a0) (fi25_20.f (k + 1) a0) := by
  intro a0 k
  have ih0 := fi25_20.mono_l k
  unfold fi25_20.f
  repeat' first
      | (with_reducible exact ih0 _ _ _)
      | (with_reducible exact LeO.refl _)
      | (with_reducible exact LeO.none _)
      | (with_reducible refine LeO.ite ?_ ?_)
      | (with_reducible refine LeO.bind ?_ (fun _ => ?_))
      | exact ih0 _ _ _
      | exact LeO.none _
      | refine LeO.ite ?_ ?_
      | refine LeO.bind ?_ (fun _ => ?_)
set_option maxHeartbeats 8000000 in
set_option maxRecDepth 100000 in
theorem fi25_20.calls (k : Nat) (A0 : Option Addr) (c0 : Nat) (l0 : List Int)  (r : Int) (w : World) (hr0 : Kd.C (Kd.int .i64) w A0 l0.length l0) (hc0 : l0.length ≤ c0) (h : fi25_20.f k l0 = some r) :
    Calls Tryd.prog 25 #[.slice A0 l0.length c0, .func (.func 20) #[] #[]] w fun e w' => e = .returned (.int .i64 r) ∧ Drawn0 w w' := by
  have HR0 := Aside0.mk hr0
  have HC0 := Aside0.mk hc0
  clear hr0 hc0
  have H : (fi25_20.l0 k l0 (l0.length : Int) 0) = some r := h
  clear h
  have H' := Aside0.mk H
  clear H
  go_enter Tryd.func25, Tryd.ntmps25
  go_wp2
  go_loopg [8] k (fun kq v8 w' => ∃ (x8_1 : Int), v8 = .int .i64 x8_1 ∧ Aside0 (fi25_20.l0 kq l0 (l0.length : Int) x8_1 = some r) ∧ Aside0 (kq ≤ k) ∧ Drawn0 w w')
  case atStart => exact ⟨(0), (by first | rfl | (simp; done) | (simp [*]; done) | (simp [i64_w, i32_w]; done)), H', ⟨Nat.le_refl _⟩, by repeat (first | exact Drawn0.refl _ | apply Drawn0.step)⟩
  case round =>
    clear H'
    try clear c2
    try clear p2
    obtain ⟨x8_1, rfl, HA, HK1, ⟨m1, rfl⟩⟩ := hrel
    cases gk with
    | zero => exact absurd HA.out (by simp [fi25_20.l0])
    | succ k1 =>
      have H := HA.out
      clear HA
      simp only [fi25_20.l0] at H
      by_cases c3 : x8_1 < (l0.length : Int)
      · rw [if_pos c3] at H
        have c3b0 : decide (x8_1 < (l0.length : Int)) = true := decide_eq_true c3
        clear c3
        by_cases c4 : 0 ≤ x8_1
        · rw [if_pos c4] at H
          have c4b0 : decide (0 ≤ x8_1) = true := decide_eq_true c4
          clear c4
          by_cases c5 : x8_1 < (l0.length : Int)
          · rw [if_pos c5] at H
            have c5b0 : decide (x8_1 < (l0.length : Int)) = true := decide_eq_true c5
            clear c5
            replace H := Option.bind_eq_some_iff.mp H
            obtain ⟨t148, A60, H⟩ := H
            replace H : (if t148 = true then (some x8_1) else (fi25_20.l0 k1 l0 (l0.length : Int) (wrap64 (x8_1 + 1)))) = some r := H
            have A6 := Aside0.mk A60
            clear A60
            by_cases c7 : t148 = true
            · subst c7
              have H1 : (some x8_1) = some r := by rw [if_pos rfl] at H; exact H
              clear H
              have H := H1
              clear H1
              obtain rfl := Option.some.inj H
              have p147 : 0 ≤ (x8_1 : Int) := of_decide_eq_true (by first | (with_reducible assumption) | assumption)
              have q147 : x8_1 < (l0.length : Int) := of_decide_eq_true (by first | (with_reducible assumption) | assumption)
              obtain ⟨ad147, e147, hx147_0⟩ := Kd.at_int HR0.out x8_1 p147 q147
              cases e147
              replace p147 := eq_true p147
              replace q147 := eq_true q147
              go_wp2_with (first | (go_at_call 20; (with_reducible refine (impl_ValidShape_1.calls (rd l0 x8_1) true _ A6.out).mono ?_); rintro e w' ⟨rfl, ⟨nd, rfl⟩⟩))
              go_ret
              exact ⟨by first | rfl | (simp; done) | (simp [*]; done) | (simp [i64_w, i32_w]; done), by repeat (first | exact Drawn0.refl _ | apply Drawn0.step)⟩
            · replace c7 := Bool.eq_false_iff.mpr c7
              subst c7
              have H1 : (fi25_20.l0 k1 l0 (l0.length : Int) (wrap64 (x8_1 + 1))) = some r := by rw [if_neg (show ¬ (false = true) by decide)] at H; exact H
              clear H
              have H := H1
              clear H1
              have H' := Aside0.mk H
              clear H
              have p147 : 0 ≤ (x8_1 : Int) := of_decide_eq_true (by first | (with_reducible assumption) | assumption)
              have q147 : x8_1 < (l0.length : Int) := of_decide_eq_true (by first | (with_reducible assumption) | assumption)
              obtain ⟨ad147, e147, hx147_0⟩ := Kd.at_int HR0.out x8_1 p147 q147
              cases e147
              replace p147 := eq_true p147
              replace q147 := eq_true q147
              go_wp2_with (first | (go_at_call 20; (with_reducible refine (impl_ValidShape_1.calls (rd l0 x8_1) false _ A6.out).mono ?_); rintro e w' ⟨rfl, ⟨nd, rfl⟩⟩))
              go_roundg k1
              case measure => have := HK1.out; omega
              case rel => exact ⟨(wrap64 (x8_1 + 1)), (by first | rfl | (simp; done) | (simp [*]; done) | (simp [i64_w, i32_w]; done)), H', ⟨by have := HK1.out; omega⟩, by repeat (first | exact Drawn0.refl _ | apply Drawn0.step)⟩
          · rw [if_neg c5] at H
            exact absurd H (by simp)
        · rw [if_neg c4] at H
          exact absurd H (by simp)
      · rw [if_neg c3] at H
        have c3b0 : decide (x8_1 < (l0.length : Int)) = false := decide_eq_false c3
        clear c3
        obtain rfl := Option.some.inj H
        go_wp2
        go_ret
        exact ⟨by first | rfl | (simp; done) | (simp [*]; done) | (simp [i64_w, i32_w]; done), by repeat (first | exact Drawn0.refl _ | apply Drawn0.step)⟩

/-! ### fi19_20: function 100000 -/
def fi19_20.f (k : Nat) (l0 : List Int)  : Option (Bool) := (fi25_20.f k l0).bind fun t149 => (some (decide (t149 ≥ 0)))
theorem fi19_20.mono : ∀ a0 k, LeO (fi19_20.f k a0) (fi19_20.f (k + 1) a0) := by
  intro a0 k
  unfold fi19_20.f
  repeat' first
      | (with_reducible exact fi25_20.mono _ _)
      | (with_reducible exact LeO.refl _)
      | (with_reducible exact LeO.none _)
      | (with_reducible refine LeO.ite ?_ ?_)
      | (with_reducible refine LeO.bind ?_ (fun _ => ?_))
      | exact fi25_20.mono _ _
      | exact LeO.none _
      | refine LeO.ite ?_ ?_
      | refine LeO.bind ?_ (fun _ => ?_)
set_option maxHeartbeats 8000000 in
set_option maxRecDepth 100000 in
theorem fi19_20.calls (k : Nat) (A0 : Option Addr) (c0 : Nat) (l0 : List Int)  (r : Bool) (w : World) (hr0 : Kd.C (Kd.int .i64) w A0 l0.length l0) (hc0 : l0.length ≤ c0) (h : fi19_20.f k l0 = some r) :
    Calls Tryd.prog 19 #[.slice A0 l0.length c0, .func (.func 20) #[] #[]] w fun e w' => e = .returned (.bool r) ∧ Drawn0 w w' := by
  have HR0 := Aside0.mk hr0
  have HC0 := Aside0.mk hc0
  clear hr0 hc0
  have H : ((fi25_20.f k l0).bind fun t149 => (some (decide (t149 ≥ 0)))) = some r := h
  clear h
  replace H := Option.bind_eq_some_iff.mp H
  obtain ⟨t149, A30, H⟩ := H
  replace H : (some (decide (t149 ≥ 0))) = some r := H
  have A3 := Aside0.mk A30
  clear A30
  obtain rfl := Option.some.inj H
  go_enter Tryd.func19, Tryd.ntmps19
  go_wp2_with (first | ((with_reducible refine gate_callee (f := 25) rfl ?_); refine goesL_ (some 7) rfl rfl Tryd.func25 (by kernel_rfl) rfl #[.slice A0 l0.length c0, .func (.func 20) #[] #[]] rfl (by (try simp only [List.map_toArray, List.map_cons, List.map_nil]); first | done | rfl | (simp only [List.length_drop, List.length_take]; rfl)) ?_; (with_reducible refine (fi25_20.calls k _ _ l0  t149 _ ?side1 ?side2 A3.out).mono ?_); (case side1 => repeat (first | exact HR0.out | (with_reducible refine Kd.C_alloc ?_ _) | (with_reducible refine Kd.C_drewN ?_ _) | (with_reducible refine Kd.C_drew ?_))); (case side2 => exact HC0.out); rintro e w' ⟨rfl, ⟨nd, rfl⟩⟩; refine ⟨_, rfl, ?_⟩))
  go_ret
  exact ⟨by first | rfl | (simp; done) | (simp [*]; done) | (simp [i64_w, i32_w]; done), by repeat (first | exact Drawn0.refl _ | apply Drawn0.step)⟩

/-! ### impl_ValidShape: function 11 -/
def impl_ValidShape.f (k : Nat) (a0_0 : Int) (a0_1 : Int) (l0_2 : List Int) : Option (Bool) := (impl_within.f a0_0 1 12).bind fun t151 => (if t151 = true then ((impl_within.f a0_1 1 12).bind fun t152 => (if t152 = true then (if (l0_2.length : Int) = (wrap64 (a0_0 * a0_1)) then ((fi19_20.f k l0_2).bind fun t153 => (some (!t153))) else (some false)) else (some false))) else (some false))
theorem impl_ValidShape.mono : ∀ a0 a1 a2 k, LeO (impl_ValidShape.f k a0 a1 a2) (impl_ValidShape.f (k + 1) a0 a1 a2) := by
  intro a0 a1 a2 k
  unfold impl_ValidShape.f
  repeat' first
      | (with_reducible exact fi19_20.mono _ _)
      | (with_reducible exact LeO.refl _)
      | (with_reducible exact LeO.none _)
      | (with_reducible refine LeO.ite ?_ ?_)
      | (with_reducible refine LeO.bind ?_ (fun _ => ?_))
      | exact fi19_20.mono _ _
      | exact LeO.none _
      | refine LeO.ite ?_ ?_
      | refine LeO.bind ?_ (fun _ => ?_)
set_option maxHeartbeats 8000000 in
set_option maxRecDepth 100000 in
theorem impl_ValidShape.calls (k : Nat) (a0_0 : Int) (a0_1 : Int) (A0_2 : Option Addr) (c0_2 : Nat) (l0_2 : List Int) (r : Bool) (w : World) (hr0_2 : Kd.C (Kd.int .i64) w A0_2 l0_2.length l0_2) (hc0_2 : l0_2.length ≤ c0_2) (h : impl_ValidShape.f k a0_0 a0_1 l0_2 = some r) :
    Calls Tryd.prog 11 #[.agg #[.int .i64 a0_0, .int .i64 a0_1, .slice A0_2 l0_2.length c0_2]] w fun e w' => e = .returned (.bool r) ∧ Below w.heap.size w w' := by
  have hu24 := Tryd.underlying24
  have HR0_2 := Aside0.mk hr0_2
  have HC0_2 := Aside0.mk hc0_2
  clear hr0_2 hc0_2
  have HB := Aside0.mk (Below.refl w.heap.size w)
  have H : ((impl_within.f a0_0 1 12).bind fun t151 => (if t151 = true then ((impl_within.f a0_1 1 12).bind fun t152 => (if t152 = true then (if (l0_2.length : Int) = (wrap64 (a0_0 * a0_1)) then ((fi19_20.f k l0_2).bind fun t153 => (some (!t153))) else (some false)) else (some false))) else (some false))) = some r := h
  clear h
  replace H := Option.bind_eq_some_iff.mp H
  obtain ⟨t151, A20, H⟩ := H
  replace H : (if t151 = true then ((impl_within.f a0_1 1 12).bind fun t152 => (if t152 = true then (if (l0_2.length : Int) = (wrap64 (a0_0 * a0_1)) then ((fi19_20.f k l0_2).bind fun t153 => (some (!t153))) else (some false)) else (some false))) else (some false)) = some r := H
  have A2 := Aside0.mk A20
  clear A20
  by_cases c3 : t151 = true
  · subst c3
    have H1 : ((impl_within.f a0_1 1 12).bind fun t152 => (if t152 = true then (if (l0_2.length : Int) = (wrap64 (a0_0 * a0_1)) then ((fi19_20.f k l0_2).bind fun t153 => (some (!t153))) else (some false)) else (some false))) = some r := by rw [if_pos rfl] at H; exact H
    clear H
    have H := H1
    clear H1
    replace H := Option.bind_eq_some_iff.mp H
    obtain ⟨t152, A40, H⟩ := H
    replace H : (if t152 = true then (if (l0_2.length : Int) = (wrap64 (a0_0 * a0_1)) then ((fi19_20.f k l0_2).bind fun t153 => (some (!t153))) else (some false)) else (some false)) = some r := H
    have A4 := Aside0.mk A40
    clear A40
    by_cases c5 : t152 = true
    · subst c5
      have H1 : (if (l0_2.length : Int) = (wrap64 (a0_0 * a0_1)) then ((fi19_20.f k l0_2).bind fun t153 => (some (!t153))) else (some false)) = some r := by rw [if_pos rfl] at H; exact H
      clear H
      have H := H1
      clear H1
      by_cases c6 : (l0_2.length : Int) = (wrap64 (a0_0 * a0_1))
      · rw [if_pos c6] at H
        have c6b0 : ((l0_2.length : Int) == (wrap64 (a0_0 * a0_1))) = true := beq_iff_eq.mpr c6
        have c6b1 : ((l0_2.length : Int) != (wrap64 (a0_0 * a0_1))) = false := bne_eq_false_iff_eq.mpr c6
        clear c6
        replace H := Option.bind_eq_some_iff.mp H
        obtain ⟨t153, A70, H⟩ := H
        replace H : (some (!t153)) = some r := H
        have A7 := Aside0.mk A70
        clear A70
        obtain rfl := Option.some.inj H
        go_enter Tryd.func11, Tryd.ntmps11
        go_wp2_with (first | ((with_reducible refine gate_dst (N := 1) rfl ?_); (try (refine gate_guard (by rfl) ?_; dsimp only)); refine box_event ?hg (N := 1) ?hd (cs := #[.int .i64 a0_0, .int .i64 a0_1, .slice A0_2 l0_2.length c0_2]) (t := 24) ?hr ?_; (case hd => rfl); (case hg => rfl); (case hr => first | (go_simp; done) | (go_simp; rfl)); intro gb150 hg w8 hbox hb; have n0_ := Aside0.mk (below_step (by repeat (first | (with_reducible first | exact HB.out | apply below_alloc | apply pw_below_drewN | apply below_drew1) | exact HB.out)) hb); have n1_ := Aside0.mk (hbox); have n2_ := Aside0.mk ((by rw [hg]; exact (below_size (by repeat (first | (with_reducible first | exact HB.out | apply below_alloc | apply pw_below_drewN | apply below_drew1) | exact HB.out))) : w.heap.size ≤ gb150)); have n3_ := Aside0.mk ((by rw [hg]; exact (below_size (by repeat (first | (with_reducible first | exact HB.out | apply below_alloc | apply pw_below_drewN | apply below_drew1) | exact HB.out))) : w.heap.size ≤ gb150)); clear HB; have HB := n0_; have BK150 := n1_; have GW150 := n2_; have GE150 := n3_; clear n0_ n1_ n2_ n3_; clear hb hbox hg; have hcz9_0 : w8.cell? ⟨gb150, 0, none⟩ = some (.int .i64 a0_0) := (blk_cell BK150.out 0).trans rfl; have hcz9_1 : w8.cell? ⟨gb150, 1, none⟩ = some (.int .i64 a0_1) := (blk_cell BK150.out 1).trans rfl; have hcz9_2 : w8.cell? ⟨gb150, 2, none⟩ = some (.slice A0_2 l0_2.length c0_2) := (blk_cell BK150.out 2).trans rfl; have hfz9_0 := blk_frozen BK150.out 0; have hfz9_1 := blk_frozen BK150.out 1; have hfz9_2 := blk_frozen BK150.out 2) | ((with_reducible refine gate_callee (f := 18) rfl ?_); refine goesL_ (some 5) rfl rfl Tryd.func18 (by kernel_rfl) rfl #[.int .i64 a0_0, .int .i64 1, .int .i64 12] rfl (by (try simp only [List.map_toArray, List.map_cons, List.map_nil]); first | done | rfl | (simp only [List.length_drop, List.length_take]; rfl)) ?_; (with_reducible refine (impl_within.calls a0_0 1 12 true _ A2.out).mono ?_); rintro e w' ⟨rfl, ⟨nd, rfl⟩⟩; refine ⟨_, rfl, ?_⟩) | (go_at_call 18; (with_reducible refine (impl_within.calls a0_1 1 12 true _ A4.out).mono ?_); rintro e w' ⟨rfl, ⟨nd, rfl⟩⟩) | (go_at_call 19; (with_reducible refine (fi19_20.calls k _ _ l0_2  t153 _ ?side1 ?side2 A7.out).mono ?_); (case side1 => repeat (first | exact (Kd.C_below HR0_2.out (by repeat (first | (with_reducible first | exact HB.out | apply below_alloc | apply pw_below_drewN | apply below_drew1 | refine below_set ?_ GE150.out) | exact HB.out))) | (with_reducible refine Kd.C_alloc ?_ _) | (with_reducible refine Kd.C_drewN ?_ _) | (with_reducible refine Kd.C_drew ?_))); (case side2 => exact HC0_2.out); rintro e w' ⟨rfl, ⟨nd, rfl⟩⟩))
        go_ret
        exact ⟨by first | rfl | (simp [errW_none, errW_some] <;> rfl) | (simp [*, errW_none, errW_some] <;> rfl), by repeat (first | (with_reducible first | exact HB.out | apply below_alloc | apply pw_below_drewN | apply below_drew1 | refine below_set ?_ GE150.out) | exact HB.out)⟩
      · rw [if_neg c6] at H
        have c6b0 : ((l0_2.length : Int) == (wrap64 (a0_0 * a0_1))) = false := beq_eq_false_iff_ne.mpr c6
        have c6b1 : ((l0_2.length : Int) != (wrap64 (a0_0 * a0_1))) = true := bne_iff_ne.mpr c6
        obtain rfl := Option.some.inj H
        go_enter Tryd.func11, Tryd.ntmps11
        go_wp2_with (first | ((with_reducible refine gate_dst (N := 1) rfl ?_); (try (refine gate_guard (by rfl) ?_; dsimp only)); refine box_event ?hg (N := 1) ?hd (cs := #[.int .i64 a0_0, .int .i64 a0_1, .slice A0_2 l0_2.length c0_2]) (t := 24) ?hr ?_; (case hd => rfl); (case hg => rfl); (case hr => first | (go_simp; done) | (go_simp; rfl)); intro gb150 hg w10 hbox hb; have n0_ := Aside0.mk (below_step (by repeat (first | (with_reducible first | exact HB.out | apply below_alloc | apply pw_below_drewN | apply below_drew1) | exact HB.out)) hb); have n1_ := Aside0.mk (hbox); have n2_ := Aside0.mk ((by rw [hg]; exact (below_size (by repeat (first | (with_reducible first | exact HB.out | apply below_alloc | apply pw_below_drewN | apply below_drew1) | exact HB.out))) : w.heap.size ≤ gb150)); have n3_ := Aside0.mk ((by rw [hg]; exact (below_size (by repeat (first | (with_reducible first | exact HB.out | apply below_alloc | apply pw_below_drewN | apply below_drew1) | exact HB.out))) : w.heap.size ≤ gb150)); clear HB; have HB := n0_; have BK150 := n1_; have GW150 := n2_; have GE150 := n3_; clear n0_ n1_ n2_ n3_; clear hb hbox hg; have hcz11_0 : w10.cell? ⟨gb150, 0, none⟩ = some (.int .i64 a0_0) := (blk_cell BK150.out 0).trans rfl; have hcz11_1 : w10.cell? ⟨gb150, 1, none⟩ = some (.int .i64 a0_1) := (blk_cell BK150.out 1).trans rfl; have hcz11_2 : w10.cell? ⟨gb150, 2, none⟩ = some (.slice A0_2 l0_2.length c0_2) := (blk_cell BK150.out 2).trans rfl; have hfz11_0 := blk_frozen BK150.out 0; have hfz11_1 := blk_frozen BK150.out 1; have hfz11_2 := blk_frozen BK150.out 2) | ((with_reducible refine gate_callee (f := 18) rfl ?_); refine goesL_ (some 5) rfl rfl Tryd.func18 (by kernel_rfl) rfl #[.int .i64 a0_0, .int .i64 1, .int .i64 12] rfl (by (try simp only [List.map_toArray, List.map_cons, List.map_nil]); first | done | rfl | (simp only [List.length_drop, List.length_take]; rfl)) ?_; (with_reducible refine (impl_within.calls a0_0 1 12 true _ A2.out).mono ?_); rintro e w' ⟨rfl, ⟨nd, rfl⟩⟩; refine ⟨_, rfl, ?_⟩) | (go_at_call 18; (with_reducible refine (impl_within.calls a0_1 1 12 true _ A4.out).mono ?_); rintro e w' ⟨rfl, ⟨nd, rfl⟩⟩))
        go_ret
        exact ⟨by first | rfl | (simp [errW_none, errW_some] <;> rfl) | (simp [*, errW_none, errW_some] <;> rfl), by repeat (first | (with_reducible first | exact HB.out | apply below_alloc | apply pw_below_drewN | apply below_drew1 | refine below_set ?_ GE150.out) | exact HB.out)⟩
    · replace c5 := Bool.eq_false_iff.mpr c5
      subst c5
      have H1 : (some false) = some r := by rw [if_neg (show ¬ (false = true) by decide)] at H; exact H
      clear H
      have H := H1
      clear H1
      obtain rfl := Option.some.inj H
      go_enter Tryd.func11, Tryd.ntmps11
      go_wp2_with (first | ((with_reducible refine gate_dst (N := 1) rfl ?_); (try (refine gate_guard (by rfl) ?_; dsimp only)); refine box_event ?hg (N := 1) ?hd (cs := #[.int .i64 a0_0, .int .i64 a0_1, .slice A0_2 l0_2.length c0_2]) (t := 24) ?hr ?_; (case hd => rfl); (case hg => rfl); (case hr => first | (go_simp; done) | (go_simp; rfl)); intro gb150 hg w12 hbox hb; have n0_ := Aside0.mk (below_step (by repeat (first | (with_reducible first | exact HB.out | apply below_alloc | apply pw_below_drewN | apply below_drew1) | exact HB.out)) hb); have n1_ := Aside0.mk (hbox); have n2_ := Aside0.mk ((by rw [hg]; exact (below_size (by repeat (first | (with_reducible first | exact HB.out | apply below_alloc | apply pw_below_drewN | apply below_drew1) | exact HB.out))) : w.heap.size ≤ gb150)); have n3_ := Aside0.mk ((by rw [hg]; exact (below_size (by repeat (first | (with_reducible first | exact HB.out | apply below_alloc | apply pw_below_drewN | apply below_drew1) | exact HB.out))) : w.heap.size ≤ gb150)); clear HB; have HB := n0_; have BK150 := n1_; have GW150 := n2_; have GE150 := n3_; clear n0_ n1_ n2_ n3_; clear hb hbox hg; have hcz13_0 : w12.cell? ⟨gb150, 0, none⟩ = some (.int .i64 a0_0) := (blk_cell BK150.out 0).trans rfl; have hcz13_1 : w12.cell? ⟨gb150, 1, none⟩ = some (.int .i64 a0_1) := (blk_cell BK150.out 1).trans rfl; have hcz13_2 : w12.cell? ⟨gb150, 2, none⟩ = some (.slice A0_2 l0_2.length c0_2) := (blk_cell BK150.out 2).trans rfl; have hfz13_0 := blk_frozen BK150.out 0; have hfz13_1 := blk_frozen BK150.out 1; have hfz13_2 := blk_frozen BK150.out 2) | ((with_reducible refine gate_callee (f := 18) rfl ?_); refine goesL_ (some 5) rfl rfl Tryd.func18 (by kernel_rfl) rfl #[.int .i64 a0_0, .int .i64 1, .int .i64 12] rfl (by (try simp only [List.map_toArray, List.map_cons, List.map_nil]); first | done | rfl | (simp only [List.length_drop, List.length_take]; rfl)) ?_; (with_reducible refine (impl_within.calls a0_0 1 12 true _ A2.out).mono ?_); rintro e w' ⟨rfl, ⟨nd, rfl⟩⟩; refine ⟨_, rfl, ?_⟩) | (go_at_call 18; (with_reducible refine (impl_within.calls a0_1 1 12 false _ A4.out).mono ?_); rintro e w' ⟨rfl, ⟨nd, rfl⟩⟩))
      go_ret
      exact ⟨by first | rfl | (simp [errW_none, errW_some] <;> rfl) | (simp [*, errW_none, errW_some] <;> rfl), by repeat (first | (with_reducible first | exact HB.out | apply below_alloc | apply pw_below_drewN | apply below_drew1 | refine below_set ?_ GE150.out) | exact HB.out)⟩
  · replace c3 := Bool.eq_false_iff.mpr c3
    subst c3
    have H1 : (some false) = some r := by rw [if_neg (show ¬ (false = true) by decide)] at H; exact H
    clear H
    have H := H1
    clear H1
    obtain rfl := Option.some.inj H
    go_enter Tryd.func11, Tryd.ntmps11
    go_wp2_with (first | ((with_reducible refine gate_dst (N := 1) rfl ?_); (try (refine gate_guard (by rfl) ?_; dsimp only)); refine box_event ?hg (N := 1) ?hd (cs := #[.int .i64 a0_0, .int .i64 a0_1, .slice A0_2 l0_2.length c0_2]) (t := 24) ?hr ?_; (case hd => rfl); (case hg => rfl); (case hr => first | (go_simp; done) | (go_simp; rfl)); intro gb150 hg w14 hbox hb; have n0_ := Aside0.mk (below_step (by repeat (first | (with_reducible first | exact HB.out | apply below_alloc | apply pw_below_drewN | apply below_drew1) | exact HB.out)) hb); have n1_ := Aside0.mk (hbox); have n2_ := Aside0.mk ((by rw [hg]; exact (below_size (by repeat (first | (with_reducible first | exact HB.out | apply below_alloc | apply pw_below_drewN | apply below_drew1) | exact HB.out))) : w.heap.size ≤ gb150)); have n3_ := Aside0.mk ((by rw [hg]; exact (below_size (by repeat (first | (with_reducible first | exact HB.out | apply below_alloc | apply pw_below_drewN | apply below_drew1) | exact HB.out))) : w.heap.size ≤ gb150)); clear HB; have HB := n0_; have BK150 := n1_; have GW150 := n2_; have GE150 := n3_; clear n0_ n1_ n2_ n3_; clear hb hbox hg; have hcz15_0 : w14.cell? ⟨gb150, 0, none⟩ = some (.int .i64 a0_0) := (blk_cell BK150.out 0).trans rfl; have hcz15_1 : w14.cell? ⟨gb150, 1, none⟩ = some (.int .i64 a0_1) := (blk_cell BK150.out 1).trans rfl; have hcz15_2 : w14.cell? ⟨gb150, 2, none⟩ = some (.slice A0_2 l0_2.length c0_2) := (blk_cell BK150.out 2).trans rfl; have hfz15_0 := blk_frozen BK150.out 0; have hfz15_1 := blk_frozen BK150.out 1; have hfz15_2 := blk_frozen BK150.out 2) | ((with_reducible refine gate_callee (f := 18) rfl ?_); refine goesL_ (some 5) rfl rfl Tryd.func18 (by kernel_rfl) rfl #[.int .i64 a0_0, .int .i64 1, .int .i64 12] rfl (by (try simp only [List.map_toArray, List.map_cons, List.map_nil]); first | done | rfl | (simp only [List.length_drop, List.length_take]; rfl)) ?_; (with_reducible refine (impl_within.calls a0_0 1 12 false _ A2.out).mono ?_); rintro e w' ⟨rfl, ⟨nd, rfl⟩⟩; refine ⟨_, rfl, ?_⟩))
    go_ret
    exact ⟨by first | rfl | (simp [errW_none, errW_some] <;> rfl) | (simp [*, errW_none, errW_some] <;> rfl), by repeat (first | (with_reducible first | exact HB.out | apply below_alloc | apply pw_below_drewN | apply below_drew1 | refine below_set ?_ GE150.out) | exact HB.out)⟩

end Go.Proofs.YtakagkflgkoiiaaDoor.GFnExactReadShape

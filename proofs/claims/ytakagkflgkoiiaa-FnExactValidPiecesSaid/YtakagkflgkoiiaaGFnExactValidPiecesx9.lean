-- Written by the session's own program (gen.py) out of the translation's print. Lean checks it.
import Derived.Test.YtakagkflgkoiiaaGFnExactValidPiecesx0
import Derived.Test.YtakagkflgkoiiaaGFnExactValidPiecesx8
namespace Go.Proofs.Ytakagkflgkoiiaa.GFnExactValidPieces
open Go.RowKit Go.Proofs.YtakagkflgkoiiaaW.PrintWords Go.Proofs.YtakagkflgkoiiaaW.PrintLast Go.Proofs.YtakagkflgkoiiaaW.PrintMore
attribute [local go_sem] max2_int min2_int max_two min_two max_three min_three max_four min_four   -- for this text's walks alone
set_option linter.unusedVariables false
set_option linter.unusedSimpArgs false

/-! ### impl_ValidPieces: function 31 -/
def impl_ValidPieces.l0 : Nat → List (S53) → List (S53) → Int → Int → Option (Bool)
  | 0, _, _, _, _ => none
  | k + 1, x0, x5, x6, x7 => if x7 < x6 then (if 0 ≤ x7 then (if x7 < (x5.length : Int) then ((impl_validPiece.f k ((rd_T53 x5 x7).f0) ((rd_T53 x5 x7).f1) ((rd_T53 x5 x7).f2) ((rd_T53 x5 x7).f3)).bind fun t209 => (if t209 = true then (if x7 > 0 then (if 0 ≤ (wrap64 (x7 - 1)) then (if (wrap64 (x7 - 1)) < (x0.length : Int) then (if ((Op.bytesLess (((rd_T53 x0 (wrap64 (x7 - 1))).f0).toList) (((rd_T53 x5 x7).f0).toList)) = true) then (impl_ValidPieces.l0 k x0 x5 x6 (wrap64 (x7 + 1))) else (some false)) else (none)) else (none)) else (impl_ValidPieces.l0 k x0 x5 x6 (wrap64 (x7 + 1)))) else (some false))) else (none)) else (none)) else (some (decide ((x0.length : Int) ≤ 8)))
def impl_ValidPieces.f (k : Nat) (l0 : List (S53)) : Option (Bool) := impl_ValidPieces.l0 k l0 l0 (l0.length : Int) 0
theorem impl_ValidPieces.mono_l : ∀ k, (∀ y0 y1 y2 y3, LeO (impl_ValidPieces.l0 k y0 y1 y2 y3) (impl_ValidPieces.l0 (k + 1) y0 y1 y2 y3))
  | 0 => fun _ _ _ _ r h => by simp [impl_ValidPieces.l0] at h
  | k + 1 => by
    have ih0 := impl_ValidPieces.mono_l k
    · intro y0 y1 y2 y3
      unfold impl_ValidPieces.l0
      repeat' first
      | (with_reducible exact ih0 _ _ _ _)
      | (with_reducible exact impl_validPiece.mono _ _ _ _ _)
      | (with_reducible exact LeO.refl _)
      | (with_reducible exact LeO.none _)
      | (with_reducible refine LeO.ite ?_ ?_)
      | (with_reducible refine LeO.bind ?_ (fun _ => ?_))
      | exact ih0 _ _ _ _
      | exact impl_validPiece.mono _ _ _ _ _
      | exact LeO.none _
      | refine LeO.ite ?_ ?_
      | refine LeO.bind ?_ (fun _ => ?_)
theorem impl_ValidPieces.mono : ∀ a0 k, LeO (impl_ValidPieces.f k a0) (impl_ValidPieces.f (k + 1) a0) := by
  intro a0 k
  have ih0 := impl_ValidPieces.mono_l k
  unfold impl_ValidPieces.f
  repeat' first
      | (with_reducible exact ih0 _ _ _ _)
      | (with_reducible exact impl_validPiece.mono _ _ _ _ _)
      | (with_reducible exact LeO.refl _)
      | (with_reducible exact LeO.none _)
      | (with_reducible refine LeO.ite ?_ ?_)
      | (with_reducible refine LeO.bind ?_ (fun _ => ?_))
      | exact ih0 _ _ _ _
      | exact impl_validPiece.mono _ _ _ _ _
      | exact LeO.none _
      | refine LeO.ite ?_ ?_
      | refine LeO.bind ?_ (fun _ => ?_)
def impl_ValidPieces.T4 : Bool × List (List Nat × List Nat) := (true, [([], []), ([0], [0]), ([1], [1]), ([2, 1], [2]), ([3], [3]), ([4, 3], [3, 4]), ([5, 3, 3], [3, 5]), ([6], [6]), ([6], [6]), ([8, 6], [6, 8]), ([7, 9, 6], [6, 7, 9]), ([10, 6], [6, 10]), ([11, 6], [6, 11]), ([6], [6]), ([13, 6], [6, 13]), ([12, 14, 6], [6, 12, 14]), ([6, 15, 3], [3, 6, 15]), ([3, 16], [3, 16])])
def impl_ValidPieces.B4 : List Nat := [0, 1, 3, 7, 15, 31, 63, 127, 127, 383, 1023, 2047, 4095, 127, 8319, 32767, 65535, 131071]
theorem impl_ValidPieces.tab4 : rtab .any (opsOf Try.f31 4) = impl_ValidPieces.T4 := by kernel_rfl
theorem impl_ValidPieces.bits4 : waitsOk impl_ValidPieces.T4.2 impl_ValidPieces.B4 = true := by kernel_rfl
open List renaming setIfInBounds_toArray → sA, set_cons_zero → sB, set_cons_succ → sC
open Go.Proofs.YtakagkflgkoiiaaW.PrintWords.Aside0 renaming mk → mkA
open Go.Proofs.YtakagkflgkoiiaaX (dt_ bc_ p0_ p1_ bl_ cb_ bs0_ bs1_ bs2_ bs3_ bs4_ bs5_ bs6_ bs7_ bs8_ bs9_ bs10_ bs11_ bs12_)
abbrev impl_ValidPieces.d0 : Array Bool := #[false, false, false, false, false, false, false, false, false, false, false, false, false, false, false, false, false, false]
abbrev impl_ValidPieces.d1 : Array Bool := #[true, false, false, false, false, false, false, false, false, false, false, false, false, false, false, false, false, false]
abbrev impl_ValidPieces.d2 : Array Bool := #[true, true, false, false, false, false, false, false, false, false, false, false, false, false, false, false, false, false]
abbrev impl_ValidPieces.d3 : Array Bool := #[true, true, true, false, false, false, false, false, false, false, false, false, false, false, false, false, false, false]
abbrev impl_ValidPieces.d4 : Array Bool := #[true, true, true, true, false, false, false, false, false, false, false, false, false, false, false, false, false, false]
abbrev impl_ValidPieces.d5 : Array Bool := #[true, true, true, true, true, false, false, false, false, false, false, false, false, false, false, false, false, false]
abbrev impl_ValidPieces.d6 : Array Bool := #[true, true, true, true, true, true, false, false, false, false, false, false, false, false, false, false, false, false]
abbrev impl_ValidPieces.d7 : Array Bool := #[true, true, true, true, true, true, true, false, false, false, false, false, false, false, false, false, false, false]
abbrev impl_ValidPieces.d8 : Array Bool := #[true, true, true, true, true, true, true, true, false, false, false, false, false, false, false, false, false, false]
abbrev impl_ValidPieces.d9 : Array Bool := #[true, true, true, true, true, true, true, true, true, false, false, false, false, false, false, false, false, false]
abbrev impl_ValidPieces.d10 : Array Bool := #[true, true, true, true, true, true, true, true, true, true, false, false, false, false, false, false, false, false]
abbrev impl_ValidPieces.d11 : Array Bool := #[true, true, true, true, true, true, true, true, true, true, true, false, false, false, false, false, false, false]
abbrev impl_ValidPieces.d12 : Array Bool := #[true, true, true, true, true, true, true, true, true, true, true, true, false, false, false, false, false, false]
abbrev impl_ValidPieces.d13 : Array Bool := #[true, true, true, true, true, true, true, true, true, true, true, true, false, true, false, false, false, false]
abbrev impl_ValidPieces.d14 : Array Bool := #[true, true, true, true, true, true, true, true, true, true, true, true, true, true, false, false, false, false]
abbrev impl_ValidPieces.d15 : Array Bool := #[true, true, true, true, true, true, true, true, true, true, true, true, true, true, true, false, false, false]
abbrev impl_ValidPieces.d16 : Array Bool := #[true, true, true, true, true, true, true, true, true, true, true, true, true, true, true, true, false, false]
abbrev impl_ValidPieces.d17 : Array Bool := #[true, true, true, true, true, true, true, true, true, true, true, true, true, true, true, true, true, false]
abbrev impl_ValidPieces.d18 : Array Bool := #[true, true, true, true, true, true, true, true, true, true, true, true, true, true, true, true, true, true]
abbrev impl_ValidPieces.d19 : Array Bool := #[true, true, true, true, true, true, true, true, true, true, true, true, true, false, false, false, false, false]
set_option maxHeartbeats 8000000 in
set_option maxRecDepth 100000 in
theorem impl_ValidPieces.calls (k : Nat) (A0 : Option Addr) (c0 : Nat) (l0 : List (S53)) (r : Bool) (w : World) (hr0 : Kd.C k53 w A0 l0.length l0) (hc0 : l0.length ≤ c0) (h : impl_ValidPieces.f k l0 = some r) :
 Calls Try.prog 31 #[.slice A0 l0.length c0] w fun e w' => e = .returned (.bool r) ∧ Below w.heap.size w w' := by
 have hu53 := Try.underlying53
 have HR0 := mkA hr0
 have HC0 := mkA hc0
 clear hr0 hc0
 have HB := mkA (Below.refl w.heap.size w)
 have H : (impl_ValidPieces.l0 k l0 l0 (l0.length : Int) 0) = some r := h
 clear h
 have H' := mkA H
 clear H
 go_enter Try.func31, Try.ntmps31
 go_wp2
 go_loopg [7] k (fun kq v7 w' => ∃ (x7_1 : Int), v7 = .int .i64 x7_1 ∧ Aside0 (impl_ValidPieces.l0 kq l0 l0 (l0.length : Int) x7_1 = some r) ∧ Aside0 (kq ≤ k) ∧ Aside0 (Below w.heap.size w w'))
 case atStart => exact ⟨(0), (by first | rfl | (simp; done) | (simp [*]; done) | (simp [i64_w, i32_w]; done)), H', ⟨Nat.le_refl _⟩, ⟨by repeat (first | (with_reducible first | exact HB.out | apply below_alloc | apply pw_below_drewN | apply below_drew1) | exact HB.out)⟩⟩
 case round =>
  clear H'
  obtain ⟨x7_1, rfl, HA, HK1, HB⟩ := hrel
  cases gk with
  | zero => exact absurd HA.out (by simp [impl_ValidPieces.l0])
  | succ k1 =>
   have H := HA.out
   clear HA
   simp only [impl_ValidPieces.l0] at H
   by_cases c2 : x7_1 < (l0.length : Int)
   rotate_left
   · rw [if_neg c2] at H
     have c2b0 : decide (x7_1 < (l0.length : Int)) = false := decide_eq_false c2
     clear c2
     obtain rfl := Option.some.inj H
     go_wp2
     go_ret
     exact ⟨by first | rfl | (simp [errW_none, errW_some] <;> rfl) | (simp [*, errW_none, errW_some] <;> rfl), by repeat (first | (with_reducible first | exact HB.out | apply below_alloc | apply pw_below_drewN | apply below_drew1) | exact HB.out)⟩

   rw [if_pos c2] at H
   have c2b0 : decide (x7_1 < (l0.length : Int)) = true := decide_eq_true c2
   clear c2
   by_cases c3 : 0 ≤ x7_1
   rotate_left
   · rw [if_neg c3] at H
     exact absurd H (by simp)
   rw [if_pos c3] at H
   have c3b0 : decide (0 ≤ x7_1) = true := decide_eq_true c3
   clear c3
   by_cases c4 : x7_1 < (l0.length : Int)
   rotate_left
   · rw [if_neg c4] at H
     exact absurd H (by simp)
   rw [if_pos c4] at H
   have c4b0 : decide (x7_1 < (l0.length : Int)) = true := decide_eq_true c4
   clear c4
   replace H := Option.bind_eq_some_iff.mp H
   obtain ⟨t209, A50, H⟩ := H
   replace H : (if t209 = true then (if x7_1 > 0 then (if 0 ≤ (wrap64 (x7_1 - 1)) then (if (wrap64 (x7_1 - 1)) < (l0.length : Int) then (if ((Op.bytesLess (((rd_T53 l0 (wrap64 (x7_1 - 1))).f0).toList) (((rd_T53 l0 x7_1).f0).toList)) = true) then (impl_ValidPieces.l0 k1 l0 l0 (l0.length : Int) (wrap64 (x7_1 + 1))) else (some false)) else (none)) else (none)) else (impl_ValidPieces.l0 k1 l0 l0 (l0.length : Int) (wrap64 (x7_1 + 1)))) else (some false)) = some r := H
   have A5 := mkA A50
   clear A50
   by_cases c6 : t209 = true
   rotate_left
   · replace c6 := Bool.eq_false_iff.mpr c6
     subst c6
     have H1 : (some false) = some r := by rw [if_neg (show ¬ (false = true) by decide)] at H; exact H
     clear H
     have H := H1
     clear H1
     obtain rfl := Option.some.inj H
     have p207 : 0 ≤ (x7_1 : Int) := dt_
     have q207 : x7_1 < (l0.length : Int) := dt_
     obtain ⟨ad207, A207_1, c207_1, e207, hx207_0, hx207_1, hx207_2, hx207_3, hl207_1, hi207_1⟩ := at_T53 HR0.out x7_1 p207 q207
     cases e207
     replace hx207_0 := bc_ HB.out hx207_0
     replace hx207_1 := bc_ HB.out hx207_1
     replace hx207_2 := bc_ HB.out hx207_2
     replace hx207_3 := bc_ HB.out hx207_3
     have HR207_1 := mkA hi207_1
     have HC207_1 := mkA hl207_1
     clear hi207_1 hl207_1
     replace p207 := eq_true p207
     replace q207 := eq_true q207
     try go_wp2_with (first | ((with_reducible refine gate_dst (N := 4) rfl ?_); refine box_event ?hg (N := 4) ?hd (cs := #[.string (⟨#[]⟩ : ByteArray), .slice none 0 0, .int .i64 0, .bool false]) (t := 53) ?hr ?_; (case hd => rfl); (case hg => rfl); (case hr => first | (go_simp; done) | (go_simp; rfl)); intro gb208 hg w27 hbox hb; have n0_ := mkA (below_step (bs0_ HB.out) hb); have n1_ := mkA (hbox); have n2_ := mkA ((by rw [hg]; exact (below_size (bs0_ HB.out)) : w.heap.size ≤ gb208)); have n3_ := mkA ((by rw [hg]; exact (below_size (bs0_ HB.out)) : w.heap.size ≤ gb208)); clear HB; have HB := n0_; have BK208 := n1_; have GW208 := n2_; have GE208 := n3_; clear n0_ n1_ n2_ n3_; clear hb hbox hg; have hcz28_0 : w27.cell? ⟨gb208, 0, none⟩ = some (.string (⟨#[]⟩ : ByteArray)) := (blk_cell BK208.out 0).trans rfl; have hcz28_1 : w27.cell? ⟨gb208, 1, none⟩ = some (.slice none 0 0) := (blk_cell BK208.out 1).trans rfl; have hcz28_2 : w27.cell? ⟨gb208, 2, none⟩ = some (.int .i64 0) := (blk_cell BK208.out 2).trans rfl; have hcz28_3 : w27.cell? ⟨gb208, 3, none⟩ = some (.bool false) := (blk_cell BK208.out 3).trans rfl; have hfz28_0 := blk_frozen BK208.out 0; have hfz28_1 := blk_frozen BK208.out 1; have hfz28_2 := blk_frozen BK208.out 2; have hfz28_3 := blk_frozen BK208.out 3))
     have n0_ : Aside0 (((((w27.setCell ⟨gb208, 0, none⟩ (.string ((rd_T53 l0 x7_1).f0))).setCell ⟨gb208, 1, none⟩ (.slice A207_1 ((rd_T53 l0 x7_1).f1).length c207_1)).setCell ⟨gb208, 2, none⟩ (.int .i64 ((rd_T53 l0 x7_1).f2))).setCell ⟨gb208, 3, none⟩ (.bool ((rd_T53 l0 x7_1).f3))).heap[gb208]? = some (.cells #[.string ((rd_T53 l0 x7_1).f0), .slice A207_1 ((rd_T53 l0 x7_1).f1).length c207_1, .int .i64 ((rd_T53 l0 x7_1).f2), .bool ((rd_T53 l0 x7_1).f3)] 53 (0, 0))) := ⟨by (with_reducible repeat (first | refine blk_drewN ?_ _ | refine blk_drew ?_ | refine blk_alloc ?_ _)); refine blk_put (cs := #[.string ((rd_T53 l0 x7_1).f0), .slice A207_1 ((rd_T53 l0 x7_1).f1).length c207_1, .int .i64 ((rd_T53 l0 x7_1).f2), .bool false]) ?_ 3 _ rfl; (with_reducible repeat (first | refine blk_drewN ?_ _ | refine blk_drew ?_ | refine blk_alloc ?_ _)); refine blk_put (cs := #[.string ((rd_T53 l0 x7_1).f0), .slice A207_1 ((rd_T53 l0 x7_1).f1).length c207_1, .int .i64 0, .bool false]) ?_ 2 _ rfl; (with_reducible repeat (first | refine blk_drewN ?_ _ | refine blk_drew ?_ | refine blk_alloc ?_ _)); refine blk_put (cs := #[.string ((rd_T53 l0 x7_1).f0), .slice none 0 0, .int .i64 0, .bool false]) ?_ 1 _ rfl; (with_reducible repeat (first | refine blk_drewN ?_ _ | refine blk_drew ?_ | refine blk_alloc ?_ _)); refine blk_put (cs := #[.string (⟨#[]⟩ : ByteArray), .slice none 0 0, .int .i64 0, .bool false]) ?_ 0 _ rfl; (with_reducible repeat (first | refine blk_drewN ?_ _ | refine blk_drew ?_ | refine blk_alloc ?_ _)); exact BK208.out⟩
     have n1_ : Aside0 (Below w.heap.size w ((((w27.setCell ⟨gb208, 0, none⟩ (.string ((rd_T53 l0 x7_1).f0))).setCell ⟨gb208, 1, none⟩ (.slice A207_1 ((rd_T53 l0 x7_1).f1).length c207_1)).setCell ⟨gb208, 2, none⟩ (.int .i64 ((rd_T53 l0 x7_1).f2))).setCell ⟨gb208, 3, none⟩ (.bool ((rd_T53 l0 x7_1).f3)))) := ⟨by repeat (first | (with_reducible first | exact HB.out | apply below_alloc | apply pw_below_drewN | apply below_drew1 | refine below_set ?_ GE208.out) | exact HB.out)⟩
     (try clear BK208)
     (try clear HB)
     generalize ((((w27.setCell ⟨gb208, 0, none⟩ (.string ((rd_T53 l0 x7_1).f0))).setCell ⟨gb208, 1, none⟩ (.slice A207_1 ((rd_T53 l0 x7_1).f1).length c207_1)).setCell ⟨gb208, 2, none⟩ (.int .i64 ((rd_T53 l0 x7_1).f2))).setCell ⟨gb208, 3, none⟩ (.bool ((rd_T53 l0 x7_1).f3))) = w29 at n0_ n1_ ⊢
     have BK208 := n0_
     have HB := n1_
     clear n0_ n1_
     have n0_ := mkA (blk_drew BK208.out)
     have n1_ := mkA (below_drew1 HB.out)
     clear BK208
     clear HB
     have BK208 := n0_
     have HB := n1_
     clear n0_ n1_
     refine start_ (n := 18) (S := fun w' => w'.cell? ⟨gb208, 0, none⟩ = some (.string ((rd_T53 l0 x7_1).f0)) ∧ w'.cell? ⟨gb208, 1, none⟩ = some (.slice A207_1 ((rd_T53 l0 x7_1).f1).length c207_1) ∧ w'.cell? ⟨gb208, 2, none⟩ = some (.int .i64 ((rd_T53 l0 x7_1).f2)) ∧ w'.cell? ⟨gb208, 3, none⟩ = some (.bool ((rd_T53 l0 x7_1).f3))) (ds := []) impl_ValidPieces.d0 (by kernel_rfl) rfl rfl ⟨(blk_cell BK208.out 0).trans rfl, (blk_cell BK208.out 1).trans rfl, (blk_cell BK208.out 2).trans rfl, (blk_cell BK208.out 3).trans rfl⟩ (fun hHeld => ?_); refine with_tabW impl_ValidPieces.tab4 impl_ValidPieces.bits4 (fun HT_ HW_ => ?_)
     generalize w29.drew = w30 at BK208 HB hHeld ⊢
     refine take_ (i := 0) (N := some 12) (v := ?_) (a' := ?_) impl_ValidPieces.d1 rfl rfl (take_ofW HT_.out HW_.out (by kernel_rfl)) (fun _ _ _ h => h) (Or.inl ⟨by rfl, ?_⟩) hHeld ?_ ?_
     rotate_left
     · rintro w' ⟨s0, s1, s2, s3⟩
       go_simp
       with_reducible rfl
     rotate_left
     · simp only [Act.put, sA, sB, sC, i64_w, i32_w]
       rfl
     refine one_ (i := 1) (N := some 13) impl_ValidPieces.d2 rfl rfl (one_of HT_.out (by kernel_rfl)) (by decide) (fun K hK => ?_)
     refine goes_ Try.func70 (by kernel_rfl) rfl #[.agg #[.string ((rd_T53 l0 x7_1).f0), .slice A207_1 ((rd_T53 l0 x7_1).f1).length c207_1, .int .i64 ((rd_T53 l0 x7_1).f2), .bool ((rd_T53 l0 x7_1).f3)]] (by rfl) rfl rfl (by (try simp only [List.map_toArray, List.map_cons, List.map_nil]); first | done | rfl | (simp only [List.length_drop, List.length_take]; rfl)) ?_
     with_reducible refine (impl_validPiece.calls k1 ((rd_T53 l0 x7_1).f0) _ _ ((rd_T53 l0 x7_1).f1) ((rd_T53 l0 x7_1).f2) ((rd_T53 l0 x7_1).f3) false _ ?side1 ?side2 A5.out).mono ?_
     (case side1 => exact cb_ HR207_1.out HB.out)
     (case side2 => exact HC207_1.out)
     rintro e w31 ⟨rfl, hb⟩
     refine ⟨_, rfl, ?_⟩
     have n0_ := mkA (blk_below (g := gb208) (o := .cells #[.string ((rd_T53 l0 x7_1).f0), .slice A207_1 ((rd_T53 l0 x7_1).f1).length c207_1, .int .i64 ((rd_T53 l0 x7_1).f2), .bool ((rd_T53 l0 x7_1).f3)] 53 (0, 0)) (bl_ BK208.out) hb)
     have n1_ := mkA (below_step (bs1_ HB.out GE208.out) hb)
     clear BK208
     clear HB
     have BK208 := n0_
     have HB := n1_
     clear n0_ n1_
     (try clear hb)
     (try clear hb2)
     (try clear hk)
     (try clear hi)
     refine hK.out _ _ ⟨(blk_cell BK208.out 0).trans rfl, (blk_cell BK208.out 1).trans rfl, (blk_cell BK208.out 2).trans rfl, (blk_cell BK208.out 3).trans rfl⟩ (fun hHeld => ?_)
     clear hK K
     refine norm_ (a' := ?_) ?_ ?_
     rotate_left
     · show Act.put _ (some 13) _ = _
       simp only [Act.put, sA, sB, sC, i64_w, i32_w]
       rfl
     refine p1_ HT_.out 2 14 impl_ValidPieces.d3 ?_
     refine p1_ HT_.out 3 15 impl_ValidPieces.d4 ?_
     refine p0_ HT_.out 4 16 impl_ValidPieces.d5 ?_
     refine p0_ HT_.out 5 17 impl_ValidPieces.d6 ?_
     refine p0_ HT_.out 6 18 impl_ValidPieces.d7 ?_
     refine p0_ HT_.out 7 19 impl_ValidPieces.d8 ?_
     refine p0_ HT_.out 8 20 impl_ValidPieces.d9 ?_
     refine p0_ HT_.out 9 21 impl_ValidPieces.d10 ?_
     refine p0_ HT_.out 10 22 impl_ValidPieces.d11 ?_
     refine p0_ HT_.out 11 23 impl_ValidPieces.d12 ?_
     refine p0_ HT_.out 12 24 impl_ValidPieces.d19 ?_
     refine p0_ HT_.out 13 25 impl_ValidPieces.d14 ?_
     refine p0_ HT_.out 14 26 impl_ValidPieces.d15 ?_
     refine p0_ HT_.out 15 27 impl_ValidPieces.d16 ?_
     refine p0_ HT_.out 16 28 impl_ValidPieces.d17 ?_
     refine p1_ HT_.out 17 29 impl_ValidPieces.d18 ?_
     refine done_ (done_of HT_.out (by kernel_rfl)) ?_
     try go_wp2
     go_ret
     exact ⟨by first | rfl | (simp [errW_none, errW_some] <;> rfl) | (simp [*, errW_none, errW_some] <;> rfl), by repeat (first | (with_reducible first | exact HB.out | apply below_alloc | apply pw_below_drewN | apply below_drew1 | refine below_set ?_ GE208.out) | exact HB.out)⟩
   subst c6
   have H1 : (if x7_1 > 0 then (if 0 ≤ (wrap64 (x7_1 - 1)) then (if (wrap64 (x7_1 - 1)) < (l0.length : Int) then (if ((Op.bytesLess (((rd_T53 l0 (wrap64 (x7_1 - 1))).f0).toList) (((rd_T53 l0 x7_1).f0).toList)) = true) then (impl_ValidPieces.l0 k1 l0 l0 (l0.length : Int) (wrap64 (x7_1 + 1))) else (some false)) else (none)) else (none)) else (impl_ValidPieces.l0 k1 l0 l0 (l0.length : Int) (wrap64 (x7_1 + 1)))) = some r := by rw [if_pos rfl] at H; exact H
   clear H
   have H := H1
   clear H1
   by_cases c7 : x7_1 > 0
   rotate_left
   · rw [if_neg c7] at H
     have c7b0 : decide (0 < x7_1) = false := decide_eq_false c7
     clear c7
     have H' := mkA H
     clear H
     have p207 : 0 ≤ (x7_1 : Int) := dt_
     have q207 : x7_1 < (l0.length : Int) := dt_
     obtain ⟨ad207, A207_1, c207_1, e207, hx207_0, hx207_1, hx207_2, hx207_3, hl207_1, hi207_1⟩ := at_T53 HR0.out x7_1 p207 q207
     cases e207
     replace hx207_0 := bc_ HB.out hx207_0
     replace hx207_1 := bc_ HB.out hx207_1
     replace hx207_2 := bc_ HB.out hx207_2
     replace hx207_3 := bc_ HB.out hx207_3
     have HR207_1 := mkA hi207_1
     have HC207_1 := mkA hl207_1
     clear hi207_1 hl207_1
     replace p207 := eq_true p207
     replace q207 := eq_true q207
     try go_wp2_with (first | ((with_reducible refine gate_dst (N := 4) rfl ?_); refine box_event ?hg (N := 4) ?hd (cs := #[.string (⟨#[]⟩ : ByteArray), .slice none 0 0, .int .i64 0, .bool false]) (t := 53) ?hr ?_; (case hd => rfl); (case hg => rfl); (case hr => first | (go_simp; done) | (go_simp; rfl)); intro gb208 hg w22 hbox hb; have n0_ := mkA (below_step (bs0_ HB.out) hb); have n1_ := mkA (hbox); have n2_ := mkA ((by rw [hg]; exact (below_size (bs0_ HB.out)) : w.heap.size ≤ gb208)); have n3_ := mkA ((by rw [hg]; exact (below_size (bs0_ HB.out)) : w.heap.size ≤ gb208)); clear HB; have HB := n0_; have BK208 := n1_; have GW208 := n2_; have GE208 := n3_; clear n0_ n1_ n2_ n3_; clear hb hbox hg; have hcz23_0 : w22.cell? ⟨gb208, 0, none⟩ = some (.string (⟨#[]⟩ : ByteArray)) := (blk_cell BK208.out 0).trans rfl; have hcz23_1 : w22.cell? ⟨gb208, 1, none⟩ = some (.slice none 0 0) := (blk_cell BK208.out 1).trans rfl; have hcz23_2 : w22.cell? ⟨gb208, 2, none⟩ = some (.int .i64 0) := (blk_cell BK208.out 2).trans rfl; have hcz23_3 : w22.cell? ⟨gb208, 3, none⟩ = some (.bool false) := (blk_cell BK208.out 3).trans rfl; have hfz23_0 := blk_frozen BK208.out 0; have hfz23_1 := blk_frozen BK208.out 1; have hfz23_2 := blk_frozen BK208.out 2; have hfz23_3 := blk_frozen BK208.out 3))
     have n0_ : Aside0 (((((w22.setCell ⟨gb208, 0, none⟩ (.string ((rd_T53 l0 x7_1).f0))).setCell ⟨gb208, 1, none⟩ (.slice A207_1 ((rd_T53 l0 x7_1).f1).length c207_1)).setCell ⟨gb208, 2, none⟩ (.int .i64 ((rd_T53 l0 x7_1).f2))).setCell ⟨gb208, 3, none⟩ (.bool ((rd_T53 l0 x7_1).f3))).heap[gb208]? = some (.cells #[.string ((rd_T53 l0 x7_1).f0), .slice A207_1 ((rd_T53 l0 x7_1).f1).length c207_1, .int .i64 ((rd_T53 l0 x7_1).f2), .bool ((rd_T53 l0 x7_1).f3)] 53 (0, 0))) := ⟨by (with_reducible repeat (first | refine blk_drewN ?_ _ | refine blk_drew ?_ | refine blk_alloc ?_ _)); refine blk_put (cs := #[.string ((rd_T53 l0 x7_1).f0), .slice A207_1 ((rd_T53 l0 x7_1).f1).length c207_1, .int .i64 ((rd_T53 l0 x7_1).f2), .bool false]) ?_ 3 _ rfl; (with_reducible repeat (first | refine blk_drewN ?_ _ | refine blk_drew ?_ | refine blk_alloc ?_ _)); refine blk_put (cs := #[.string ((rd_T53 l0 x7_1).f0), .slice A207_1 ((rd_T53 l0 x7_1).f1).length c207_1, .int .i64 0, .bool false]) ?_ 2 _ rfl; (with_reducible repeat (first | refine blk_drewN ?_ _ | refine blk_drew ?_ | refine blk_alloc ?_ _)); refine blk_put (cs := #[.string ((rd_T53 l0 x7_1).f0), .slice none 0 0, .int .i64 0, .bool false]) ?_ 1 _ rfl; (with_reducible repeat (first | refine blk_drewN ?_ _ | refine blk_drew ?_ | refine blk_alloc ?_ _)); refine blk_put (cs := #[.string (⟨#[]⟩ : ByteArray), .slice none 0 0, .int .i64 0, .bool false]) ?_ 0 _ rfl; (with_reducible repeat (first | refine blk_drewN ?_ _ | refine blk_drew ?_ | refine blk_alloc ?_ _)); exact BK208.out⟩
     have n1_ : Aside0 (Below w.heap.size w ((((w22.setCell ⟨gb208, 0, none⟩ (.string ((rd_T53 l0 x7_1).f0))).setCell ⟨gb208, 1, none⟩ (.slice A207_1 ((rd_T53 l0 x7_1).f1).length c207_1)).setCell ⟨gb208, 2, none⟩ (.int .i64 ((rd_T53 l0 x7_1).f2))).setCell ⟨gb208, 3, none⟩ (.bool ((rd_T53 l0 x7_1).f3)))) := ⟨by repeat (first | (with_reducible first | exact HB.out | apply below_alloc | apply pw_below_drewN | apply below_drew1 | refine below_set ?_ GE208.out) | exact HB.out)⟩
     (try clear BK208)
     (try clear HB)
     generalize ((((w22.setCell ⟨gb208, 0, none⟩ (.string ((rd_T53 l0 x7_1).f0))).setCell ⟨gb208, 1, none⟩ (.slice A207_1 ((rd_T53 l0 x7_1).f1).length c207_1)).setCell ⟨gb208, 2, none⟩ (.int .i64 ((rd_T53 l0 x7_1).f2))).setCell ⟨gb208, 3, none⟩ (.bool ((rd_T53 l0 x7_1).f3))) = w24 at n0_ n1_ ⊢
     have BK208 := n0_
     have HB := n1_
     clear n0_ n1_
     have n0_ := mkA (blk_drew BK208.out)
     have n1_ := mkA (below_drew1 HB.out)
     clear BK208
     clear HB
     have BK208 := n0_
     have HB := n1_
     clear n0_ n1_
     refine start_ (n := 18) (S := fun w' => w'.cell? ⟨gb208, 0, none⟩ = some (.string ((rd_T53 l0 x7_1).f0)) ∧ w'.cell? ⟨gb208, 1, none⟩ = some (.slice A207_1 ((rd_T53 l0 x7_1).f1).length c207_1) ∧ w'.cell? ⟨gb208, 2, none⟩ = some (.int .i64 ((rd_T53 l0 x7_1).f2)) ∧ w'.cell? ⟨gb208, 3, none⟩ = some (.bool ((rd_T53 l0 x7_1).f3))) (ds := []) impl_ValidPieces.d0 (by kernel_rfl) rfl rfl ⟨(blk_cell BK208.out 0).trans rfl, (blk_cell BK208.out 1).trans rfl, (blk_cell BK208.out 2).trans rfl, (blk_cell BK208.out 3).trans rfl⟩ (fun hHeld => ?_); refine with_tabW impl_ValidPieces.tab4 impl_ValidPieces.bits4 (fun HT_ HW_ => ?_)
     generalize w24.drew = w25 at BK208 HB hHeld ⊢
     refine take_ (i := 0) (N := some 12) (v := ?_) (a' := ?_) impl_ValidPieces.d1 rfl rfl (take_ofW HT_.out HW_.out (by kernel_rfl)) (fun _ _ _ h => h) (Or.inl ⟨by rfl, ?_⟩) hHeld ?_ ?_
     rotate_left
     · rintro w' ⟨s0, s1, s2, s3⟩
       go_simp
       with_reducible rfl
     rotate_left
     · simp only [Act.put, sA, sB, sC, i64_w, i32_w]
       rfl
     refine one_ (i := 1) (N := some 13) impl_ValidPieces.d2 rfl rfl (one_of HT_.out (by kernel_rfl)) (by decide) (fun K hK => ?_)
     refine goes_ Try.func70 (by kernel_rfl) rfl #[.agg #[.string ((rd_T53 l0 x7_1).f0), .slice A207_1 ((rd_T53 l0 x7_1).f1).length c207_1, .int .i64 ((rd_T53 l0 x7_1).f2), .bool ((rd_T53 l0 x7_1).f3)]] (by rfl) rfl rfl (by (try simp only [List.map_toArray, List.map_cons, List.map_nil]); first | done | rfl | (simp only [List.length_drop, List.length_take]; rfl)) ?_
     with_reducible refine (impl_validPiece.calls k1 ((rd_T53 l0 x7_1).f0) _ _ ((rd_T53 l0 x7_1).f1) ((rd_T53 l0 x7_1).f2) ((rd_T53 l0 x7_1).f3) true _ ?side1 ?side2 A5.out).mono ?_
     (case side1 => exact cb_ HR207_1.out HB.out)
     (case side2 => exact HC207_1.out)
     rintro e w26 ⟨rfl, hb⟩
     refine ⟨_, rfl, ?_⟩
     have n0_ := mkA (blk_below (g := gb208) (o := .cells #[.string ((rd_T53 l0 x7_1).f0), .slice A207_1 ((rd_T53 l0 x7_1).f1).length c207_1, .int .i64 ((rd_T53 l0 x7_1).f2), .bool ((rd_T53 l0 x7_1).f3)] 53 (0, 0)) (bl_ BK208.out) hb)
     have n1_ := mkA (below_step (bs1_ HB.out GE208.out) hb)
     clear BK208
     clear HB
     have BK208 := n0_
     have HB := n1_
     clear n0_ n1_
     (try clear hb)
     (try clear hb2)
     (try clear hk)
     (try clear hi)
     refine hK.out _ _ ⟨(blk_cell BK208.out 0).trans rfl, (blk_cell BK208.out 1).trans rfl, (blk_cell BK208.out 2).trans rfl, (blk_cell BK208.out 3).trans rfl⟩ (fun hHeld => ?_)
     clear hK K
     refine norm_ (a' := ?_) ?_ ?_
     rotate_left
     · show Act.put _ (some 13) _ = _
       simp only [Act.put, sA, sB, sC, i64_w, i32_w]
       rfl
     refine p1_ HT_.out 2 14 impl_ValidPieces.d3 ?_
     refine p1_ HT_.out 3 15 impl_ValidPieces.d4 ?_
     refine p1_ HT_.out 4 16 impl_ValidPieces.d5 ?_
     refine p1_ HT_.out 5 17 impl_ValidPieces.d6 ?_
     refine p1_ HT_.out 6 18 impl_ValidPieces.d7 ?_
     refine p0_ HT_.out 7 19 impl_ValidPieces.d8 ?_
     refine p0_ HT_.out 8 20 impl_ValidPieces.d9 ?_
     refine p0_ HT_.out 9 21 impl_ValidPieces.d10 ?_
     refine p0_ HT_.out 10 22 impl_ValidPieces.d11 ?_
     refine p0_ HT_.out 11 23 impl_ValidPieces.d12 ?_
     refine p0_ HT_.out 12 24 impl_ValidPieces.d19 ?_
     refine p0_ HT_.out 13 25 impl_ValidPieces.d14 ?_
     refine p0_ HT_.out 14 26 impl_ValidPieces.d15 ?_
     refine p0_ HT_.out 15 27 impl_ValidPieces.d16 ?_
     refine p1_ HT_.out 16 28 impl_ValidPieces.d17 ?_
     refine p1_ HT_.out 17 29 impl_ValidPieces.d18 ?_
     refine done_ (done_of HT_.out (by kernel_rfl)) ?_
     try go_wp2
     go_roundg k1
     case measure => have := HK1.out; omega
     case rel => exact ⟨(wrap64 (x7_1 + 1)), (by first | rfl | (simp; done) | (simp [*]; done) | (simp [i64_w, i32_w]; done)), H', ⟨by have := HK1.out; omega⟩, ⟨by repeat (first | (with_reducible first | exact HB.out | apply below_alloc | apply pw_below_drewN | apply below_drew1 | refine below_set ?_ GE208.out) | exact HB.out)⟩⟩
   rw [if_pos c7] at H
   have c7b0 : decide (0 < x7_1) = true := decide_eq_true c7
   clear c7
   obtain ⟨ji8, hji8⟩ : ∃ j_ : Int, (wrap64 (x7_1 - 1)) = j_ := ⟨_, rfl⟩
   replace H : (if 0 ≤ (ji8) then (if (ji8) < (l0.length : Int) then (if ((Op.bytesLess (((rd_T53 l0 (ji8)).f0).toList) (((rd_T53 l0 x7_1).f0).toList)) = true) then (impl_ValidPieces.l0 k1 l0 l0 (l0.length : Int) (wrap64 (x7_1 + 1))) else (some false)) else (none)) else (none)) = some r := by first | (rw [hji8] at H; exact H) | (simp only [hji8] at H ⊢; exact H)
   (try rw [hji8] at A5)
   have hji8w : (IntKind.i64.wrap (x7_1 - 1)) = ji8 := (i64_w _).trans hji8
   by_cases c9 : 0 ≤ (ji8)
   rotate_left
   · rw [if_neg c9] at H
     exact absurd H (by simp)
   rw [if_pos c9] at H
   have c9b0 : decide (0 ≤ (ji8)) = true := decide_eq_true c9
   clear c9
   by_cases c10 : (ji8) < (l0.length : Int)
   rotate_left
   · rw [if_neg c10] at H
     exact absurd H (by simp)
   rw [if_pos c10] at H
   have c10b0 : decide ((ji8) < (l0.length : Int)) = true := decide_eq_true c10
   clear c10
   by_cases c11 : ((Op.bytesLess (((rd_T53 l0 (ji8)).f0).toList) (((rd_T53 l0 x7_1).f0).toList)) = true)
   rotate_left
   · rw [if_neg c11] at H
     have c11b0 : (Op.bytesLess (((rd_T53 l0 (ji8)).f0).toList) (((rd_T53 l0 x7_1).f0).toList)) = false := by simpa using c11
     clear c11
     obtain rfl := Option.some.inj H
     have p207 : 0 ≤ (x7_1 : Int) := dt_
     have q207 : x7_1 < (l0.length : Int) := dt_
     obtain ⟨ad207, A207_1, c207_1, e207, hx207_0, hx207_1, hx207_2, hx207_3, hl207_1, hi207_1⟩ := at_T53 HR0.out x7_1 p207 q207
     cases e207
     replace hx207_0 := bc_ HB.out hx207_0
     replace hx207_1 := bc_ HB.out hx207_1
     replace hx207_2 := bc_ HB.out hx207_2
     replace hx207_3 := bc_ HB.out hx207_3
     have HR207_1 := mkA hi207_1
     have HC207_1 := mkA hl207_1
     clear hi207_1 hl207_1
     replace p207 := eq_true p207
     replace q207 := eq_true q207
     try go_wp2_with (first | ((with_reducible refine gate_dst (N := 4) rfl ?_); refine box_event ?hg (N := 4) ?hd (cs := #[.string (⟨#[]⟩ : ByteArray), .slice none 0 0, .int .i64 0, .bool false]) (t := 53) ?hr ?_; (case hd => rfl); (case hg => rfl); (case hr => first | (go_simp; done) | (go_simp; rfl)); intro gb208 hg w17 hbox hb; have n0_ := mkA (below_step (bs0_ HB.out) hb); have n1_ := mkA (hbox); have n2_ := mkA ((by rw [hg]; exact (below_size (bs0_ HB.out)) : w.heap.size ≤ gb208)); have n3_ := mkA ((by rw [hg]; exact (below_size (bs0_ HB.out)) : w.heap.size ≤ gb208)); clear HB; have HB := n0_; have BK208 := n1_; have GW208 := n2_; have GE208 := n3_; clear n0_ n1_ n2_ n3_; clear hb hbox hg; have hcz18_0 : w17.cell? ⟨gb208, 0, none⟩ = some (.string (⟨#[]⟩ : ByteArray)) := (blk_cell BK208.out 0).trans rfl; have hcz18_1 : w17.cell? ⟨gb208, 1, none⟩ = some (.slice none 0 0) := (blk_cell BK208.out 1).trans rfl; have hcz18_2 : w17.cell? ⟨gb208, 2, none⟩ = some (.int .i64 0) := (blk_cell BK208.out 2).trans rfl; have hcz18_3 : w17.cell? ⟨gb208, 3, none⟩ = some (.bool false) := (blk_cell BK208.out 3).trans rfl; have hfz18_0 := blk_frozen BK208.out 0; have hfz18_1 := blk_frozen BK208.out 1; have hfz18_2 := blk_frozen BK208.out 2; have hfz18_3 := blk_frozen BK208.out 3))
     have n0_ : Aside0 (((((w17.setCell ⟨gb208, 0, none⟩ (.string ((rd_T53 l0 x7_1).f0))).setCell ⟨gb208, 1, none⟩ (.slice A207_1 ((rd_T53 l0 x7_1).f1).length c207_1)).setCell ⟨gb208, 2, none⟩ (.int .i64 ((rd_T53 l0 x7_1).f2))).setCell ⟨gb208, 3, none⟩ (.bool ((rd_T53 l0 x7_1).f3))).heap[gb208]? = some (.cells #[.string ((rd_T53 l0 x7_1).f0), .slice A207_1 ((rd_T53 l0 x7_1).f1).length c207_1, .int .i64 ((rd_T53 l0 x7_1).f2), .bool ((rd_T53 l0 x7_1).f3)] 53 (0, 0))) := ⟨by (with_reducible repeat (first | refine blk_drewN ?_ _ | refine blk_drew ?_ | refine blk_alloc ?_ _)); refine blk_put (cs := #[.string ((rd_T53 l0 x7_1).f0), .slice A207_1 ((rd_T53 l0 x7_1).f1).length c207_1, .int .i64 ((rd_T53 l0 x7_1).f2), .bool false]) ?_ 3 _ rfl; (with_reducible repeat (first | refine blk_drewN ?_ _ | refine blk_drew ?_ | refine blk_alloc ?_ _)); refine blk_put (cs := #[.string ((rd_T53 l0 x7_1).f0), .slice A207_1 ((rd_T53 l0 x7_1).f1).length c207_1, .int .i64 0, .bool false]) ?_ 2 _ rfl; (with_reducible repeat (first | refine blk_drewN ?_ _ | refine blk_drew ?_ | refine blk_alloc ?_ _)); refine blk_put (cs := #[.string ((rd_T53 l0 x7_1).f0), .slice none 0 0, .int .i64 0, .bool false]) ?_ 1 _ rfl; (with_reducible repeat (first | refine blk_drewN ?_ _ | refine blk_drew ?_ | refine blk_alloc ?_ _)); refine blk_put (cs := #[.string (⟨#[]⟩ : ByteArray), .slice none 0 0, .int .i64 0, .bool false]) ?_ 0 _ rfl; (with_reducible repeat (first | refine blk_drewN ?_ _ | refine blk_drew ?_ | refine blk_alloc ?_ _)); exact BK208.out⟩
     have n1_ : Aside0 (Below w.heap.size w ((((w17.setCell ⟨gb208, 0, none⟩ (.string ((rd_T53 l0 x7_1).f0))).setCell ⟨gb208, 1, none⟩ (.slice A207_1 ((rd_T53 l0 x7_1).f1).length c207_1)).setCell ⟨gb208, 2, none⟩ (.int .i64 ((rd_T53 l0 x7_1).f2))).setCell ⟨gb208, 3, none⟩ (.bool ((rd_T53 l0 x7_1).f3)))) := ⟨by repeat (first | (with_reducible first | exact HB.out | apply below_alloc | apply pw_below_drewN | apply below_drew1 | refine below_set ?_ GE208.out) | exact HB.out)⟩
     (try clear BK208)
     (try clear HB)
     generalize ((((w17.setCell ⟨gb208, 0, none⟩ (.string ((rd_T53 l0 x7_1).f0))).setCell ⟨gb208, 1, none⟩ (.slice A207_1 ((rd_T53 l0 x7_1).f1).length c207_1)).setCell ⟨gb208, 2, none⟩ (.int .i64 ((rd_T53 l0 x7_1).f2))).setCell ⟨gb208, 3, none⟩ (.bool ((rd_T53 l0 x7_1).f3))) = w19 at n0_ n1_ ⊢
     have BK208 := n0_
     have HB := n1_
     clear n0_ n1_
     have n0_ := mkA (blk_drew BK208.out)
     have n1_ := mkA (below_drew1 HB.out)
     clear BK208
     clear HB
     have BK208 := n0_
     have HB := n1_
     clear n0_ n1_
     have p210 : 0 ≤ ((ji8) : Int) := dt_
     have q210 : (ji8) < (l0.length : Int) := dt_
     obtain ⟨ad210, A210_1, c210_1, e210, hx210_0, hx210_1, hx210_2, hx210_3, hl210_1, hi210_1⟩ := at_T53 HR0.out (ji8) p210 q210
     have hw210_3 := hx210_3
     have hw210_2 := hx210_2
     have hw210_1 := hx210_1
     have hw210_0 := hx210_0
     obtain rfl : ad207 = ad210 := (by injection e210)
     replace hx210_0 := bc_ HB.out hx210_0
     replace hx210_1 := bc_ HB.out hx210_1
     replace hx210_2 := bc_ HB.out hx210_2
     replace hx210_3 := bc_ HB.out hx210_3
     have HR210_1 := mkA hi210_1
     have HC210_1 := mkA hl210_1
     clear hi210_1 hl210_1
     replace p210 := eq_true p210
     replace q210 := eq_true q210
     refine start_ (n := 18) (S := fun w' => w'.cell? ⟨gb208, 0, none⟩ = some (.string ((rd_T53 l0 x7_1).f0)) ∧ w'.cell? ⟨gb208, 1, none⟩ = some (.slice A207_1 ((rd_T53 l0 x7_1).f1).length c207_1) ∧ w'.cell? ⟨gb208, 2, none⟩ = some (.int .i64 ((rd_T53 l0 x7_1).f2)) ∧ w'.cell? ⟨gb208, 3, none⟩ = some (.bool ((rd_T53 l0 x7_1).f3)) ∧ w'.cell? (ad207.add (((ji8)).toNat * 4)) = some (.string ((rd_T53 l0 (ji8)).f0)) ∧ w'.cell? ⟨(ad207.add (((ji8)).toNat * 4)).block, (ad207.add (((ji8)).toNat * 4)).off + 1, none⟩ = some (.slice A210_1 ((rd_T53 l0 (ji8)).f1).length c210_1) ∧ w'.cell? ⟨(ad207.add (((ji8)).toNat * 4)).block, (ad207.add (((ji8)).toNat * 4)).off + 2, none⟩ = some (.int .i64 ((rd_T53 l0 (ji8)).f2)) ∧ w'.cell? ⟨(ad207.add (((ji8)).toNat * 4)).block, (ad207.add (((ji8)).toNat * 4)).off + 3, none⟩ = some (.bool ((rd_T53 l0 (ji8)).f3))) (ds := []) impl_ValidPieces.d0 (by kernel_rfl) rfl rfl ⟨(blk_cell BK208.out 0).trans rfl, (blk_cell BK208.out 1).trans rfl, (blk_cell BK208.out 2).trans rfl, (blk_cell BK208.out 3).trans rfl, (bc_ HB.out hw210_0 :), (bc_ HB.out hw210_1 :), (bc_ HB.out hw210_2 :), (bc_ HB.out hw210_3 :)⟩ (fun hHeld => ?_); refine with_tabW impl_ValidPieces.tab4 impl_ValidPieces.bits4 (fun HT_ HW_ => ?_)
     generalize w19.drew = w20 at BK208 HB HR210_1 hx210_0 hx210_1 hx210_2 hx210_3 hHeld ⊢
     refine take_ (i := 0) (N := some 12) (v := ?_) (a' := ?_) impl_ValidPieces.d1 rfl rfl (take_ofW HT_.out HW_.out (by kernel_rfl)) (fun _ _ _ h => h) (Or.inl ⟨by rfl, ?_⟩) hHeld ?_ ?_
     rotate_left
     · rintro w' ⟨s0, s1, s2, s3, s4, s5, s6, s7⟩
       go_simp
       with_reducible rfl
     rotate_left
     · simp only [Act.put, sA, sB, sC, i64_w, i32_w]
       rfl
     refine one_ (i := 1) (N := some 13) impl_ValidPieces.d2 rfl rfl (one_of HT_.out (by kernel_rfl)) (by decide) (fun K hK => ?_)
     refine goes_ Try.func70 (by kernel_rfl) rfl #[.agg #[.string ((rd_T53 l0 x7_1).f0), .slice A207_1 ((rd_T53 l0 x7_1).f1).length c207_1, .int .i64 ((rd_T53 l0 x7_1).f2), .bool ((rd_T53 l0 x7_1).f3)]] (by rfl) rfl rfl (by (try simp only [List.map_toArray, List.map_cons, List.map_nil]); first | done | rfl | (simp only [List.length_drop, List.length_take]; rfl)) ?_
     with_reducible refine (impl_validPiece.calls k1 ((rd_T53 l0 x7_1).f0) _ _ ((rd_T53 l0 x7_1).f1) ((rd_T53 l0 x7_1).f2) ((rd_T53 l0 x7_1).f3) true _ ?side1 ?side2 A5.out).mono ?_
     (case side1 => exact cb_ HR207_1.out HB.out)
     (case side2 => exact HC207_1.out)
     rintro e w21 ⟨rfl, hb⟩
     refine ⟨_, rfl, ?_⟩
     have n0_ := mkA (blk_below (g := gb208) (o := .cells #[.string ((rd_T53 l0 x7_1).f0), .slice A207_1 ((rd_T53 l0 x7_1).f1).length c207_1, .int .i64 ((rd_T53 l0 x7_1).f2), .bool ((rd_T53 l0 x7_1).f3)] 53 (0, 0)) (bl_ BK208.out) hb)
     have n1_ := mkA (below_step (bs1_ HB.out GE208.out) hb)
     clear BK208
     clear HB
     have BK208 := n0_
     have HB := n1_
     clear n0_ n1_
     (try clear hb)
     (try clear hb2)
     (try clear hk)
     (try clear hi)
     refine hK.out _ _ ⟨(blk_cell BK208.out 0).trans rfl, (blk_cell BK208.out 1).trans rfl, (blk_cell BK208.out 2).trans rfl, (blk_cell BK208.out 3).trans rfl, (bc_ HB.out hw210_0 :), (bc_ HB.out hw210_1 :), (bc_ HB.out hw210_2 :), (bc_ HB.out hw210_3 :)⟩ (fun hHeld => ?_)
     clear hK K
     refine norm_ (a' := ?_) ?_ ?_
     rotate_left
     · show Act.put _ (some 13) _ = _
       simp only [Act.put, sA, sB, sC, i64_w, i32_w]
       rfl
     refine p1_ HT_.out 2 14 impl_ValidPieces.d3 ?_
     refine p1_ HT_.out 3 15 impl_ValidPieces.d4 ?_
     refine p1_ HT_.out 4 16 impl_ValidPieces.d5 ?_
     refine p1_ HT_.out 5 17 impl_ValidPieces.d6 ?_
     refine p1_ HT_.out 6 18 impl_ValidPieces.d7 ?_
     refine p1_ HT_.out 7 19 impl_ValidPieces.d8 ?_
     refine p1_ HT_.out 8 20 impl_ValidPieces.d9 ?_
     refine p1_ HT_.out 9 21 impl_ValidPieces.d10 ?_
     refine p1_ HT_.out 10 22 impl_ValidPieces.d11 ?_
     refine p1_ HT_.out 11 23 impl_ValidPieces.d12 ?_
     refine p1_ HT_.out 13 25 impl_ValidPieces.d13 ?_
     refine take_ (i := 12) (N := some 24) (v := ?_) (a' := ?_) impl_ValidPieces.d14 rfl rfl (take_ofW HT_.out HW_.out (by kernel_rfl)) (fun _ _ _ h => h) (Or.inl ⟨by rfl, ?_⟩) hHeld ?_ ?_
     rotate_left
     · rintro w' ⟨s0, s1, s2, s3, s4, s5, s6, s7⟩
       go_simp
       with_reducible rfl
     rotate_left
     · simp only [Act.put, sA, sB, sC, i64_w, i32_w]
       rfl
     refine take_ (i := 14) (N := some 26) (v := ?_) (a' := ?_) impl_ValidPieces.d15 rfl rfl (take_ofW HT_.out HW_.out (by kernel_rfl)) (fun _ _ _ h => h) (Or.inl ⟨by rfl, ?_⟩) hHeld ?_ ?_
     rotate_left
     · rintro w' ⟨s0, s1, s2, s3, s4, s5, s6, s7⟩
       go_simp
       with_reducible rfl
     rotate_left
     · simp only [Act.put, sA, sB, sC, i64_w, i32_w]
       rfl
     refine p1_ HT_.out 15 27 impl_ValidPieces.d16 ?_
     refine p1_ HT_.out 16 28 impl_ValidPieces.d17 ?_
     refine p1_ HT_.out 17 29 impl_ValidPieces.d18 ?_
     refine done_ (done_of HT_.out (by kernel_rfl)) ?_
     try go_wp2
     go_ret
     exact ⟨by first | rfl | (simp [errW_none, errW_some] <;> rfl) | (simp only [← hji8]; first | rfl | (simp [errW_none, errW_some] <;> rfl)) | (simp [*, errW_none, errW_some] <;> rfl), by repeat (first | (with_reducible first | exact HB.out | apply below_alloc | apply pw_below_drewN | apply below_drew1 | refine below_set ?_ GE208.out) | exact HB.out)⟩
   rw [if_pos c11] at H
   have c11b0 : (Op.bytesLess (((rd_T53 l0 (ji8)).f0).toList) (((rd_T53 l0 x7_1).f0).toList)) = true := c11
   clear c11
   have H' := mkA H
   clear H
   have p207 : 0 ≤ (x7_1 : Int) := dt_
   have q207 : x7_1 < (l0.length : Int) := dt_
   obtain ⟨ad207, A207_1, c207_1, e207, hx207_0, hx207_1, hx207_2, hx207_3, hl207_1, hi207_1⟩ := at_T53 HR0.out x7_1 p207 q207
   cases e207
   replace hx207_0 := bc_ HB.out hx207_0
   replace hx207_1 := bc_ HB.out hx207_1
   replace hx207_2 := bc_ HB.out hx207_2
   replace hx207_3 := bc_ HB.out hx207_3
   have HR207_1 := mkA hi207_1
   have HC207_1 := mkA hl207_1
   clear hi207_1 hl207_1
   replace p207 := eq_true p207
   replace q207 := eq_true q207
   try go_wp2_with (first | ((with_reducible refine gate_dst (N := 4) rfl ?_); refine box_event ?hg (N := 4) ?hd (cs := #[.string (⟨#[]⟩ : ByteArray), .slice none 0 0, .int .i64 0, .bool false]) (t := 53) ?hr ?_; (case hd => rfl); (case hg => rfl); (case hr => first | (go_simp; done) | (go_simp; rfl)); intro gb208 hg w12 hbox hb; have n0_ := mkA (below_step (bs0_ HB.out) hb); have n1_ := mkA (hbox); have n2_ := mkA ((by rw [hg]; exact (below_size (bs0_ HB.out)) : w.heap.size ≤ gb208)); have n3_ := mkA ((by rw [hg]; exact (below_size (bs0_ HB.out)) : w.heap.size ≤ gb208)); clear HB; have HB := n0_; have BK208 := n1_; have GW208 := n2_; have GE208 := n3_; clear n0_ n1_ n2_ n3_; clear hb hbox hg; have hcz13_0 : w12.cell? ⟨gb208, 0, none⟩ = some (.string (⟨#[]⟩ : ByteArray)) := (blk_cell BK208.out 0).trans rfl; have hcz13_1 : w12.cell? ⟨gb208, 1, none⟩ = some (.slice none 0 0) := (blk_cell BK208.out 1).trans rfl; have hcz13_2 : w12.cell? ⟨gb208, 2, none⟩ = some (.int .i64 0) := (blk_cell BK208.out 2).trans rfl; have hcz13_3 : w12.cell? ⟨gb208, 3, none⟩ = some (.bool false) := (blk_cell BK208.out 3).trans rfl; have hfz13_0 := blk_frozen BK208.out 0; have hfz13_1 := blk_frozen BK208.out 1; have hfz13_2 := blk_frozen BK208.out 2; have hfz13_3 := blk_frozen BK208.out 3))
   have n0_ : Aside0 (((((w12.setCell ⟨gb208, 0, none⟩ (.string ((rd_T53 l0 x7_1).f0))).setCell ⟨gb208, 1, none⟩ (.slice A207_1 ((rd_T53 l0 x7_1).f1).length c207_1)).setCell ⟨gb208, 2, none⟩ (.int .i64 ((rd_T53 l0 x7_1).f2))).setCell ⟨gb208, 3, none⟩ (.bool ((rd_T53 l0 x7_1).f3))).heap[gb208]? = some (.cells #[.string ((rd_T53 l0 x7_1).f0), .slice A207_1 ((rd_T53 l0 x7_1).f1).length c207_1, .int .i64 ((rd_T53 l0 x7_1).f2), .bool ((rd_T53 l0 x7_1).f3)] 53 (0, 0))) := ⟨by (with_reducible repeat (first | refine blk_drewN ?_ _ | refine blk_drew ?_ | refine blk_alloc ?_ _)); refine blk_put (cs := #[.string ((rd_T53 l0 x7_1).f0), .slice A207_1 ((rd_T53 l0 x7_1).f1).length c207_1, .int .i64 ((rd_T53 l0 x7_1).f2), .bool false]) ?_ 3 _ rfl; (with_reducible repeat (first | refine blk_drewN ?_ _ | refine blk_drew ?_ | refine blk_alloc ?_ _)); refine blk_put (cs := #[.string ((rd_T53 l0 x7_1).f0), .slice A207_1 ((rd_T53 l0 x7_1).f1).length c207_1, .int .i64 0, .bool false]) ?_ 2 _ rfl; (with_reducible repeat (first | refine blk_drewN ?_ _ | refine blk_drew ?_ | refine blk_alloc ?_ _)); refine blk_put (cs := #[.string ((rd_T53 l0 x7_1).f0), .slice none 0 0, .int .i64 0, .bool false]) ?_ 1 _ rfl; (with_reducible repeat (first | refine blk_drewN ?_ _ | refine blk_drew ?_ | refine blk_alloc ?_ _)); refine blk_put (cs := #[.string (⟨#[]⟩ : ByteArray), .slice none 0 0, .int .i64 0, .bool false]) ?_ 0 _ rfl; (with_reducible repeat (first | refine blk_drewN ?_ _ | refine blk_drew ?_ | refine blk_alloc ?_ _)); exact BK208.out⟩
   have n1_ : Aside0 (Below w.heap.size w ((((w12.setCell ⟨gb208, 0, none⟩ (.string ((rd_T53 l0 x7_1).f0))).setCell ⟨gb208, 1, none⟩ (.slice A207_1 ((rd_T53 l0 x7_1).f1).length c207_1)).setCell ⟨gb208, 2, none⟩ (.int .i64 ((rd_T53 l0 x7_1).f2))).setCell ⟨gb208, 3, none⟩ (.bool ((rd_T53 l0 x7_1).f3)))) := ⟨by repeat (first | (with_reducible first | exact HB.out | apply below_alloc | apply pw_below_drewN | apply below_drew1 | refine below_set ?_ GE208.out) | exact HB.out)⟩
   (try clear BK208)
   (try clear HB)
   generalize ((((w12.setCell ⟨gb208, 0, none⟩ (.string ((rd_T53 l0 x7_1).f0))).setCell ⟨gb208, 1, none⟩ (.slice A207_1 ((rd_T53 l0 x7_1).f1).length c207_1)).setCell ⟨gb208, 2, none⟩ (.int .i64 ((rd_T53 l0 x7_1).f2))).setCell ⟨gb208, 3, none⟩ (.bool ((rd_T53 l0 x7_1).f3))) = w14 at n0_ n1_ ⊢
   have BK208 := n0_
   have HB := n1_
   clear n0_ n1_
   have n0_ := mkA (blk_drew BK208.out)
   have n1_ := mkA (below_drew1 HB.out)
   clear BK208
   clear HB
   have BK208 := n0_
   have HB := n1_
   clear n0_ n1_
   have p210 : 0 ≤ ((ji8) : Int) := dt_
   have q210 : (ji8) < (l0.length : Int) := dt_
   obtain ⟨ad210, A210_1, c210_1, e210, hx210_0, hx210_1, hx210_2, hx210_3, hl210_1, hi210_1⟩ := at_T53 HR0.out (ji8) p210 q210
   have hw210_3 := hx210_3
   have hw210_2 := hx210_2
   have hw210_1 := hx210_1
   have hw210_0 := hx210_0
   obtain rfl : ad207 = ad210 := (by injection e210)
   replace hx210_0 := bc_ HB.out hx210_0
   replace hx210_1 := bc_ HB.out hx210_1
   replace hx210_2 := bc_ HB.out hx210_2
   replace hx210_3 := bc_ HB.out hx210_3
   have HR210_1 := mkA hi210_1
   have HC210_1 := mkA hl210_1
   clear hi210_1 hl210_1
   replace p210 := eq_true p210
   replace q210 := eq_true q210
   refine start_ (n := 18) (S := fun w' => w'.cell? ⟨gb208, 0, none⟩ = some (.string ((rd_T53 l0 x7_1).f0)) ∧ w'.cell? ⟨gb208, 1, none⟩ = some (.slice A207_1 ((rd_T53 l0 x7_1).f1).length c207_1) ∧ w'.cell? ⟨gb208, 2, none⟩ = some (.int .i64 ((rd_T53 l0 x7_1).f2)) ∧ w'.cell? ⟨gb208, 3, none⟩ = some (.bool ((rd_T53 l0 x7_1).f3)) ∧ w'.cell? (ad207.add (((ji8)).toNat * 4)) = some (.string ((rd_T53 l0 (ji8)).f0)) ∧ w'.cell? ⟨(ad207.add (((ji8)).toNat * 4)).block, (ad207.add (((ji8)).toNat * 4)).off + 1, none⟩ = some (.slice A210_1 ((rd_T53 l0 (ji8)).f1).length c210_1) ∧ w'.cell? ⟨(ad207.add (((ji8)).toNat * 4)).block, (ad207.add (((ji8)).toNat * 4)).off + 2, none⟩ = some (.int .i64 ((rd_T53 l0 (ji8)).f2)) ∧ w'.cell? ⟨(ad207.add (((ji8)).toNat * 4)).block, (ad207.add (((ji8)).toNat * 4)).off + 3, none⟩ = some (.bool ((rd_T53 l0 (ji8)).f3))) (ds := []) impl_ValidPieces.d0 (by kernel_rfl) rfl rfl ⟨(blk_cell BK208.out 0).trans rfl, (blk_cell BK208.out 1).trans rfl, (blk_cell BK208.out 2).trans rfl, (blk_cell BK208.out 3).trans rfl, (bc_ HB.out hw210_0 :), (bc_ HB.out hw210_1 :), (bc_ HB.out hw210_2 :), (bc_ HB.out hw210_3 :)⟩ (fun hHeld => ?_); refine with_tabW impl_ValidPieces.tab4 impl_ValidPieces.bits4 (fun HT_ HW_ => ?_)
   generalize w14.drew = w15 at BK208 HB HR210_1 hx210_0 hx210_1 hx210_2 hx210_3 hHeld ⊢
   refine take_ (i := 0) (N := some 12) (v := ?_) (a' := ?_) impl_ValidPieces.d1 rfl rfl (take_ofW HT_.out HW_.out (by kernel_rfl)) (fun _ _ _ h => h) (Or.inl ⟨by rfl, ?_⟩) hHeld ?_ ?_
   rotate_left
   · rintro w' ⟨s0, s1, s2, s3, s4, s5, s6, s7⟩
     go_simp
     with_reducible rfl
   rotate_left
   · simp only [Act.put, sA, sB, sC, i64_w, i32_w]
     rfl
   refine one_ (i := 1) (N := some 13) impl_ValidPieces.d2 rfl rfl (one_of HT_.out (by kernel_rfl)) (by decide) (fun K hK => ?_)
   refine goes_ Try.func70 (by kernel_rfl) rfl #[.agg #[.string ((rd_T53 l0 x7_1).f0), .slice A207_1 ((rd_T53 l0 x7_1).f1).length c207_1, .int .i64 ((rd_T53 l0 x7_1).f2), .bool ((rd_T53 l0 x7_1).f3)]] (by rfl) rfl rfl (by (try simp only [List.map_toArray, List.map_cons, List.map_nil]); first | done | rfl | (simp only [List.length_drop, List.length_take]; rfl)) ?_
   with_reducible refine (impl_validPiece.calls k1 ((rd_T53 l0 x7_1).f0) _ _ ((rd_T53 l0 x7_1).f1) ((rd_T53 l0 x7_1).f2) ((rd_T53 l0 x7_1).f3) true _ ?side1 ?side2 A5.out).mono ?_
   (case side1 => exact cb_ HR207_1.out HB.out)
   (case side2 => exact HC207_1.out)
   rintro e w16 ⟨rfl, hb⟩
   refine ⟨_, rfl, ?_⟩
   have n0_ := mkA (blk_below (g := gb208) (o := .cells #[.string ((rd_T53 l0 x7_1).f0), .slice A207_1 ((rd_T53 l0 x7_1).f1).length c207_1, .int .i64 ((rd_T53 l0 x7_1).f2), .bool ((rd_T53 l0 x7_1).f3)] 53 (0, 0)) (bl_ BK208.out) hb)
   have n1_ := mkA (below_step (bs1_ HB.out GE208.out) hb)
   clear BK208
   clear HB
   have BK208 := n0_
   have HB := n1_
   clear n0_ n1_
   (try clear hb)
   (try clear hb2)
   (try clear hk)
   (try clear hi)
   refine hK.out _ _ ⟨(blk_cell BK208.out 0).trans rfl, (blk_cell BK208.out 1).trans rfl, (blk_cell BK208.out 2).trans rfl, (blk_cell BK208.out 3).trans rfl, (bc_ HB.out hw210_0 :), (bc_ HB.out hw210_1 :), (bc_ HB.out hw210_2 :), (bc_ HB.out hw210_3 :)⟩ (fun hHeld => ?_)
   clear hK K
   refine norm_ (a' := ?_) ?_ ?_
   rotate_left
   · show Act.put _ (some 13) _ = _
     simp only [Act.put, sA, sB, sC, i64_w, i32_w]
     rfl
   refine p1_ HT_.out 2 14 impl_ValidPieces.d3 ?_
   refine p1_ HT_.out 3 15 impl_ValidPieces.d4 ?_
   refine p1_ HT_.out 4 16 impl_ValidPieces.d5 ?_
   refine p1_ HT_.out 5 17 impl_ValidPieces.d6 ?_
   refine p1_ HT_.out 6 18 impl_ValidPieces.d7 ?_
   refine p1_ HT_.out 7 19 impl_ValidPieces.d8 ?_
   refine p1_ HT_.out 8 20 impl_ValidPieces.d9 ?_
   refine p1_ HT_.out 9 21 impl_ValidPieces.d10 ?_
   refine p1_ HT_.out 10 22 impl_ValidPieces.d11 ?_
   refine p1_ HT_.out 11 23 impl_ValidPieces.d12 ?_
   refine p1_ HT_.out 13 25 impl_ValidPieces.d13 ?_
   refine take_ (i := 12) (N := some 24) (v := ?_) (a' := ?_) impl_ValidPieces.d14 rfl rfl (take_ofW HT_.out HW_.out (by kernel_rfl)) (fun _ _ _ h => h) (Or.inl ⟨by rfl, ?_⟩) hHeld ?_ ?_
   rotate_left
   · rintro w' ⟨s0, s1, s2, s3, s4, s5, s6, s7⟩
     go_simp
     with_reducible rfl
   rotate_left
   · simp only [Act.put, sA, sB, sC, i64_w, i32_w]
     rfl
   refine take_ (i := 14) (N := some 26) (v := ?_) (a' := ?_) impl_ValidPieces.d15 rfl rfl (take_ofW HT_.out HW_.out (by kernel_rfl)) (fun _ _ _ h => h) (Or.inl ⟨by rfl, ?_⟩) hHeld ?_ ?_
   rotate_left
   · rintro w' ⟨s0, s1, s2, s3, s4, s5, s6, s7⟩
     go_simp
     with_reducible rfl
   rotate_left
   · simp only [Act.put, sA, sB, sC, i64_w, i32_w]
     rfl
   refine p1_ HT_.out 15 27 impl_ValidPieces.d16 ?_
   refine p1_ HT_.out 16 28 impl_ValidPieces.d17 ?_
   refine p1_ HT_.out 17 29 impl_ValidPieces.d18 ?_
   refine done_ (done_of HT_.out (by kernel_rfl)) ?_
   try go_wp2
   go_roundg k1
   case measure => have := HK1.out; omega
   case rel => exact ⟨(wrap64 (x7_1 + 1)), (by first | rfl | (simp; done) | (simp [*]; done) | (simp [i64_w, i32_w]; done)), H', ⟨by have := HK1.out; omega⟩, ⟨by repeat (first | (with_reducible first | exact HB.out | apply below_alloc | apply pw_below_drewN | apply below_drew1 | refine below_set ?_ GE208.out) | exact HB.out)⟩⟩
/-! ### laws_eqPoint: function 80 -/
def laws_eqPoint.f (a0_0 : Int) (a0_1 : Int) (a1_0 : Int) (a1_1 : Int) : Option (Bool) := if a0_0 = a1_0 then (if a0_1 = a1_1 then (some true) else (some false)) else (some false)
set_option maxHeartbeats 8000000 in
set_option maxRecDepth 100000 in
theorem laws_eqPoint.calls (a0_0 : Int) (a0_1 : Int) (a1_0 : Int) (a1_1 : Int) (r : Bool) (w : World) (h : laws_eqPoint.f a0_0 a0_1 a1_0 a1_1 = some r) :
    Calls Try.prog 80 #[.agg #[.int .i64 a0_0, .int .i64 a0_1], .agg #[.int .i64 a1_0, .int .i64 a1_1]] w fun e w' => e = .returned (.bool r) ∧ Below w.heap.size w w' := by
  have hu105 := Try.underlying105
  have HB := Aside0.mk (Below.refl w.heap.size w)
  have H : (if a0_0 = a1_0 then (if a0_1 = a1_1 then (some true) else (some false)) else (some false)) = some r := h
  clear h
  by_cases c3 : a0_0 = a1_0
  · rw [if_pos c3] at H
    have c3b0 : (a0_0 == a1_0) = true := beq_iff_eq.mpr c3
    have c3b1 : (a0_0 != a1_0) = false := bne_eq_false_iff_eq.mpr c3
    clear c3
    by_cases c4 : a0_1 = a1_1
    · rw [if_pos c4] at H
      have c4b0 : (a0_1 == a1_1) = true := beq_iff_eq.mpr c4
      have c4b1 : (a0_1 != a1_1) = false := bne_eq_false_iff_eq.mpr c4
      clear c4
      obtain rfl := Option.some.inj H
      go_enter Try.func80, Try.ntmps80
      go_wp2_with (first | ((with_reducible refine gate_dst (N := 2) rfl ?_); refine box_event ?hg (N := 2) ?hd (cs := #[.int .i64 a0_0, .int .i64 a0_1]) (t := 105) ?hr ?_; (case hd => rfl); (case hg => rfl); (case hr => first | (go_simp; done) | (go_simp; rfl)); intro gb211 hg w5 hbox hb; have n0_ := Aside0.mk (below_step (by repeat (first | (with_reducible first | exact HB.out | apply below_alloc | apply pw_below_drewN | apply below_drew1) | exact HB.out)) hb); have n1_ := Aside0.mk (hbox); have n2_ := Aside0.mk ((by rw [hg]; exact (below_size (by repeat (first | (with_reducible first | exact HB.out | apply below_alloc | apply pw_below_drewN | apply below_drew1) | exact HB.out))) : w.heap.size ≤ gb211)); have n3_ := Aside0.mk ((by rw [hg]; exact (below_size (by repeat (first | (with_reducible first | exact HB.out | apply below_alloc | apply pw_below_drewN | apply below_drew1) | exact HB.out))) : w.heap.size ≤ gb211)); clear HB; have HB := n0_; have BK211 := n1_; have GW211 := n2_; have GE211 := n3_; clear n0_ n1_ n2_ n3_; clear hb hbox hg) | ((with_reducible refine gate_dst (N := 3) rfl ?_); refine box_event ?hg (N := 3) ?hd (cs := #[.int .i64 a1_0, .int .i64 a1_1]) (t := 105) ?hr ?_; (case hd => rfl); (case hg => rfl); (case hr => first | (go_simp; done) | (go_simp; rfl)); intro gb212 hg w6 hbox hb; have n0_ := Aside0.mk (blk_below (g := gb211) (o := .cells #[.int .i64 a0_0, .int .i64 a0_1] 105 (0, 0)) (by (with_reducible repeat (first | refine blk_drewN ?_ _ | refine blk_drew ?_ | refine blk_alloc ?_ _)); exact BK211.out) hb); have n1_ := Aside0.mk (below_step (by repeat (first | (with_reducible first | exact HB.out | apply below_alloc | apply pw_below_drewN | apply below_drew1 | refine below_set ?_ GE211.out) | exact HB.out)) hb); have n2_ := Aside0.mk (hbox); have n3_ := Aside0.mk ((by rw [hg]; exact (below_size (by repeat (first | (with_reducible first | exact HB.out | apply below_alloc | apply pw_below_drewN | apply below_drew1 | refine below_set ?_ GE211.out) | exact HB.out))) : w.heap.size ≤ gb212)); have n4_ := Aside0.mk ((by rw [hg]; exact (below_size (by repeat (first | (with_reducible first | exact HB.out | apply below_alloc | apply pw_below_drewN | apply below_drew1 | refine below_set ?_ GE211.out) | exact HB.out))) : w.heap.size ≤ gb212)); have n5_ := Aside0.mk ((by rw [hg]; exact Nat.ne_of_lt (blk_lt (g := gb211) (o := .cells #[.int .i64 a0_0, .int .i64 a0_1] 105 (0, 0)) (by (with_reducible repeat (first | refine blk_drewN ?_ _ | refine blk_drew ?_ | refine blk_alloc ?_ _)); exact BK211.out)) : gb211 ≠ gb212)); have n6_ := Aside0.mk ((by rw [hg]; exact Nat.ne_of_gt (blk_lt (g := gb211) (o := .cells #[.int .i64 a0_0, .int .i64 a0_1] 105 (0, 0)) (by (with_reducible repeat (first | refine blk_drewN ?_ _ | refine blk_drew ?_ | refine blk_alloc ?_ _)); exact BK211.out)) : gb212 ≠ gb211)); clear BK211; clear HB; have BK211 := n0_; have HB := n1_; have BK212 := n2_; have GW212 := n3_; have GE212 := n4_; have NB211_212 := n5_; have NB212_211 := n6_; clear n0_ n1_ n2_ n3_ n4_ n5_ n6_; clear hb hbox hg; have hnb7 := NB211_212.out; have hnc7 := NB212_211.out; have hcz8_0 : w6.cell? ⟨gb211, 0, none⟩ = some (.int .i64 a0_0) := (blk_cell BK211.out 0).trans rfl; have hcz8_1 : w6.cell? ⟨gb211, 1, none⟩ = some (.int .i64 a0_1) := (blk_cell BK211.out 1).trans rfl; have hfz8_0 := blk_frozen BK211.out 0; have hfz8_1 := blk_frozen BK211.out 1; have hcz9_0 : w6.cell? ⟨gb212, 0, none⟩ = some (.int .i64 a1_0) := (blk_cell BK212.out 0).trans rfl; have hcz9_1 : w6.cell? ⟨gb212, 1, none⟩ = some (.int .i64 a1_1) := (blk_cell BK212.out 1).trans rfl; have hfz9_0 := blk_frozen BK212.out 0; have hfz9_1 := blk_frozen BK212.out 1))
      go_ret
      exact ⟨by first | rfl | (simp [errW_none, errW_some] <;> rfl) | (simp [*, errW_none, errW_some] <;> rfl), by repeat (first | (with_reducible first | exact HB.out | apply below_alloc | apply pw_below_drewN | apply below_drew1 | refine below_set ?_ GE211.out | refine below_set ?_ GE212.out) | exact HB.out)⟩
    · rw [if_neg c4] at H
      have c4b0 : (a0_1 == a1_1) = false := beq_eq_false_iff_ne.mpr c4
      have c4b1 : (a0_1 != a1_1) = true := bne_iff_ne.mpr c4
      obtain rfl := Option.some.inj H
      go_enter Try.func80, Try.ntmps80
      go_wp2_with (first | ((with_reducible refine gate_dst (N := 2) rfl ?_); refine box_event ?hg (N := 2) ?hd (cs := #[.int .i64 a0_0, .int .i64 a0_1]) (t := 105) ?hr ?_; (case hd => rfl); (case hg => rfl); (case hr => first | (go_simp; done) | (go_simp; rfl)); intro gb211 hg w10 hbox hb; have n0_ := Aside0.mk (below_step (by repeat (first | (with_reducible first | exact HB.out | apply below_alloc | apply pw_below_drewN | apply below_drew1) | exact HB.out)) hb); have n1_ := Aside0.mk (hbox); have n2_ := Aside0.mk ((by rw [hg]; exact (below_size (by repeat (first | (with_reducible first | exact HB.out | apply below_alloc | apply pw_below_drewN | apply below_drew1) | exact HB.out))) : w.heap.size ≤ gb211)); have n3_ := Aside0.mk ((by rw [hg]; exact (below_size (by repeat (first | (with_reducible first | exact HB.out | apply below_alloc | apply pw_below_drewN | apply below_drew1) | exact HB.out))) : w.heap.size ≤ gb211)); clear HB; have HB := n0_; have BK211 := n1_; have GW211 := n2_; have GE211 := n3_; clear n0_ n1_ n2_ n3_; clear hb hbox hg) | ((with_reducible refine gate_dst (N := 3) rfl ?_); refine box_event ?hg (N := 3) ?hd (cs := #[.int .i64 a1_0, .int .i64 a1_1]) (t := 105) ?hr ?_; (case hd => rfl); (case hg => rfl); (case hr => first | (go_simp; done) | (go_simp; rfl)); intro gb212 hg w11 hbox hb; have n0_ := Aside0.mk (blk_below (g := gb211) (o := .cells #[.int .i64 a0_0, .int .i64 a0_1] 105 (0, 0)) (by (with_reducible repeat (first | refine blk_drewN ?_ _ | refine blk_drew ?_ | refine blk_alloc ?_ _)); exact BK211.out) hb); have n1_ := Aside0.mk (below_step (by repeat (first | (with_reducible first | exact HB.out | apply below_alloc | apply pw_below_drewN | apply below_drew1 | refine below_set ?_ GE211.out) | exact HB.out)) hb); have n2_ := Aside0.mk (hbox); have n3_ := Aside0.mk ((by rw [hg]; exact (below_size (by repeat (first | (with_reducible first | exact HB.out | apply below_alloc | apply pw_below_drewN | apply below_drew1 | refine below_set ?_ GE211.out) | exact HB.out))) : w.heap.size ≤ gb212)); have n4_ := Aside0.mk ((by rw [hg]; exact (below_size (by repeat (first | (with_reducible first | exact HB.out | apply below_alloc | apply pw_below_drewN | apply below_drew1 | refine below_set ?_ GE211.out) | exact HB.out))) : w.heap.size ≤ gb212)); have n5_ := Aside0.mk ((by rw [hg]; exact Nat.ne_of_lt (blk_lt (g := gb211) (o := .cells #[.int .i64 a0_0, .int .i64 a0_1] 105 (0, 0)) (by (with_reducible repeat (first | refine blk_drewN ?_ _ | refine blk_drew ?_ | refine blk_alloc ?_ _)); exact BK211.out)) : gb211 ≠ gb212)); have n6_ := Aside0.mk ((by rw [hg]; exact Nat.ne_of_gt (blk_lt (g := gb211) (o := .cells #[.int .i64 a0_0, .int .i64 a0_1] 105 (0, 0)) (by (with_reducible repeat (first | refine blk_drewN ?_ _ | refine blk_drew ?_ | refine blk_alloc ?_ _)); exact BK211.out)) : gb212 ≠ gb211)); clear BK211; clear HB; have BK211 := n0_; have HB := n1_; have BK212 := n2_; have GW212 := n3_; have GE212 := n4_; have NB211_212 := n5_; have NB212_211 := n6_; clear n0_ n1_ n2_ n3_ n4_ n5_ n6_; clear hb hbox hg; have hnb12 := NB211_212.out; have hnc12 := NB212_211.out; have hcz13_0 : w11.cell? ⟨gb211, 0, none⟩ = some (.int .i64 a0_0) := (blk_cell BK211.out 0).trans rfl; have hcz13_1 : w11.cell? ⟨gb211, 1, none⟩ = some (.int .i64 a0_1) := (blk_cell BK211.out 1).trans rfl; have hfz13_0 := blk_frozen BK211.out 0; have hfz13_1 := blk_frozen BK211.out 1; have hcz14_0 : w11.cell? ⟨gb212, 0, none⟩ = some (.int .i64 a1_0) := (blk_cell BK212.out 0).trans rfl; have hcz14_1 : w11.cell? ⟨gb212, 1, none⟩ = some (.int .i64 a1_1) := (blk_cell BK212.out 1).trans rfl; have hfz14_0 := blk_frozen BK212.out 0; have hfz14_1 := blk_frozen BK212.out 1))
      go_ret
      exact ⟨by first | rfl | (simp [errW_none, errW_some] <;> rfl) | (simp [*, errW_none, errW_some] <;> rfl), by repeat (first | (with_reducible first | exact HB.out | apply below_alloc | apply pw_below_drewN | apply below_drew1 | refine below_set ?_ GE211.out | refine below_set ?_ GE212.out) | exact HB.out)⟩
  · rw [if_neg c3] at H
    have c3b0 : (a0_0 == a1_0) = false := beq_eq_false_iff_ne.mpr c3
    have c3b1 : (a0_0 != a1_0) = true := bne_iff_ne.mpr c3
    obtain rfl := Option.some.inj H
    go_enter Try.func80, Try.ntmps80
    go_wp2_with (first | ((with_reducible refine gate_dst (N := 2) rfl ?_); refine box_event ?hg (N := 2) ?hd (cs := #[.int .i64 a0_0, .int .i64 a0_1]) (t := 105) ?hr ?_; (case hd => rfl); (case hg => rfl); (case hr => first | (go_simp; done) | (go_simp; rfl)); intro gb211 hg w15 hbox hb; have n0_ := Aside0.mk (below_step (by repeat (first | (with_reducible first | exact HB.out | apply below_alloc | apply pw_below_drewN | apply below_drew1) | exact HB.out)) hb); have n1_ := Aside0.mk (hbox); have n2_ := Aside0.mk ((by rw [hg]; exact (below_size (by repeat (first | (with_reducible first | exact HB.out | apply below_alloc | apply pw_below_drewN | apply below_drew1) | exact HB.out))) : w.heap.size ≤ gb211)); have n3_ := Aside0.mk ((by rw [hg]; exact (below_size (by repeat (first | (with_reducible first | exact HB.out | apply below_alloc | apply pw_below_drewN | apply below_drew1) | exact HB.out))) : w.heap.size ≤ gb211)); clear HB; have HB := n0_; have BK211 := n1_; have GW211 := n2_; have GE211 := n3_; clear n0_ n1_ n2_ n3_; clear hb hbox hg) | ((with_reducible refine gate_dst (N := 3) rfl ?_); refine box_event ?hg (N := 3) ?hd (cs := #[.int .i64 a1_0, .int .i64 a1_1]) (t := 105) ?hr ?_; (case hd => rfl); (case hg => rfl); (case hr => first | (go_simp; done) | (go_simp; rfl)); intro gb212 hg w16 hbox hb; have n0_ := Aside0.mk (blk_below (g := gb211) (o := .cells #[.int .i64 a0_0, .int .i64 a0_1] 105 (0, 0)) (by (with_reducible repeat (first | refine blk_drewN ?_ _ | refine blk_drew ?_ | refine blk_alloc ?_ _)); exact BK211.out) hb); have n1_ := Aside0.mk (below_step (by repeat (first | (with_reducible first | exact HB.out | apply below_alloc | apply pw_below_drewN | apply below_drew1 | refine below_set ?_ GE211.out) | exact HB.out)) hb); have n2_ := Aside0.mk (hbox); have n3_ := Aside0.mk ((by rw [hg]; exact (below_size (by repeat (first | (with_reducible first | exact HB.out | apply below_alloc | apply pw_below_drewN | apply below_drew1 | refine below_set ?_ GE211.out) | exact HB.out))) : w.heap.size ≤ gb212)); have n4_ := Aside0.mk ((by rw [hg]; exact (below_size (by repeat (first | (with_reducible first | exact HB.out | apply below_alloc | apply pw_below_drewN | apply below_drew1 | refine below_set ?_ GE211.out) | exact HB.out))) : w.heap.size ≤ gb212)); have n5_ := Aside0.mk ((by rw [hg]; exact Nat.ne_of_lt (blk_lt (g := gb211) (o := .cells #[.int .i64 a0_0, .int .i64 a0_1] 105 (0, 0)) (by (with_reducible repeat (first | refine blk_drewN ?_ _ | refine blk_drew ?_ | refine blk_alloc ?_ _)); exact BK211.out)) : gb211 ≠ gb212)); have n6_ := Aside0.mk ((by rw [hg]; exact Nat.ne_of_gt (blk_lt (g := gb211) (o := .cells #[.int .i64 a0_0, .int .i64 a0_1] 105 (0, 0)) (by (with_reducible repeat (first | refine blk_drewN ?_ _ | refine blk_drew ?_ | refine blk_alloc ?_ _)); exact BK211.out)) : gb212 ≠ gb211)); clear BK211; clear HB; have BK211 := n0_; have HB := n1_; have BK212 := n2_; have GW212 := n3_; have GE212 := n4_; have NB211_212 := n5_; have NB212_211 := n6_; clear n0_ n1_ n2_ n3_ n4_ n5_ n6_; clear hb hbox hg; have hnb17 := NB211_212.out; have hnc17 := NB212_211.out; have hcz18_0 : w16.cell? ⟨gb211, 0, none⟩ = some (.int .i64 a0_0) := (blk_cell BK211.out 0).trans rfl; have hcz18_1 : w16.cell? ⟨gb211, 1, none⟩ = some (.int .i64 a0_1) := (blk_cell BK211.out 1).trans rfl; have hfz18_0 := blk_frozen BK211.out 0; have hfz18_1 := blk_frozen BK211.out 1; have hcz19_0 : w16.cell? ⟨gb212, 0, none⟩ = some (.int .i64 a1_0) := (blk_cell BK212.out 0).trans rfl; have hcz19_1 : w16.cell? ⟨gb212, 1, none⟩ = some (.int .i64 a1_1) := (blk_cell BK212.out 1).trans rfl; have hfz19_0 := blk_frozen BK212.out 0; have hfz19_1 := blk_frozen BK212.out 1))
    go_ret
    exact ⟨by first | rfl | (simp [errW_none, errW_some] <;> rfl) | (simp [*, errW_none, errW_some] <;> rfl), by repeat (first | (with_reducible first | exact HB.out | apply below_alloc | apply pw_below_drewN | apply below_drew1 | refine below_set ?_ GE211.out | refine below_set ?_ GE212.out) | exact HB.out)⟩

end Go.Proofs.Ytakagkflgkoiiaa.GFnExactValidPieces

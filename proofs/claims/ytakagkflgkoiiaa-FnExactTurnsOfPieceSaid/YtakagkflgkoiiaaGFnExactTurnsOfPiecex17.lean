-- Written by the session's own program (gen.py) out of the translation's print. Lean checks it.
import Derived.Test.YtakagkflgkoiiaaGFnExactTurnsOfPiecex0
import Derived.Test.YtakagkflgkoiiaaGFnExactTurnsOfPiecex2
import Derived.Test.YtakagkflgkoiiaaGFnExactTurnsOfPiecex7
import Derived.Test.YtakagkflgkoiiaaGFnExactTurnsOfPiecex14
import Derived.Test.YtakagkflgkoiiaaGFnExactTurnsOfPiecex15
import Derived.Test.YtakagkflgkoiiaaGFnExactTurnsOfPiecex16
namespace Go.Proofs.Ytakagkflgkoiiaa.GFnExactTurnsOfPiece
open Go.RowKit Go.Proofs.YtakagkflgkoiiaaW.PrintWords Go.Proofs.YtakagkflgkoiiaaW.PrintLast Go.Proofs.YtakagkflgkoiiaaW.PrintMore
attribute [local go_sem] max2_int min2_int max_two min_two max_three min_three max_four min_four   -- for this text's walks alone
set_option linter.unusedVariables false
set_option linter.unusedSimpArgs false

/-! ### laws_FnExactTurnsOfPiece: function 9 -/
mutual
def laws_FnExactTurnsOfPiece.j0 : Nat → List Int → Int → List Int → Int → Bool → ByteArray → List (S123) → Int → Bool → ByteArray → List (S105) → Int → Bool → Option (Bool)
  | 0, _, _, _, _, _, _, _, _, _, _, _, _, _ => none
  | k + 1, x4, x5, x7, x8, x40, x382000, x382001, x382002, x382003, x400000, x400001, x400002, x400003 => if x40 = true then (some false) else ((laws_toPiece.f k x382000 x382001 x382002 x382003).bind fun bt405 => ((laws_eqPiece.f k x400000 x400001 x400002 x400003 bt405.1 bt405.2.1 bt405.2.2.1 bt405.2.2.2).bind fun t411 => (if t411 = true then ((laws_markPiece.f k x400000 x400001 x400002 x400003 1).bind fun bt412 => (if bt412.1 < 0 then (laws_FnExactTurnsOfPiece.j1 k x4 x5 x7 true x382000 x382001 x382002 x382003) else ((laws_eqInt64S.f k x7 x4).bind fun t414 => (if t414 = true then (laws_FnExactTurnsOfPiece.j1 k x4 x5 x7 (x8 != x5) x382000 x382001 x382002 x382003) else (laws_FnExactTurnsOfPiece.j1 k x4 x5 x7 true x382000 x382001 x382002 x382003))))) else (some false))))
def laws_FnExactTurnsOfPiece.j1 : Nat → List Int → Int → List Int → Bool → ByteArray → List (S123) → Int → Bool → Option (Bool)
  | 0, _, _, _, _, _, _, _, _ => none
  | k + 1, x4, x5, x7, x61, x382000, x382001, x382002, x382003 => if x61 = true then (some false) else ((laws_markInt64S.f k x7 1).bind fun bt415 => ((laws_heldInt64S.f k bt415.2 1).bind fun t417 => (if t417 < 0 then (some false) else (if t417 = bt415.1 then ((laws_toPiece.f k x382000 x382001 x382002 x382003).bind fun bt418 => ((impl_TurnsOfPiece.f k bt418.1 bt418.2.1 bt418.2.2.1 bt418.2.2.2).bind fun bt424 => ((laws_eqInt64S.f k bt424.1 x4).bind fun t428 => (if t428 = true then (laws_FnExactTurnsOfPiece.j2 k bt415.2 bt415.1 (bt424.2 != x5)) else (laws_FnExactTurnsOfPiece.j2 k bt415.2 bt415.1 true))))) else (some false)))))
def laws_FnExactTurnsOfPiece.j2 : Nat → List Int → Int → Bool → Option (Bool)
  | 0, _, _, _ => none
  | k + 1, x7, x10, x87 => if x87 = true then (some false) else ((laws_heldInt64S.f k x7 1).bind fun t429 => (if t429 < 0 then (some false) else (if t429 = x10 then (some true) else (some false))))
end
def laws_FnExactTurnsOfPiece.f (k : Nat) (a0_0 : ByteArray) (l0_1 : List (S123)) (a0_2 : Int) (a0_3 : Bool) : Option (Bool) := (laws_szPiece.f a0_0 l0_1 a0_2 a0_3 1048576).bind fun t382 => (if t382 < 0 then (some true) else ((laws_toPiece.f k a0_0 l0_1 a0_2 a0_3).bind fun bt383 => ((spec_TurnsOfPiece.f k bt383.1 bt383.2.1 bt383.2.2.1 bt383.2.2.2).bind fun bt389 => ((laws_toPiece.f k a0_0 l0_1 a0_2 a0_3).bind fun bt393 => ((impl_TurnsOfPiece.f k bt393.1 bt393.2.1 bt393.2.2.1 bt393.2.2.2).bind fun bt400 => ((laws_eqInt64S.f k bt400.1 bt389.1).bind fun t404 => (if t404 = true then (laws_FnExactTurnsOfPiece.j0 k bt389.1 bt389.2 bt400.1 bt400.2 (bt400.2 != bt389.2) a0_0 l0_1 a0_2 a0_3 bt393.1 bt393.2.1 bt393.2.2.1 bt393.2.2.2) else (laws_FnExactTurnsOfPiece.j0 k bt389.1 bt389.2 bt400.1 bt400.2 true a0_0 l0_1 a0_2 a0_3 bt393.1 bt393.2.1 bt393.2.2.1 bt393.2.2.2))))))))
open List renaming setIfInBounds_toArray → sA, set_cons_zero → sB, set_cons_succ → sC
open Go.Proofs.YtakagkflgkoiiaaW.PrintWords.Aside0 renaming mk → mkA
open Go.Proofs.YtakagkflgkoiiaaX (dt_ bc_ p0_ p1_ bl_ cb_ bs0_ bs1_ bs2_ bs3_ bs4_ bs5_ bs6_ bs7_ bs8_ bs9_ bs10_ bs11_ bs12_)
set_option maxHeartbeats 8000000 in
set_option maxRecDepth 100000 in
theorem laws_FnExactTurnsOfPiece.calls (k : Nat) (a0_0 : ByteArray) (A0_1 : Option Addr) (c0_1 : Nat) (l0_1 : List (S123)) (a0_2 : Int) (a0_3 : Bool) (r : Bool) (w : World) (hr0_1 : Kd.C k123 w A0_1 l0_1.length l0_1) (hc0_1 : l0_1.length ≤ c0_1) (h : laws_FnExactTurnsOfPiece.f k a0_0 l0_1 a0_2 a0_3 = some r) :
 Calls Try.prog 9 #[.agg #[.string a0_0, .slice A0_1 l0_1.length c0_1, .int .i64 a0_2, .bool a0_3]] w fun e w' => e = .returned (.bool r) ∧ Below w.heap.size w w' := by
 have hu47 := Try.underlying47
 have hu53 := Try.underlying53
 have HR0_1 := mkA hr0_1
 have HC0_1 := mkA hc0_1
 clear hr0_1 hc0_1
 have HB := mkA (Below.refl w.heap.size w)
 have H : ((laws_szPiece.f a0_0 l0_1 a0_2 a0_3 1048576).bind fun t382 => (if t382 < 0 then (some true) else ((laws_toPiece.f k a0_0 l0_1 a0_2 a0_3).bind fun bt383 => ((spec_TurnsOfPiece.f k bt383.1 bt383.2.1 bt383.2.2.1 bt383.2.2.2).bind fun bt389 => ((laws_toPiece.f k a0_0 l0_1 a0_2 a0_3).bind fun bt393 => ((impl_TurnsOfPiece.f k bt393.1 bt393.2.1 bt393.2.2.1 bt393.2.2.2).bind fun bt400 => ((laws_eqInt64S.f k bt400.1 bt389.1).bind fun t404 => (if t404 = true then (laws_FnExactTurnsOfPiece.j0 k bt389.1 bt389.2 bt400.1 bt400.2 (bt400.2 != bt389.2) a0_0 l0_1 a0_2 a0_3 bt393.1 bt393.2.1 bt393.2.2.1 bt393.2.2.2) else (laws_FnExactTurnsOfPiece.j0 k bt389.1 bt389.2 bt400.1 bt400.2 true a0_0 l0_1 a0_2 a0_3 bt393.1 bt393.2.1 bt393.2.2.1 bt393.2.2.2))))))))) = some r := h
 clear h
 replace H := Option.bind_eq_some_iff.mp H
 obtain ⟨t382, A20, H⟩ := H
 replace H : (if t382 < 0 then (some true) else ((laws_toPiece.f k a0_0 l0_1 a0_2 a0_3).bind fun bt383 => ((spec_TurnsOfPiece.f k bt383.1 bt383.2.1 bt383.2.2.1 bt383.2.2.2).bind fun bt389 => ((laws_toPiece.f k a0_0 l0_1 a0_2 a0_3).bind fun bt393 => ((impl_TurnsOfPiece.f k bt393.1 bt393.2.1 bt393.2.2.1 bt393.2.2.2).bind fun bt400 => ((laws_eqInt64S.f k bt400.1 bt389.1).bind fun t404 => (if t404 = true then (laws_FnExactTurnsOfPiece.j0 k bt389.1 bt389.2 bt400.1 bt400.2 (bt400.2 != bt389.2) a0_0 l0_1 a0_2 a0_3 bt393.1 bt393.2.1 bt393.2.2.1 bt393.2.2.2) else (laws_FnExactTurnsOfPiece.j0 k bt389.1 bt389.2 bt400.1 bt400.2 true a0_0 l0_1 a0_2 a0_3 bt393.1 bt393.2.1 bt393.2.2.1 bt393.2.2.2)))))))) = some r := H
 have A2 := mkA A20
 clear A20
 by_cases c3 : t382 < 0
 · rw [if_pos c3] at H
   have c3b0 : decide (t382 < 0) = true := decide_eq_true c3
   clear c3
   obtain rfl := Option.some.inj H
   go_enter Try.func9, Try.ntmps9
   go_wp2_with (first | ((with_reducible refine gate_dst (N := 1) rfl ?_); refine box_event ?hg (N := 1) ?hd (cs := #[.string a0_0, .slice A0_1 l0_1.length c0_1, .int .i64 a0_2, .bool a0_3]) (t := 47) ?hr ?_; (case hd => rfl); (case hg => rfl); (case hr => first | (go_simp; done) | (go_simp; rfl)); intro gb381 hg w4 hbox hb; have n0_ := mkA (below_step (bs0_ HB.out) hb); have n1_ := mkA (hbox); have n2_ := mkA ((by rw [hg]; exact (below_size (bs0_ HB.out)) : w.heap.size ≤ gb381)); have n3_ := mkA ((by rw [hg]; exact (below_size (bs0_ HB.out)) : w.heap.size ≤ gb381)); clear HB; have HB := n0_; have BK381 := n1_; have GW381 := n2_; have GE381 := n3_; clear n0_ n1_ n2_ n3_; clear hb hbox hg; have hcz5_0 : w4.cell? ⟨gb381, 0, none⟩ = some (.string a0_0) := (blk_cell BK381.out 0).trans rfl; have hcz5_1 : w4.cell? ⟨gb381, 1, none⟩ = some (.slice A0_1 l0_1.length c0_1) := (blk_cell BK381.out 1).trans rfl; have hcz5_2 : w4.cell? ⟨gb381, 2, none⟩ = some (.int .i64 a0_2) := (blk_cell BK381.out 2).trans rfl; have hcz5_3 : w4.cell? ⟨gb381, 3, none⟩ = some (.bool a0_3) := (blk_cell BK381.out 3).trans rfl; have hfz5_0 := blk_frozen BK381.out 0; have hfz5_1 := blk_frozen BK381.out 1; have hfz5_2 := blk_frozen BK381.out 2; have hfz5_3 := blk_frozen BK381.out 3) | ((with_reducible refine gate_callee (f := 33) rfl ?_); refine goesL_ (some 16) rfl rfl Try.func33 (by kernel_rfl) rfl #[.agg #[.string a0_0, .slice A0_1 l0_1.length c0_1, .int .i64 a0_2, .bool a0_3], .int .i64 1048576] rfl (by (try simp only [List.map_toArray, List.map_cons, List.map_nil]); first | done | rfl | (simp only [List.length_drop, List.length_take]; rfl)) ?_; (with_reducible refine (laws_szPiece.calls a0_0 _ _ l0_1 a0_2 a0_3 1048576 t382 _ ?side1 ?side2 A2.out).mono ?_); (case side1 => exact cb_ HR0_1.out HB.out); (case side2 => exact HC0_1.out); rintro e w6 ⟨rfl, hb⟩; refine ⟨_, rfl, ?_⟩; have n0_ := mkA (blk_below (g := gb381) (o := .cells #[.string a0_0, .slice A0_1 l0_1.length c0_1, .int .i64 a0_2, .bool a0_3] 47 (0, 0)) (bl_ BK381.out) hb); have n1_ := mkA (below_step (bs1_ HB.out GE381.out) hb); clear BK381; clear HB; have BK381 := n0_; have HB := n1_; clear n0_ n1_; (try clear hb); (try clear hb2); (try clear hk); (try clear hi)))
   go_ret
   exact ⟨by first | rfl | (simp [errW_none, errW_some] <;> rfl) | (simp [*, errW_none, errW_some] <;> rfl), by repeat (first | (with_reducible first | exact HB.out | apply below_alloc | apply pw_below_drewN | apply below_drew1 | refine below_set ?_ GE381.out) | exact HB.out)⟩
 · rw [if_neg c3] at H
   have c3b0 : decide (t382 < 0) = false := decide_eq_false c3
   clear c3
   replace H := Option.bind_eq_some_iff.mp H
   obtain ⟨⟨t383, t384, t387, t388⟩, A70, H⟩ := H
   replace H : ((spec_TurnsOfPiece.f k t383 t384 t387 t388).bind fun bt389 => ((laws_toPiece.f k a0_0 l0_1 a0_2 a0_3).bind fun bt393 => ((impl_TurnsOfPiece.f k bt393.1 bt393.2.1 bt393.2.2.1 bt393.2.2.2).bind fun bt400 => ((laws_eqInt64S.f k bt400.1 bt389.1).bind fun t404 => (if t404 = true then (laws_FnExactTurnsOfPiece.j0 k bt389.1 bt389.2 bt400.1 bt400.2 (bt400.2 != bt389.2) a0_0 l0_1 a0_2 a0_3 bt393.1 bt393.2.1 bt393.2.2.1 bt393.2.2.2) else (laws_FnExactTurnsOfPiece.j0 k bt389.1 bt389.2 bt400.1 bt400.2 true a0_0 l0_1 a0_2 a0_3 bt393.1 bt393.2.1 bt393.2.2.1 bt393.2.2.2)))))) = some r := H
   have A7 := mkA A70
   clear A70
   replace H := Option.bind_eq_some_iff.mp H
   obtain ⟨⟨t389, t392⟩, A80, H⟩ := H
   replace H : ((laws_toPiece.f k a0_0 l0_1 a0_2 a0_3).bind fun bt393 => ((impl_TurnsOfPiece.f k bt393.1 bt393.2.1 bt393.2.2.1 bt393.2.2.2).bind fun bt400 => ((laws_eqInt64S.f k bt400.1 t389).bind fun t404 => (if t404 = true then (laws_FnExactTurnsOfPiece.j0 k t389 t392 bt400.1 bt400.2 (bt400.2 != t392) a0_0 l0_1 a0_2 a0_3 bt393.1 bt393.2.1 bt393.2.2.1 bt393.2.2.2) else (laws_FnExactTurnsOfPiece.j0 k t389 t392 bt400.1 bt400.2 true a0_0 l0_1 a0_2 a0_3 bt393.1 bt393.2.1 bt393.2.2.1 bt393.2.2.2))))) = some r := H
   have A8 := mkA A80
   clear A80
   replace H := Option.bind_eq_some_iff.mp H
   obtain ⟨⟨t393, t394, t397, t398⟩, A90, H⟩ := H
   replace H : ((impl_TurnsOfPiece.f k t393 t394 t397 t398).bind fun bt400 => ((laws_eqInt64S.f k bt400.1 t389).bind fun t404 => (if t404 = true then (laws_FnExactTurnsOfPiece.j0 k t389 t392 bt400.1 bt400.2 (bt400.2 != t392) a0_0 l0_1 a0_2 a0_3 t393 t394 t397 t398) else (laws_FnExactTurnsOfPiece.j0 k t389 t392 bt400.1 bt400.2 true a0_0 l0_1 a0_2 a0_3 t393 t394 t397 t398)))) = some r := H
   have A9 := mkA A90
   clear A90
   replace H := Option.bind_eq_some_iff.mp H
   obtain ⟨⟨t400, t403⟩, A100, H⟩ := H
   replace H : ((laws_eqInt64S.f k t400 t389).bind fun t404 => (if t404 = true then (laws_FnExactTurnsOfPiece.j0 k t389 t392 t400 t403 (t403 != t392) a0_0 l0_1 a0_2 a0_3 t393 t394 t397 t398) else (laws_FnExactTurnsOfPiece.j0 k t389 t392 t400 t403 true a0_0 l0_1 a0_2 a0_3 t393 t394 t397 t398))) = some r := H
   have A10 := mkA A100
   clear A100
   have HC11 := mkA H
   clear H
   go_enter Try.func9, Try.ntmps9
   go_upto_region 8 with (first | ((with_reducible refine gate_dst (N := 1) rfl ?_); refine box_event ?hg (N := 1) ?hd (cs := #[.string a0_0, .slice A0_1 l0_1.length c0_1, .int .i64 a0_2, .bool a0_3]) (t := 47) ?hr ?_; (case hd => rfl); (case hg => rfl); (case hr => first | (go_simp; done) | (go_simp; rfl)); intro gb381 hg w12 hbox hb; have n0_ := mkA (below_step (bs0_ HB.out) hb); have n1_ := mkA (hbox); have n2_ := mkA ((by rw [hg]; exact (below_size (bs0_ HB.out)) : w.heap.size ≤ gb381)); have n3_ := mkA ((by rw [hg]; exact (below_size (bs0_ HB.out)) : w.heap.size ≤ gb381)); clear HB; have HB := n0_; have BK381 := n1_; have GW381 := n2_; have GE381 := n3_; clear n0_ n1_ n2_ n3_; clear hb hbox hg; have hcz13_0 : w12.cell? ⟨gb381, 0, none⟩ = some (.string a0_0) := (blk_cell BK381.out 0).trans rfl; have hcz13_1 : w12.cell? ⟨gb381, 1, none⟩ = some (.slice A0_1 l0_1.length c0_1) := (blk_cell BK381.out 1).trans rfl; have hcz13_2 : w12.cell? ⟨gb381, 2, none⟩ = some (.int .i64 a0_2) := (blk_cell BK381.out 2).trans rfl; have hcz13_3 : w12.cell? ⟨gb381, 3, none⟩ = some (.bool a0_3) := (blk_cell BK381.out 3).trans rfl; have hfz13_0 := blk_frozen BK381.out 0; have hfz13_1 := blk_frozen BK381.out 1; have hfz13_2 := blk_frozen BK381.out 2; have hfz13_3 := blk_frozen BK381.out 3) | ((with_reducible refine gate_callee (f := 33) rfl ?_); refine goesL_ (some 16) rfl rfl Try.func33 (by kernel_rfl) rfl #[.agg #[.string a0_0, .slice A0_1 l0_1.length c0_1, .int .i64 a0_2, .bool a0_3], .int .i64 1048576] rfl (by (try simp only [List.map_toArray, List.map_cons, List.map_nil]); first | done | rfl | (simp only [List.length_drop, List.length_take]; rfl)) ?_; (with_reducible refine (laws_szPiece.calls a0_0 _ _ l0_1 a0_2 a0_3 1048576 t382 _ ?side1 ?side2 A2.out).mono ?_); (case side1 => exact cb_ HR0_1.out HB.out); (case side2 => exact HC0_1.out); rintro e w14 ⟨rfl, hb⟩; refine ⟨_, rfl, ?_⟩; have n0_ := mkA (blk_below (g := gb381) (o := .cells #[.string a0_0, .slice A0_1 l0_1.length c0_1, .int .i64 a0_2, .bool a0_3] 47 (0, 0)) (bl_ BK381.out) hb); have n1_ := mkA (below_step (bs1_ HB.out GE381.out) hb); clear BK381; clear HB; have BK381 := n0_; have HB := n1_; clear n0_ n1_; (try clear hb); (try clear hb2); (try clear hk); (try clear hi); have hcz15_0 : w14.cell? ⟨gb381, 0, none⟩ = some (.string a0_0) := (blk_cell BK381.out 0).trans rfl; have hcz15_1 : w14.cell? ⟨gb381, 1, none⟩ = some (.slice A0_1 l0_1.length c0_1) := (blk_cell BK381.out 1).trans rfl; have hcz15_2 : w14.cell? ⟨gb381, 2, none⟩ = some (.int .i64 a0_2) := (blk_cell BK381.out 2).trans rfl; have hcz15_3 : w14.cell? ⟨gb381, 3, none⟩ = some (.bool a0_3) := (blk_cell BK381.out 3).trans rfl; have hfz15_0 := blk_frozen BK381.out 0; have hfz15_1 := blk_frozen BK381.out 1; have hfz15_2 := blk_frozen BK381.out 2; have hfz15_3 := blk_frozen BK381.out 3) | ((with_reducible refine gate_callee (f := 35) rfl ?_); refine goesL_ (some 21) rfl rfl Try.func35 (by kernel_rfl) rfl #[.agg #[.string a0_0, .slice A0_1 l0_1.length c0_1, .int .i64 a0_2, .bool a0_3]] rfl (by (try simp only [List.map_toArray, List.map_cons, List.map_nil]); first | done | rfl | (simp only [List.length_drop, List.length_take]; rfl)) ?_; (with_reducible refine (laws_toPiece.calls k a0_0 _ _ l0_1 a0_2 a0_3 t383 t384 t387 t388 _ ?side1 ?side2 A7.out).mono ?_); (case side1 => exact cb_ HR0_1.out HB.out); (case side2 => exact HC0_1.out); rintro e w16 ⟨v385, rfl, ho0, hb⟩; refine ⟨_, rfl, ?_⟩; have n0_ := mkA (Kd.R_lower ho0 (below_size (bs1_ HB.out GE381.out))); have n1_ := mkA (blk_below (g := gb381) (o := .cells #[.string a0_0, .slice A0_1 l0_1.length c0_1, .int .i64 a0_2, .bool a0_3] 47 (0, 0)) (bl_ BK381.out) hb); have n2_ := mkA (below_step (bs1_ HB.out GE381.out) hb); clear BK381; clear HB; have HO386 := n0_; have BK381 := n1_; have HB := n2_; clear n0_ n1_ n2_; (try clear hb); (try clear hb2); (try clear hk); (try clear hi); (try clear ho0); obtain ⟨Ao17, co17, eo17⟩ := Kd.R_slice HO386.out; subst eo17) | ((with_reducible refine gate_callee (f := 34) rfl ?_); refine goesL_ (some 22) rfl rfl Try.func34 (by kernel_rfl) rfl #[.agg #[.string t383, .slice Ao17 t384.length co17, .int .i64 t387, .bool t388]] rfl (by (try simp only [List.map_toArray, List.map_cons, List.map_nil]); first | done | rfl | (simp only [List.length_drop, List.length_take]; rfl)) ?_; (with_reducible refine (spec_TurnsOfPiece.calls k t383 _ _ t384 t387 t388 t389 t392 _ ?side1 ?side2 A8.out).mono ?_); (case side1 => repeat (first | exact (Kd.R_reads' HO386.out).2.2 | (with_reducible refine Kd.C_alloc ?_ _) | (with_reducible refine Kd.C_drewN ?_ _) | (with_reducible refine Kd.C_drew ?_))); (case side2 => exact (Kd.R_reads' HO386.out).2.1); rintro e w18 ⟨v390, rfl, ho0, hb⟩; refine ⟨_, rfl, ?_⟩; have n0_ := mkA (Kd.R_below (by (with_reducible repeat (first | apply Kd.R_alloc | apply Kd.R_drewN | apply Kd.R_drew)); exact HO386.out) hb); have n1_ := mkA (Kd.R_lower ho0 (below_size (bs1_ HB.out GE381.out))); have n2_ := mkA (blk_below (g := gb381) (o := .cells #[.string a0_0, .slice A0_1 l0_1.length c0_1, .int .i64 a0_2, .bool a0_3] 47 (0, 0)) (bl_ BK381.out) hb); have n3_ := mkA (below_step (bs1_ HB.out GE381.out) hb); clear HO386; clear BK381; clear HB; have HO386 := n0_; have HO391 := n1_; have BK381 := n2_; have HB := n3_; clear n0_ n1_ n2_ n3_; (try clear hb); (try clear hb2); (try clear hk); (try clear hi); (try clear ho0); have hcz19_0 : w18.cell? ⟨gb381, 0, none⟩ = some (.string a0_0) := (blk_cell BK381.out 0).trans rfl; have hcz19_1 : w18.cell? ⟨gb381, 1, none⟩ = some (.slice A0_1 l0_1.length c0_1) := (blk_cell BK381.out 1).trans rfl; have hcz19_2 : w18.cell? ⟨gb381, 2, none⟩ = some (.int .i64 a0_2) := (blk_cell BK381.out 2).trans rfl; have hcz19_3 : w18.cell? ⟨gb381, 3, none⟩ = some (.bool a0_3) := (blk_cell BK381.out 3).trans rfl; have hfz19_0 := blk_frozen BK381.out 0; have hfz19_1 := blk_frozen BK381.out 1; have hfz19_2 := blk_frozen BK381.out 2; have hfz19_3 := blk_frozen BK381.out 3) | ((with_reducible refine gate_callee (f := 35) rfl ?_); refine goesL_ (some 26) rfl rfl Try.func35 (by kernel_rfl) rfl #[.agg #[.string a0_0, .slice A0_1 l0_1.length c0_1, .int .i64 a0_2, .bool a0_3]] rfl (by (try simp only [List.map_toArray, List.map_cons, List.map_nil]); first | done | rfl | (simp only [List.length_drop, List.length_take]; rfl)) ?_; (with_reducible refine (laws_toPiece.calls k a0_0 _ _ l0_1 a0_2 a0_3 t393 t394 t397 t398 _ ?side1 ?side2 A9.out).mono ?_); (case side1 => exact cb_ HR0_1.out HB.out); (case side2 => exact HC0_1.out); rintro e w20 ⟨v395, rfl, ho0, hb⟩; refine ⟨_, rfl, ?_⟩; have n0_ := mkA (Kd.R_elder' (by (with_reducible repeat (first | apply Kd.R_alloc | apply Kd.R_drewN | apply Kd.R_drew)); exact HO386.out) (Kd.R_base ho0) hb); have n1_ := mkA (Kd.R_below (by (with_reducible repeat (first | apply Kd.R_alloc | apply Kd.R_drewN | apply Kd.R_drew)); exact HO391.out) hb); have n2_ := mkA (Kd.R_lower (Kd.R_new' ho0 (Kd.R_lt (by (with_reducible repeat (first | apply Kd.R_alloc | apply Kd.R_drewN | apply Kd.R_drew)); exact HO386.out))) (below_size (bs1_ HB.out GE381.out))); have n3_ := mkA (blk_below (g := gb381) (o := .cells #[.string a0_0, .slice A0_1 l0_1.length c0_1, .int .i64 a0_2, .bool a0_3] 47 (0, 0)) (bl_ BK381.out) hb); have n4_ := mkA (below_step (bs1_ HB.out GE381.out) hb); clear HO386; clear HO391; clear BK381; clear HB; have HO386 := n0_; have HO391 := n1_; have HO396 := n2_; have BK381 := n3_; have HB := n4_; clear n0_ n1_ n2_ n3_ n4_; (try clear hb); (try clear hb2); (try clear hk); (try clear hi); (try clear ho0)) | ((with_reducible refine gate_dst (N := 6) rfl ?_); refine box_event ?hg (N := 6) ?hd (cs := #[.string (⟨#[]⟩ : ByteArray), .slice none 0 0, .int .i64 0, .bool false]) (t := 53) ?hr ?_; (case hd => rfl); (case hg => rfl); (case hr => first | (go_simp; done) | (go_simp; rfl)); intro gb399 hg w21 hbox hb; have n0_ := mkA (Kd.R_below (by (with_reducible repeat (first | apply Kd.R_alloc | apply Kd.R_drewN | apply Kd.R_drew)); exact HO386.out) hb); have n1_ := mkA (Kd.R_below (by (with_reducible repeat (first | apply Kd.R_alloc | apply Kd.R_drewN | apply Kd.R_drew)); exact HO391.out) hb); have n2_ := mkA (Kd.R_below (by (with_reducible repeat (first | apply Kd.R_alloc | apply Kd.R_drewN | apply Kd.R_drew)); exact HO396.out) hb); have n3_ := mkA (blk_below (g := gb381) (o := .cells #[.string a0_0, .slice A0_1 l0_1.length c0_1, .int .i64 a0_2, .bool a0_3] 47 (0, 0)) (bl_ BK381.out) hb); have n4_ := mkA (below_step (bs1_ HB.out GE381.out) hb); have n5_ := mkA (hbox); have n6_ := mkA ((by rw [hg]; exact (below_size (bs1_ HB.out GE381.out)) : w.heap.size ≤ gb399)); have n7_ := mkA ((by rw [hg]; exact (below_size (bs1_ HB.out GE381.out)) : w.heap.size ≤ gb399)); have n8_ := mkA ((by rw [hg]; exact Nat.ne_of_lt (blk_lt (g := gb381) (o := .cells #[.string a0_0, .slice A0_1 l0_1.length c0_1, .int .i64 a0_2, .bool a0_3] 47 (0, 0)) (bl_ BK381.out)) : gb381 ≠ gb399)); have n9_ := mkA ((by rw [hg]; exact Nat.ne_of_gt (blk_lt (g := gb381) (o := .cells #[.string a0_0, .slice A0_1 l0_1.length c0_1, .int .i64 a0_2, .bool a0_3] 47 (0, 0)) (bl_ BK381.out)) : gb399 ≠ gb381)); clear HO386; clear HO391; clear HO396; clear BK381; clear HB; have HO386 := n0_; have HO391 := n1_; have HO396 := n2_; have BK381 := n3_; have HB := n4_; have BK399 := n5_; have GW399 := n6_; have GE399 := n7_; have NB381_399 := n8_; have NB399_381 := n9_; clear n0_ n1_ n2_ n3_ n4_ n5_ n6_ n7_ n8_ n9_; clear hb hbox hg; have hnb22 := NB399_381.out; have hnc22 := NB381_399.out; have hcz23_0 : w21.cell? ⟨gb399, 0, none⟩ = some (.string (⟨#[]⟩ : ByteArray)) := (blk_cell BK399.out 0).trans rfl; have hcz23_1 : w21.cell? ⟨gb399, 1, none⟩ = some (.slice none 0 0) := (blk_cell BK399.out 1).trans rfl; have hcz23_2 : w21.cell? ⟨gb399, 2, none⟩ = some (.int .i64 0) := (blk_cell BK399.out 2).trans rfl; have hcz23_3 : w21.cell? ⟨gb399, 3, none⟩ = some (.bool false) := (blk_cell BK399.out 3).trans rfl; have hfz23_0 := blk_frozen BK399.out 0; have hfz23_1 := blk_frozen BK399.out 1; have hfz23_2 := blk_frozen BK399.out 2; have hfz23_3 := blk_frozen BK399.out 3; obtain ⟨Ao24, co24, eo24⟩ := Kd.R_slice HO396.out; subst eo24) | ((with_reducible refine gate_callee (f := 36) rfl ?_); refine goesL_ (some 29) rfl rfl Try.func36 (by kernel_rfl) rfl #[.agg #[.string t393, .slice Ao24 t394.length co24, .int .i64 t397, .bool t398]] rfl (by (try simp only [List.map_toArray, List.map_cons, List.map_nil]); first | done | rfl | (simp only [List.length_drop, List.length_take]; rfl)) ?_; (with_reducible refine (impl_TurnsOfPiece.calls k t393 _ _ t394 t397 t398 t400 t403 _ ?side1 ?side2 A10.out).mono ?_); (case side1 => refine (Kd.R_reads' (e := 105) (base := w.heap.size) (ok := fun k_ => (True ∧ some k_ ≠ (.slice Ao17 t384.length co17 : Value).ownBlock)) (n := t394.length) (c := co24) ?_).2.2; exact (by (with_reducible repeat (first | apply Kd.R_alloc | apply Kd.R_drewN | apply Kd.R_drew)); exact (Kd.R_mono (Kd.R_far (p := ⟨gb399, 3, none⟩) (Kd.R_far (p := ⟨gb399, 2, none⟩) (Kd.R_far (p := ⟨gb399, 1, none⟩) (Kd.R_far (p := ⟨gb399, 0, none⟩) (Kd.R_types HO396.out BK399.out (by decide)) (fun _ hk => hk.2) (.string t393)) (fun _ hk => hk.2) (.slice Ao24 t394.length co24)) (fun _ hk => hk.2) (.int .i64 t397)) (fun _ hk => hk.2) (.bool t398)) (fun _ h_ => h_.1)))); (case side2 => exact (Kd.R_reads' HO396.out).2.1); rintro e w25 ⟨v401, rfl, ho0, hb⟩; refine ⟨_, rfl, ?_⟩; have n0_ := mkA (Kd.R_below (by (with_reducible repeat (first | apply Kd.R_alloc | apply Kd.R_drewN | apply Kd.R_drew)); exact (Kd.R_mono (Kd.R_far (p := ⟨gb399, 3, none⟩) (Kd.R_far (p := ⟨gb399, 2, none⟩) (Kd.R_far (p := ⟨gb399, 1, none⟩) (Kd.R_far (p := ⟨gb399, 0, none⟩) (Kd.R_types HO386.out BK399.out (by decide)) (fun _ hk => hk.2) (.string t393)) (fun _ hk => hk.2) (.slice Ao24 t394.length co24)) (fun _ hk => hk.2) (.int .i64 t397)) (fun _ hk => hk.2) (.bool t398)) (fun _ h_ => h_.1))) hb); have n1_ := mkA (Kd.R_elder' (by (with_reducible repeat (first | apply Kd.R_alloc | apply Kd.R_drewN | apply Kd.R_drew)); exact (Kd.R_mono (Kd.R_far (p := ⟨gb399, 3, none⟩) (Kd.R_far (p := ⟨gb399, 2, none⟩) (Kd.R_far (p := ⟨gb399, 1, none⟩) (Kd.R_far (p := ⟨gb399, 0, none⟩) (Kd.R_types HO391.out BK399.out (by decide)) (fun _ hk => hk.2) (.string t393)) (fun _ hk => hk.2) (.slice Ao24 t394.length co24)) (fun _ hk => hk.2) (.int .i64 t397)) (fun _ hk => hk.2) (.bool t398)) (fun _ h_ => h_.1))) (Kd.R_base ho0) hb); have n2_ := mkA (Kd.R_below (by (with_reducible repeat (first | apply Kd.R_alloc | apply Kd.R_drewN | apply Kd.R_drew)); exact (Kd.R_mono (Kd.R_far (p := ⟨gb399, 3, none⟩) (Kd.R_far (p := ⟨gb399, 2, none⟩) (Kd.R_far (p := ⟨gb399, 1, none⟩) (Kd.R_far (p := ⟨gb399, 0, none⟩) (Kd.R_types HO396.out BK399.out (by decide)) (fun _ hk => hk.2) (.string t393)) (fun _ hk => hk.2) (.slice Ao24 t394.length co24)) (fun _ hk => hk.2) (.int .i64 t397)) (fun _ hk => hk.2) (.bool t398)) (fun _ h_ => h_.1))) hb); have n3_ := mkA (Kd.R_lower (Kd.R_new' ho0 (Kd.R_lt (by (with_reducible repeat (first | apply Kd.R_alloc | apply Kd.R_drewN | apply Kd.R_drew)); exact (Kd.R_mono (Kd.R_far (p := ⟨gb399, 3, none⟩) (Kd.R_far (p := ⟨gb399, 2, none⟩) (Kd.R_far (p := ⟨gb399, 1, none⟩) (Kd.R_far (p := ⟨gb399, 0, none⟩) (Kd.R_types HO391.out BK399.out (by decide)) (fun _ hk => hk.2) (.string t393)) (fun _ hk => hk.2) (.slice Ao24 t394.length co24)) (fun _ hk => hk.2) (.int .i64 t397)) (fun _ hk => hk.2) (.bool t398)) (fun _ h_ => h_.1))))) (below_size (bs2_ HB.out GE381.out GE399.out))); have n4_ := mkA (blk_below (g := gb381) (o := .cells #[.string a0_0, .slice A0_1 l0_1.length c0_1, .int .i64 a0_2, .bool a0_3] 47 (0, 0)) (by (with_reducible repeat (first | refine blk_drewN ?_ _ | refine blk_drew ?_ | refine blk_alloc ?_ _)); refine blk_far ?_ NB381_399.out _; (with_reducible repeat (first | refine blk_drewN ?_ _ | refine blk_drew ?_ | refine blk_alloc ?_ _)); refine blk_far ?_ NB381_399.out _; (with_reducible repeat (first | refine blk_drewN ?_ _ | refine blk_drew ?_ | refine blk_alloc ?_ _)); refine blk_far ?_ NB381_399.out _; (with_reducible repeat (first | refine blk_drewN ?_ _ | refine blk_drew ?_ | refine blk_alloc ?_ _)); refine blk_far ?_ NB381_399.out _; (with_reducible repeat (first | refine blk_drewN ?_ _ | refine blk_drew ?_ | refine blk_alloc ?_ _)); exact BK381.out) hb); have n5_ := mkA (blk_below (g := gb399) (o := .cells #[.string t393, .slice Ao24 t394.length co24, .int .i64 t397, .bool t398] 53 (0, 0)) (by (with_reducible repeat (first | refine blk_drewN ?_ _ | refine blk_drew ?_ | refine blk_alloc ?_ _)); refine blk_put (cs := #[.string t393, .slice Ao24 t394.length co24, .int .i64 t397, .bool false]) ?_ 3 _ rfl; (with_reducible repeat (first | refine blk_drewN ?_ _ | refine blk_drew ?_ | refine blk_alloc ?_ _)); refine blk_put (cs := #[.string t393, .slice Ao24 t394.length co24, .int .i64 0, .bool false]) ?_ 2 _ rfl; (with_reducible repeat (first | refine blk_drewN ?_ _ | refine blk_drew ?_ | refine blk_alloc ?_ _)); refine blk_put (cs := #[.string t393, .slice none 0 0, .int .i64 0, .bool false]) ?_ 1 _ rfl; (with_reducible repeat (first | refine blk_drewN ?_ _ | refine blk_drew ?_ | refine blk_alloc ?_ _)); refine blk_put (cs := #[.string (⟨#[]⟩ : ByteArray), .slice none 0 0, .int .i64 0, .bool false]) ?_ 0 _ rfl; (with_reducible repeat (first | refine blk_drewN ?_ _ | refine blk_drew ?_ | refine blk_alloc ?_ _)); exact BK399.out) hb); have n6_ := mkA (below_step (bs2_ HB.out GE381.out GE399.out) hb); clear HO386; clear HO391; clear HO396; clear BK381; clear BK399; clear HB; have HO386 := n0_; have HO391 := n1_; have HO396 := n2_; have HO402 := n3_; have BK381 := n4_; have BK399 := n5_; have HB := n6_; clear n0_ n1_ n2_ n3_ n4_ n5_ n6_; (try clear hb); (try clear hb2); (try clear hk); (try clear hi); (try clear ho0)))
   (try simp only [Act.put, sA, sB, sC])
   go_cut [40] (fun v40 wc => ∃ (kq : Nat) (x40_10 : Bool), v40 = .bool x40_10 ∧ Aside0 (laws_FnExactTurnsOfPiece.j0 kq t389 t392 t400 t403 x40_10 a0_0 l0_1 a0_2 a0_3 t393 t394 t397 t398 = some r) ∧ Aside0 (kq ≤ k) ∧ Aside0 (Kd.R (Kd.int .i64) 2 wc w.heap.size (fun k_ => some k_ ≠ (v401 : Value).ownBlock) v390 t389) ∧ Aside0 (Kd.R (Kd.int .i64) 2 wc w.heap.size (fun k_ => some k_ ≠ (v390 : Value).ownBlock) v401 t400) ∧ Aside0 (Kd.R k105 105 wc w.heap.size (fun _ => True) (.slice Ao24 t394.length co24) t394) ∧ Aside0 (wc.heap[gb381]? = some (.cells #[.string a0_0, (.slice A0_1 l0_1.length c0_1), .int .i64 a0_2, .bool a0_3] 47 (0, 0))) ∧ Aside0 (wc.heap[gb399]? = some (.cells #[.string t393, (.slice Ao24 t394.length co24), .int .i64 t397, .bool t398] 53 (0, 0))) ∧ Aside0 (Below w.heap.size w wc))
   case first =>
    have H := HC11.out
    clear HC11
    replace H := Option.bind_eq_some_iff.mp H
    obtain ⟨t404, A260, H⟩ := H
    replace H : (if t404 = true then (laws_FnExactTurnsOfPiece.j0 k t389 t392 t400 t403 (t403 != t392) a0_0 l0_1 a0_2 a0_3 t393 t394 t397 t398) else (laws_FnExactTurnsOfPiece.j0 k t389 t392 t400 t403 true a0_0 l0_1 a0_2 a0_3 t393 t394 t397 t398)) = some r := H
    have A26 := mkA A260
    clear A260
    by_cases c27 : t404 = true
    · subst c27
      have H1 : (laws_FnExactTurnsOfPiece.j0 k t389 t392 t400 t403 (t403 != t392) a0_0 l0_1 a0_2 a0_3 t393 t394 t397 t398) = some r := by rw [if_pos rfl] at H; exact H
      clear H
      have H := H1
      clear H1
      have H' := mkA H
      clear H
      obtain ⟨Ao28, co28, eo28⟩ := Kd.R_slice HO402.out
      subst eo28
      obtain ⟨Ao29, co29, eo29⟩ := Kd.R_slice HO391.out
      subst eo29
      go_wp2_with (first | ((with_reducible refine gate_callee (f := 37) rfl ?_); refine goesL_ (some 34) rfl rfl Try.func37 (by kernel_rfl) rfl #[.slice Ao28 t400.length co28, .slice Ao29 t389.length co29] rfl (by (try simp only [List.map_toArray, List.map_cons, List.map_nil]); first | done | rfl | (simp only [List.length_drop, List.length_take]; rfl)) ?_; (with_reducible refine (laws_eqInt64S.calls k _ _ t400 _ _ t389 true _ ?side1 ?side2 ?side3 ?side4 A26.out).mono ?_); (case side1 => repeat (first | exact (Kd.R_reads' HO402.out).2.2 | (with_reducible refine Kd.C_alloc ?_ _) | (with_reducible refine Kd.C_drewN ?_ _) | (with_reducible refine Kd.C_drew ?_))); (case side2 => exact (Kd.R_reads' HO402.out).2.1); (case side3 => repeat (first | exact (Kd.R_reads' HO391.out).2.2 | (with_reducible refine Kd.C_alloc ?_ _) | (with_reducible refine Kd.C_drewN ?_ _) | (with_reducible refine Kd.C_drew ?_))); (case side4 => exact (Kd.R_reads' HO391.out).2.1); rintro e w' ⟨rfl, ⟨nd, rfl⟩⟩; refine ⟨_, rfl, ?_⟩))
      go_meet
      case rel => exact ⟨_, ((t403 != t392)), (by first | rfl | (simp; done) | (simp [*]; done) | (simp [i64_w, i32_w]; done)), H', ⟨by first | omega | exact Nat.le_refl _⟩, ⟨by (with_reducible repeat (first | apply Kd.R_alloc | apply Kd.R_drewN | apply Kd.R_drew)); exact Kd.R_mono HO391.out (fun _ hk => hk.2)⟩, ⟨by (with_reducible repeat (first | apply Kd.R_alloc | apply Kd.R_drewN | apply Kd.R_drew)); exact Kd.R_mono HO402.out (fun _ hk => hk.2)⟩, ⟨by (with_reducible repeat (first | apply Kd.R_alloc | apply Kd.R_drewN | apply Kd.R_drew)); exact Kd.R_mono HO396.out (fun _ hk => trivial)⟩, ⟨by (with_reducible repeat (first | refine blk_drewN ?_ _ | refine blk_drew ?_ | refine blk_alloc ?_ _)); exact BK381.out⟩, ⟨by (with_reducible repeat (first | refine blk_drewN ?_ _ | refine blk_drew ?_ | refine blk_alloc ?_ _)); exact BK399.out⟩, ⟨by repeat (first | (with_reducible first | exact HB.out | apply below_alloc | apply pw_below_drewN | apply below_drew1 | refine below_set ?_ GE381.out | refine below_set ?_ GE399.out) | exact HB.out)⟩⟩
    · replace c27 := Bool.eq_false_iff.mpr c27
      subst c27
      have H1 : (laws_FnExactTurnsOfPiece.j0 k t389 t392 t400 t403 true a0_0 l0_1 a0_2 a0_3 t393 t394 t397 t398) = some r := by rw [if_neg (show ¬ (false = true) by decide)] at H; exact H
      clear H
      have H := H1
      clear H1
      have H' := mkA H
      clear H
      obtain ⟨Ao30, co30, eo30⟩ := Kd.R_slice HO402.out
      subst eo30
      obtain ⟨Ao31, co31, eo31⟩ := Kd.R_slice HO391.out
      subst eo31
      go_wp2_with (first | ((with_reducible refine gate_callee (f := 37) rfl ?_); refine goesL_ (some 34) rfl rfl Try.func37 (by kernel_rfl) rfl #[.slice Ao30 t400.length co30, .slice Ao31 t389.length co31] rfl (by (try simp only [List.map_toArray, List.map_cons, List.map_nil]); first | done | rfl | (simp only [List.length_drop, List.length_take]; rfl)) ?_; (with_reducible refine (laws_eqInt64S.calls k _ _ t400 _ _ t389 false _ ?side1 ?side2 ?side3 ?side4 A26.out).mono ?_); (case side1 => repeat (first | exact (Kd.R_reads' HO402.out).2.2 | (with_reducible refine Kd.C_alloc ?_ _) | (with_reducible refine Kd.C_drewN ?_ _) | (with_reducible refine Kd.C_drew ?_))); (case side2 => exact (Kd.R_reads' HO402.out).2.1); (case side3 => repeat (first | exact (Kd.R_reads' HO391.out).2.2 | (with_reducible refine Kd.C_alloc ?_ _) | (with_reducible refine Kd.C_drewN ?_ _) | (with_reducible refine Kd.C_drew ?_))); (case side4 => exact (Kd.R_reads' HO391.out).2.1); rintro e w' ⟨rfl, ⟨nd, rfl⟩⟩; refine ⟨_, rfl, ?_⟩))
      go_meet
      case rel => exact ⟨_, (true), (by first | rfl | (simp; done) | (simp [*]; done) | (simp [i64_w, i32_w]; done)), H', ⟨by first | omega | exact Nat.le_refl _⟩, ⟨by (with_reducible repeat (first | apply Kd.R_alloc | apply Kd.R_drewN | apply Kd.R_drew)); exact Kd.R_mono HO391.out (fun _ hk => hk.2)⟩, ⟨by (with_reducible repeat (first | apply Kd.R_alloc | apply Kd.R_drewN | apply Kd.R_drew)); exact Kd.R_mono HO402.out (fun _ hk => hk.2)⟩, ⟨by (with_reducible repeat (first | apply Kd.R_alloc | apply Kd.R_drewN | apply Kd.R_drew)); exact Kd.R_mono HO396.out (fun _ hk => trivial)⟩, ⟨by (with_reducible repeat (first | refine blk_drewN ?_ _ | refine blk_drew ?_ | refine blk_alloc ?_ _)); exact BK381.out⟩, ⟨by (with_reducible repeat (first | refine blk_drewN ?_ _ | refine blk_drew ?_ | refine blk_alloc ?_ _)); exact BK399.out⟩, ⟨by repeat (first | (with_reducible first | exact HB.out | apply below_alloc | apply pw_below_drewN | apply below_drew1 | refine below_set ?_ GE381.out | refine below_set ?_ GE399.out) | exact HB.out)⟩⟩
   case rest =>
    clear HC11
    try clear c2
    try clear p2
    try clear c3
    try clear c3b0
    try clear c9
    try clear c22
    try clear c27
    try clear hcz13_0
    try clear hcz13_1
    try clear hcz13_2
    try clear hcz13_3
    try clear hcz15_0
    try clear hcz15_1
    try clear hcz15_2
    try clear hcz15_3
    try clear hcz19_0
    try clear hcz19_1
    try clear hcz19_2
    try clear hcz19_3
    try clear hcz23_0
    try clear hcz23_1
    try clear hcz23_2
    try clear hcz23_3
    try clear hcz5_0
    try clear hcz5_1
    try clear hcz5_2
    try clear hcz5_3
    try clear hfz13_0
    try clear hfz13_1
    try clear hfz13_2
    try clear hfz13_3
    try clear hfz15_0
    try clear hfz15_1
    try clear hfz15_2
    try clear hfz15_3
    try clear hfz19_0
    try clear hfz19_1
    try clear hfz19_2
    try clear hfz19_3
    try clear hfz23_0
    try clear hfz23_1
    try clear hfz23_2
    try clear hfz23_3
    try clear hfz5_0
    try clear hfz5_1
    try clear hfz5_2
    try clear hfz5_3
    obtain ⟨kq, x40_10, rfl, HA, HJ10, HO_4, HO_7, HO_400001, BK381, BK399, HB⟩ := hcut
    cases kq with
    | zero => exact absurd HA.out (by simp [laws_FnExactTurnsOfPiece.j0])
    | succ kj10 =>
     have H := HA.out
     clear HA
     simp only [laws_FnExactTurnsOfPiece.j0] at H
     by_cases c32 : x40_10 = true
     · subst c32
       have H1 : (some false) = some r := by rw [if_pos rfl] at H; exact H
       clear H
       have H := H1
       clear H1
       obtain rfl := Option.some.inj H
       go_wp2
       go_ret
       exact ⟨by first | rfl | (simp [errW_none, errW_some] <;> rfl) | (simp [*, errW_none, errW_some] <;> rfl), by repeat (first | (with_reducible first | exact HB.out | apply below_alloc | apply pw_below_drewN | apply below_drew1 | refine below_set ?_ GE381.out | refine below_set ?_ GE399.out) | exact HB.out)⟩
     · replace c32 := Bool.eq_false_iff.mpr c32
       subst c32
       have H1 : ((laws_toPiece.f kj10 a0_0 l0_1 a0_2 a0_3).bind fun bt405 => ((laws_eqPiece.f kj10 t393 t394 t397 t398 bt405.1 bt405.2.1 bt405.2.2.1 bt405.2.2.2).bind fun t411 => (if t411 = true then ((laws_markPiece.f kj10 t393 t394 t397 t398 1).bind fun bt412 => (if bt412.1 < 0 then (laws_FnExactTurnsOfPiece.j1 kj10 t389 t392 t400 true a0_0 l0_1 a0_2 a0_3) else ((laws_eqInt64S.f kj10 t400 t389).bind fun t414 => (if t414 = true then (laws_FnExactTurnsOfPiece.j1 kj10 t389 t392 t400 (t403 != t392) a0_0 l0_1 a0_2 a0_3) else (laws_FnExactTurnsOfPiece.j1 kj10 t389 t392 t400 true a0_0 l0_1 a0_2 a0_3))))) else (some false)))) = some r := by rw [if_neg (show ¬ (false = true) by decide)] at H; exact H
       clear H
       have H := H1
       clear H1
       replace H := Option.bind_eq_some_iff.mp H
       obtain ⟨⟨t405, t406, t409, t410⟩, A330, H⟩ := H
       replace H : ((laws_eqPiece.f kj10 t393 t394 t397 t398 t405 t406 t409 t410).bind fun t411 => (if t411 = true then ((laws_markPiece.f kj10 t393 t394 t397 t398 1).bind fun bt412 => (if bt412.1 < 0 then (laws_FnExactTurnsOfPiece.j1 kj10 t389 t392 t400 true a0_0 l0_1 a0_2 a0_3) else ((laws_eqInt64S.f kj10 t400 t389).bind fun t414 => (if t414 = true then (laws_FnExactTurnsOfPiece.j1 kj10 t389 t392 t400 (t403 != t392) a0_0 l0_1 a0_2 a0_3) else (laws_FnExactTurnsOfPiece.j1 kj10 t389 t392 t400 true a0_0 l0_1 a0_2 a0_3))))) else (some false))) = some r := H
       have A33 := mkA A330
       clear A330
       replace H := Option.bind_eq_some_iff.mp H
       obtain ⟨t411, A340, H⟩ := H
       replace H : (if t411 = true then ((laws_markPiece.f kj10 t393 t394 t397 t398 1).bind fun bt412 => (if bt412.1 < 0 then (laws_FnExactTurnsOfPiece.j1 kj10 t389 t392 t400 true a0_0 l0_1 a0_2 a0_3) else ((laws_eqInt64S.f kj10 t400 t389).bind fun t414 => (if t414 = true then (laws_FnExactTurnsOfPiece.j1 kj10 t389 t392 t400 (t403 != t392) a0_0 l0_1 a0_2 a0_3) else (laws_FnExactTurnsOfPiece.j1 kj10 t389 t392 t400 true a0_0 l0_1 a0_2 a0_3))))) else (some false)) = some r := H
       have A34 := mkA A340
       clear A340
       by_cases c35 : t411 = true
       rotate_left
       · replace c35 := Bool.eq_false_iff.mpr c35
         subst c35
         have H1 : (some false) = some r := by rw [if_neg (show ¬ (false = true) by decide)] at H; exact H
         clear H
         have H := H1
         clear H1
         obtain rfl := Option.some.inj H
         try go_wp2
         have n0_ := mkA (Kd.R_drew HO_4.out)
         have n1_ := mkA (Kd.R_drew HO_7.out)
         have n2_ := mkA (Kd.R_drew HO_400001.out)
         have n3_ := mkA (blk_drew BK381.out)
         have n4_ := mkA (blk_drew BK399.out)
         have n5_ := mkA (below_drew1 HB.out)
         clear HO_4
         clear HO_7
         clear HO_400001
         clear BK381
         clear BK399
         clear HB
         have HO_4 := n0_
         have HO_7 := n1_
         have HO_400001 := n2_
         have BK381 := n3_
         have BK399 := n4_
         have HB := n5_
         clear n0_ n1_ n2_ n3_ n4_ n5_
         refine start_ (n := 5) (S := fun w' => w'.cell? ⟨gb399, 0, none⟩ = some (.string t393) ∧ w'.cell? ⟨gb399, 1, none⟩ = some (.slice Ao24 t394.length co24) ∧ w'.cell? ⟨gb399, 2, none⟩ = some (.int .i64 t397) ∧ w'.cell? ⟨gb399, 3, none⟩ = some (.bool t398) ∧ w'.cell? ⟨gb381, 0, none⟩ = some (.string a0_0) ∧ w'.cell? ⟨gb381, 1, none⟩ = some (.slice A0_1 l0_1.length c0_1) ∧ w'.cell? ⟨gb381, 2, none⟩ = some (.int .i64 a0_2) ∧ w'.cell? ⟨gb381, 3, none⟩ = some (.bool a0_3)) (ds := []) #[false, false, false, false, false] (by kernel_rfl) rfl rfl ⟨(blk_cell BK399.out 0).trans rfl, (blk_cell BK399.out 1).trans rfl, (blk_cell BK399.out 2).trans rfl, (blk_cell BK399.out 3).trans rfl, (blk_cell BK381.out 0).trans rfl, (blk_cell BK381.out 1).trans rfl, (blk_cell BK381.out 2).trans rfl, (blk_cell BK381.out 3).trans rfl⟩ (fun hHeld => ?_)
         generalize wc.drew = w81 at HO_4 HO_7 HO_400001 BK381 BK399 HB hHeld ⊢
         refine take_ (i := 0) (N := some 41) (v := ?_) (a' := ?_) #[true, false, false, false, false] rfl rfl (by kernel_rfl) (fun _ _ _ h => h) (Or.inl ⟨by rfl, ?_⟩) hHeld ?_ ?_
         rotate_left
         · rintro w' ⟨s0, s1, s2, s3, s4, s5, s6, s7⟩
           go_simp
           with_reducible rfl
         rotate_left
         · simp only [Act.put, sA, sB, sC, i64_w, i32_w]
           rfl
         refine take_ (i := 1) (N := some 42) (v := ?_) (a' := ?_) #[true, true, false, false, false] rfl rfl (by kernel_rfl) (fun _ _ _ h => h) (Or.inl ⟨by rfl, ?_⟩) hHeld ?_ ?_
         rotate_left
         · rintro w' ⟨s0, s1, s2, s3, s4, s5, s6, s7⟩
           go_simp
           with_reducible rfl
         rotate_left
         · simp only [Act.put, sA, sB, sC, i64_w, i32_w]
           rfl
         refine one_ (i := 2) (N := some 43) #[true, true, true, false, false] rfl rfl (by kernel_rfl) (by decide) (fun K hK => ?_)
         refine goes_ Try.func35 (by kernel_rfl) rfl #[.agg #[.string a0_0, .slice A0_1 l0_1.length c0_1, .int .i64 a0_2, .bool a0_3]] (by rfl) rfl rfl (by (try simp only [List.map_toArray, List.map_cons, List.map_nil]); first | done | rfl | (simp only [List.length_drop, List.length_take]; rfl)) ?_
         with_reducible refine (laws_toPiece.calls kj10 a0_0 _ _ l0_1 a0_2 a0_3 t405 t406 t409 t410 _ ?side1 ?side2 A33.out).mono ?_
         (case side1 => exact cb_ HR0_1.out HB.out)
         (case side2 => exact HC0_1.out)
         rintro e w82 ⟨v407, rfl, ho0, hb⟩
         refine ⟨_, rfl, ?_⟩
         have n0_ := mkA (Kd.R_below (by (with_reducible repeat (first | apply Kd.R_alloc | apply Kd.R_drewN | apply Kd.R_drew)); exact HO_4.out) hb)
         have n1_ := mkA (Kd.R_below (by (with_reducible repeat (first | apply Kd.R_alloc | apply Kd.R_drewN | apply Kd.R_drew)); exact HO_7.out) hb)
         have n2_ := mkA (Kd.R_elder' (by (with_reducible repeat (first | apply Kd.R_alloc | apply Kd.R_drewN | apply Kd.R_drew)); exact HO_400001.out) (Kd.R_base ho0) hb)
         have n3_ := mkA (Kd.R_lower (Kd.R_new' ho0 (Kd.R_lt (by (with_reducible repeat (first | apply Kd.R_alloc | apply Kd.R_drewN | apply Kd.R_drew)); exact HO_400001.out))) (below_size (bs2_ HB.out GE381.out GE399.out)))
         have n4_ := mkA (blk_below (g := gb381) (o := .cells #[.string a0_0, .slice A0_1 l0_1.length c0_1, .int .i64 a0_2, .bool a0_3] 47 (0, 0)) (bl_ BK381.out) hb)
         have n5_ := mkA (blk_below (g := gb399) (o := .cells #[.string t393, .slice Ao24 t394.length co24, .int .i64 t397, .bool t398] 53 (0, 0)) (bl_ BK399.out) hb)
         have n6_ := mkA (below_step (bs2_ HB.out GE381.out GE399.out) hb)
         clear HO_4
         clear HO_7
         clear HO_400001
         clear BK381
         clear BK399
         clear HB
         have HO_4 := n0_
         have HO_7 := n1_
         have HO_400001 := n2_
         have HO408 := n3_
         have BK381 := n4_
         have BK399 := n5_
         have HB := n6_
         clear n0_ n1_ n2_ n3_ n4_ n5_ n6_
         (try clear hb)
         (try clear hb2)
         (try clear hk)
         (try clear hi)
         (try clear ho0)
         obtain ⟨Ao83, co83, eo83⟩ := Kd.R_slice HO408.out
         (first | subst eo83 | (injection eo83 with f1_ f2_ f3_; have f4_ := f1_.symm; have f5_ := f3_.symm; clear f1_ f2_ f3_; subst f4_; subst f5_))
         refine hK.out _ _ ⟨(blk_cell BK399.out 0).trans rfl, (blk_cell BK399.out 1).trans rfl, (blk_cell BK399.out 2).trans rfl, (blk_cell BK399.out 3).trans rfl, (blk_cell BK381.out 0).trans rfl, (blk_cell BK381.out 1).trans rfl, (blk_cell BK381.out 2).trans rfl, (blk_cell BK381.out 3).trans rfl⟩ (fun hHeld => ?_)
         clear hK K
         refine norm_ (a' := ?_) ?_ ?_
         rotate_left
         · show Act.put _ (some 43) _ = _
           simp only [Act.put, sA, sB, sC, i64_w, i32_w]
           rfl
         refine one_ (i := 3) (N := some 44) #[true, true, true, true, false] rfl rfl (by kernel_rfl) (by decide) (fun K hK => ?_)
         refine goes_ Try.func38 (by kernel_rfl) rfl #[.agg #[.string t393, .slice Ao24 t394.length co24, .int .i64 t397, .bool t398], .agg #[.string t405, .slice Ao83 t406.length co83, .int .i64 t409, .bool t410]] (by rfl) rfl rfl (by (try simp only [List.map_toArray, List.map_cons, List.map_nil]); first | done | rfl | (simp only [List.length_drop, List.length_take]; rfl)) ?_
         with_reducible refine (laws_eqPiece.calls kj10 t393 _ _ t394 t397 t398 t405 _ _ t406 t409 t410 false _ ?side1 ?side2 ?side3 ?side4 A34.out).mono ?_
         (case side1 => repeat (first | exact (Kd.R_reads' HO_400001.out).2.2 | (with_reducible refine Kd.C_alloc ?_ _) | (with_reducible refine Kd.C_drewN ?_ _) | (with_reducible refine Kd.C_drew ?_)))
         (case side2 => exact (Kd.R_reads' HO_400001.out).2.1)
         (case side3 => repeat (first | exact (Kd.R_reads' HO408.out).2.2 | (with_reducible refine Kd.C_alloc ?_ _) | (with_reducible refine Kd.C_drewN ?_ _) | (with_reducible refine Kd.C_drew ?_)))
         (case side4 => exact (Kd.R_reads' HO408.out).2.1)
         rintro e w84 ⟨rfl, hb⟩
         refine ⟨_, rfl, ?_⟩
         have n0_ := mkA (Kd.R_below (by (with_reducible repeat (first | apply Kd.R_alloc | apply Kd.R_drewN | apply Kd.R_drew)); exact HO_4.out) hb)
         have n1_ := mkA (Kd.R_below (by (with_reducible repeat (first | apply Kd.R_alloc | apply Kd.R_drewN | apply Kd.R_drew)); exact HO_7.out) hb)
         have n2_ := mkA (Kd.R_below (by (with_reducible repeat (first | apply Kd.R_alloc | apply Kd.R_drewN | apply Kd.R_drew)); exact HO_400001.out) hb)
         have n3_ := mkA (Kd.R_below (by (with_reducible repeat (first | apply Kd.R_alloc | apply Kd.R_drewN | apply Kd.R_drew)); exact HO408.out) hb)
         have n4_ := mkA (blk_below (g := gb381) (o := .cells #[.string a0_0, .slice A0_1 l0_1.length c0_1, .int .i64 a0_2, .bool a0_3] 47 (0, 0)) (bl_ BK381.out) hb)
         have n5_ := mkA (blk_below (g := gb399) (o := .cells #[.string t393, .slice Ao24 t394.length co24, .int .i64 t397, .bool t398] 53 (0, 0)) (bl_ BK399.out) hb)
         have n6_ := mkA (below_step (bs2_ HB.out GE381.out GE399.out) hb)
         clear HO_4
         clear HO_7
         clear HO_400001
         clear HO408
         clear BK381
         clear BK399
         clear HB
         have HO_4 := n0_
         have HO_7 := n1_
         have HO_400001 := n2_
         have HO408 := n3_
         have BK381 := n4_
         have BK399 := n5_
         have HB := n6_
         clear n0_ n1_ n2_ n3_ n4_ n5_ n6_
         (try clear hb)
         (try clear hb2)
         (try clear hk)
         (try clear hi)
         refine hK.out _ _ ⟨(blk_cell BK399.out 0).trans rfl, (blk_cell BK399.out 1).trans rfl, (blk_cell BK399.out 2).trans rfl, (blk_cell BK399.out 3).trans rfl, (blk_cell BK381.out 0).trans rfl, (blk_cell BK381.out 1).trans rfl, (blk_cell BK381.out 2).trans rfl, (blk_cell BK381.out 3).trans rfl⟩ (fun hHeld => ?_)
         clear hK K
         refine norm_ (a' := ?_) ?_ ?_
         rotate_left
         · show Act.put _ (some 44) _ = _
           simp only [Act.put, sA, sB, sC, i64_w, i32_w]
           rfl
         refine pure_ (i := 4) (N := some 45) (v := ?_) (a' := ?_) #[true, true, true, true, true] rfl rfl (by kernel_rfl) (fun _ _ _ h => h) (Or.inl ⟨by rfl, ?_⟩) ?_ ?_
         rotate_left
         · intro w'
           go_simp
           with_reducible rfl
         rotate_left
         · simp only [Act.put, sA, sB, sC, i64_w, i32_w]
           rfl
         refine done_ (by kernel_rfl) ?_
         try go_wp2
         go_ret
         exact ⟨by first | rfl | (simp [errW_none, errW_some] <;> rfl) | (simp [*, errW_none, errW_some] <;> rfl), by repeat (first | (with_reducible first | exact HB.out | apply below_alloc | apply pw_below_drewN | apply below_drew1 | refine below_set ?_ GE381.out | refine below_set ?_ GE399.out) | exact HB.out)⟩
       subst c35
       have H1 : ((laws_markPiece.f kj10 t393 t394 t397 t398 1).bind fun bt412 => (if bt412.1 < 0 then (laws_FnExactTurnsOfPiece.j1 kj10 t389 t392 t400 true a0_0 l0_1 a0_2 a0_3) else ((laws_eqInt64S.f kj10 t400 t389).bind fun t414 => (if t414 = true then (laws_FnExactTurnsOfPiece.j1 kj10 t389 t392 t400 (t403 != t392) a0_0 l0_1 a0_2 a0_3) else (laws_FnExactTurnsOfPiece.j1 kj10 t389 t392 t400 true a0_0 l0_1 a0_2 a0_3))))) = some r := by rw [if_pos rfl] at H; exact H
       clear H
       have H := H1
       clear H1
       replace H := Option.bind_eq_some_iff.mp H
       obtain ⟨⟨t412, t413⟩, A360, H⟩ := H
       replace H : (if t412 < 0 then (laws_FnExactTurnsOfPiece.j1 kj10 t389 t392 t400 true a0_0 l0_1 a0_2 a0_3) else ((laws_eqInt64S.f kj10 t400 t389).bind fun t414 => (if t414 = true then (laws_FnExactTurnsOfPiece.j1 kj10 t389 t392 t400 (t403 != t392) a0_0 l0_1 a0_2 a0_3) else (laws_FnExactTurnsOfPiece.j1 kj10 t389 t392 t400 true a0_0 l0_1 a0_2 a0_3)))) = some r := H
       have A36 := mkA A360
       clear A360
       have HC37 := mkA H
       clear H
       try go_wp2
       have n0_ := mkA (Kd.R_drew HO_4.out)
       have n1_ := mkA (Kd.R_drew HO_7.out)
       have n2_ := mkA (Kd.R_drew HO_400001.out)
       have n3_ := mkA (blk_drew BK381.out)
       have n4_ := mkA (blk_drew BK399.out)
       have n5_ := mkA (below_drew1 HB.out)
       clear HO_4
       clear HO_7
       clear HO_400001
       clear BK381
       clear BK399
       clear HB
       have HO_4 := n0_
       have HO_7 := n1_
       have HO_400001 := n2_
       have BK381 := n3_
       have BK399 := n4_
       have HB := n5_
       clear n0_ n1_ n2_ n3_ n4_ n5_
       refine start_ (n := 5) (S := fun w' => w'.cell? ⟨gb399, 0, none⟩ = some (.string t393) ∧ w'.cell? ⟨gb399, 1, none⟩ = some (.slice Ao24 t394.length co24) ∧ w'.cell? ⟨gb399, 2, none⟩ = some (.int .i64 t397) ∧ w'.cell? ⟨gb399, 3, none⟩ = some (.bool t398) ∧ w'.cell? ⟨gb381, 0, none⟩ = some (.string a0_0) ∧ w'.cell? ⟨gb381, 1, none⟩ = some (.slice A0_1 l0_1.length c0_1) ∧ w'.cell? ⟨gb381, 2, none⟩ = some (.int .i64 a0_2) ∧ w'.cell? ⟨gb381, 3, none⟩ = some (.bool a0_3)) (ds := []) #[false, false, false, false, false] (by kernel_rfl) rfl rfl ⟨(blk_cell BK399.out 0).trans rfl, (blk_cell BK399.out 1).trans rfl, (blk_cell BK399.out 2).trans rfl, (blk_cell BK399.out 3).trans rfl, (blk_cell BK381.out 0).trans rfl, (blk_cell BK381.out 1).trans rfl, (blk_cell BK381.out 2).trans rfl, (blk_cell BK381.out 3).trans rfl⟩ (fun hHeld => ?_)
       generalize wc.drew = w38 at HO_4 HO_7 HO_400001 BK381 BK399 HB hHeld ⊢
       refine take_ (i := 0) (N := some 41) (v := ?_) (a' := ?_) #[true, false, false, false, false] rfl rfl (by kernel_rfl) (fun _ _ _ h => h) (Or.inl ⟨by rfl, ?_⟩) hHeld ?_ ?_
       rotate_left
       · rintro w' ⟨s0, s1, s2, s3, s4, s5, s6, s7⟩
         go_simp
         with_reducible rfl
       rotate_left
       · simp only [Act.put, sA, sB, sC, i64_w, i32_w]
         rfl
       refine take_ (i := 1) (N := some 42) (v := ?_) (a' := ?_) #[true, true, false, false, false] rfl rfl (by kernel_rfl) (fun _ _ _ h => h) (Or.inl ⟨by rfl, ?_⟩) hHeld ?_ ?_
       rotate_left
       · rintro w' ⟨s0, s1, s2, s3, s4, s5, s6, s7⟩
         go_simp
         with_reducible rfl
       rotate_left
       · simp only [Act.put, sA, sB, sC, i64_w, i32_w]
         rfl
       refine one_ (i := 2) (N := some 43) #[true, true, true, false, false] rfl rfl (by kernel_rfl) (by decide) (fun K hK => ?_)
       refine goes_ Try.func35 (by kernel_rfl) rfl #[.agg #[.string a0_0, .slice A0_1 l0_1.length c0_1, .int .i64 a0_2, .bool a0_3]] (by rfl) rfl rfl (by (try simp only [List.map_toArray, List.map_cons, List.map_nil]); first | done | rfl | (simp only [List.length_drop, List.length_take]; rfl)) ?_
       with_reducible refine (laws_toPiece.calls kj10 a0_0 _ _ l0_1 a0_2 a0_3 t405 t406 t409 t410 _ ?side1 ?side2 A33.out).mono ?_
       (case side1 => exact cb_ HR0_1.out HB.out)
       (case side2 => exact HC0_1.out)
       rintro e w39 ⟨v407, rfl, ho0, hb⟩
       refine ⟨_, rfl, ?_⟩
       have n0_ := mkA (Kd.R_below (by (with_reducible repeat (first | apply Kd.R_alloc | apply Kd.R_drewN | apply Kd.R_drew)); exact HO_4.out) hb)
       have n1_ := mkA (Kd.R_below (by (with_reducible repeat (first | apply Kd.R_alloc | apply Kd.R_drewN | apply Kd.R_drew)); exact HO_7.out) hb)
       have n2_ := mkA (Kd.R_elder' (by (with_reducible repeat (first | apply Kd.R_alloc | apply Kd.R_drewN | apply Kd.R_drew)); exact HO_400001.out) (Kd.R_base ho0) hb)
       have n3_ := mkA (Kd.R_lower (Kd.R_new' ho0 (Kd.R_lt (by (with_reducible repeat (first | apply Kd.R_alloc | apply Kd.R_drewN | apply Kd.R_drew)); exact HO_400001.out))) (below_size (bs2_ HB.out GE381.out GE399.out)))
       have n4_ := mkA (blk_below (g := gb381) (o := .cells #[.string a0_0, .slice A0_1 l0_1.length c0_1, .int .i64 a0_2, .bool a0_3] 47 (0, 0)) (bl_ BK381.out) hb)
       have n5_ := mkA (blk_below (g := gb399) (o := .cells #[.string t393, .slice Ao24 t394.length co24, .int .i64 t397, .bool t398] 53 (0, 0)) (bl_ BK399.out) hb)
       have n6_ := mkA (below_step (bs2_ HB.out GE381.out GE399.out) hb)
       clear HO_4
       clear HO_7
       clear HO_400001
       clear BK381
       clear BK399
       clear HB
       have HO_4 := n0_
       have HO_7 := n1_
       have HO_400001 := n2_
       have HO408 := n3_
       have BK381 := n4_
       have BK399 := n5_
       have HB := n6_
       clear n0_ n1_ n2_ n3_ n4_ n5_ n6_
       (try clear hb)
       (try clear hb2)
       (try clear hk)
       (try clear hi)
       (try clear ho0)
       obtain ⟨Ao40, co40, eo40⟩ := Kd.R_slice HO408.out
       (first | subst eo40 | (injection eo40 with f1_ f2_ f3_; have f4_ := f1_.symm; have f5_ := f3_.symm; clear f1_ f2_ f3_; subst f4_; subst f5_))
       refine hK.out _ _ ⟨(blk_cell BK399.out 0).trans rfl, (blk_cell BK399.out 1).trans rfl, (blk_cell BK399.out 2).trans rfl, (blk_cell BK399.out 3).trans rfl, (blk_cell BK381.out 0).trans rfl, (blk_cell BK381.out 1).trans rfl, (blk_cell BK381.out 2).trans rfl, (blk_cell BK381.out 3).trans rfl⟩ (fun hHeld => ?_)
       clear hK K
       refine norm_ (a' := ?_) ?_ ?_
       rotate_left
       · show Act.put _ (some 43) _ = _
         simp only [Act.put, sA, sB, sC, i64_w, i32_w]
         rfl
       refine one_ (i := 3) (N := some 44) #[true, true, true, true, false] rfl rfl (by kernel_rfl) (by decide) (fun K hK => ?_)
       refine goes_ Try.func38 (by kernel_rfl) rfl #[.agg #[.string t393, .slice Ao24 t394.length co24, .int .i64 t397, .bool t398], .agg #[.string t405, .slice Ao40 t406.length co40, .int .i64 t409, .bool t410]] (by rfl) rfl rfl (by (try simp only [List.map_toArray, List.map_cons, List.map_nil]); first | done | rfl | (simp only [List.length_drop, List.length_take]; rfl)) ?_
       with_reducible refine (laws_eqPiece.calls kj10 t393 _ _ t394 t397 t398 t405 _ _ t406 t409 t410 true _ ?side1 ?side2 ?side3 ?side4 A34.out).mono ?_
       (case side1 => repeat (first | exact (Kd.R_reads' HO_400001.out).2.2 | (with_reducible refine Kd.C_alloc ?_ _) | (with_reducible refine Kd.C_drewN ?_ _) | (with_reducible refine Kd.C_drew ?_)))
       (case side2 => exact (Kd.R_reads' HO_400001.out).2.1)
       (case side3 => repeat (first | exact (Kd.R_reads' HO408.out).2.2 | (with_reducible refine Kd.C_alloc ?_ _) | (with_reducible refine Kd.C_drewN ?_ _) | (with_reducible refine Kd.C_drew ?_)))
       (case side4 => exact (Kd.R_reads' HO408.out).2.1)
       rintro e w41 ⟨rfl, hb⟩
       refine ⟨_, rfl, ?_⟩
       have n0_ := mkA (Kd.R_below (by (with_reducible repeat (first | apply Kd.R_alloc | apply Kd.R_drewN | apply Kd.R_drew)); exact HO_4.out) hb)
       have n1_ := mkA (Kd.R_below (by (with_reducible repeat (first | apply Kd.R_alloc | apply Kd.R_drewN | apply Kd.R_drew)); exact HO_7.out) hb)
       have n2_ := mkA (Kd.R_below (by (with_reducible repeat (first | apply Kd.R_alloc | apply Kd.R_drewN | apply Kd.R_drew)); exact HO_400001.out) hb)
       have n3_ := mkA (Kd.R_below (by (with_reducible repeat (first | apply Kd.R_alloc | apply Kd.R_drewN | apply Kd.R_drew)); exact HO408.out) hb)
       have n4_ := mkA (blk_below (g := gb381) (o := .cells #[.string a0_0, .slice A0_1 l0_1.length c0_1, .int .i64 a0_2, .bool a0_3] 47 (0, 0)) (bl_ BK381.out) hb)
       have n5_ := mkA (blk_below (g := gb399) (o := .cells #[.string t393, .slice Ao24 t394.length co24, .int .i64 t397, .bool t398] 53 (0, 0)) (bl_ BK399.out) hb)
       have n6_ := mkA (below_step (bs2_ HB.out GE381.out GE399.out) hb)
       clear HO_4
       clear HO_7
       clear HO_400001
       clear HO408
       clear BK381
       clear BK399
       clear HB
       have HO_4 := n0_
       have HO_7 := n1_
       have HO_400001 := n2_
       have HO408 := n3_
       have BK381 := n4_
       have BK399 := n5_
       have HB := n6_
       clear n0_ n1_ n2_ n3_ n4_ n5_ n6_
       (try clear hb)
       (try clear hb2)
       (try clear hk)
       (try clear hi)
       refine hK.out _ _ ⟨(blk_cell BK399.out 0).trans rfl, (blk_cell BK399.out 1).trans rfl, (blk_cell BK399.out 2).trans rfl, (blk_cell BK399.out 3).trans rfl, (blk_cell BK381.out 0).trans rfl, (blk_cell BK381.out 1).trans rfl, (blk_cell BK381.out 2).trans rfl, (blk_cell BK381.out 3).trans rfl⟩ (fun hHeld => ?_)
       clear hK K
       refine norm_ (a' := ?_) ?_ ?_
       rotate_left
       · show Act.put _ (some 44) _ = _
         simp only [Act.put, sA, sB, sC, i64_w, i32_w]
         rfl
       refine pure_ (i := 4) (N := some 45) (v := ?_) (a' := ?_) #[true, true, true, true, true] rfl rfl (by kernel_rfl) (fun _ _ _ h => h) (Or.inl ⟨by rfl, ?_⟩) ?_ ?_
       rotate_left
       · intro w'
         go_simp
         with_reducible rfl
       rotate_left
       · simp only [Act.put, sA, sB, sC, i64_w, i32_w]
         rfl
       refine done_ (by kernel_rfl) ?_
       have hnb42 := NB399_381.out
       have hnc42 := NB381_399.out
       have hcz43_0 : w41.cell? ⟨gb399, 0, none⟩ = some (.string t393) := (blk_cell BK399.out 0).trans rfl
       have hcz43_1 : w41.cell? ⟨gb399, 1, none⟩ = some (.slice Ao24 t394.length co24) := (blk_cell BK399.out 1).trans rfl
       have hcz43_2 : w41.cell? ⟨gb399, 2, none⟩ = some (.int .i64 t397) := (blk_cell BK399.out 2).trans rfl
       have hcz43_3 : w41.cell? ⟨gb399, 3, none⟩ = some (.bool t398) := (blk_cell BK399.out 3).trans rfl
       have hfz43_0 := blk_frozen BK399.out 0
       have hfz43_1 := blk_frozen BK399.out 1
       have hfz43_2 := blk_frozen BK399.out 2
       have hfz43_3 := blk_frozen BK399.out 3
       go_upto_region 14 with (first | ((with_reducible refine gate_callee (f := 39) rfl ?_); refine goesL_ (some 48) rfl rfl Try.func39 (by kernel_rfl) rfl #[.agg #[.string t393, .slice Ao24 t394.length co24, .int .i64 t397, .bool t398], .int .i64 1] rfl (by (try simp only [List.map_toArray, List.map_cons, List.map_nil]); first | done | rfl | (simp only [List.length_drop, List.length_take]; rfl)) ?_; (with_reducible refine (laws_markPiece.calls kj10 t393 (fun k_ => some k_ = (.slice Ao24 t394.length co24 : Value).ownBlock) (.slice Ao24 t394.length co24) t394 t397 t398 1 t412 t413 w _ ?side1 ?side2 A36.out).mono ?_); (case side1 => repeat (first | (with_reducible first | exact HB.out | apply below_alloc | apply pw_below_drewN | apply below_drew1 | refine below_set ?_ GE381.out | refine below_set ?_ GE399.out) | exact HB.out)); (case side2 => exact Kd.R_tight rfl HO_400001.out); rintro e w44 ⟨rfl, hy0, hb, hkp⟩; refine ⟨_, rfl, ?_⟩; have n0_ := mkA (Kd.R_mono (ok' := fun k_ => some k_ ≠ (v401 : Value).ownBlock) (Kd.R_keptB ((Kd.R_apart' HO_4.out (Kd.R_typed HO_400001.out) (by decide))) hkp (fun k_ hk_ hs_ => (hk_.2) hs_)) (fun k_ hk_ => hk_.1.1)); have n1_ := mkA (Kd.R_mono (ok' := fun k_ => some k_ ≠ (v390 : Value).ownBlock) (Kd.R_keptB ((Kd.R_apart' HO_7.out (Kd.R_typed HO_400001.out) (by decide))) hkp (fun k_ hk_ hs_ => (hk_.2) hs_)) (fun k_ hk_ => hk_.1.1)); have n2_ := mkA (Kd.R_reok rfl hy0 (fun k_ e_ => HO_400001.out.1 k_ e_)); have n3_ := mkA (blk_kept (bl_ BK381.out) hkp (fun hs_ => (fun e_ => (Kd.R_ne HO_400001.out BK381.out (by decide)) e_) hs_)); have n4_ := mkA (blk_kept (bl_ BK399.out) hkp (fun hs_ => (fun e_ => (Kd.R_ne HO_400001.out BK399.out (by decide)) e_) hs_)); have n5_ := mkA (Kd.R_mono (ok' := fun k_ => some k_ ≠ (.slice Ao24 t394.length co24 : Value).ownBlock) (Kd.R_keptB (HO408.out) hkp (fun k_ hk_ hs_ => (hk_.2) hs_)) (fun k_ hk_ => hk_.1.2)); have n6_ := mkA (hb); clear HO_4; clear HO_7; clear HO_400001; clear BK381; clear BK399; clear HO408; clear HB; have HO_4 := n0_; have HO_7 := n1_; have HO_400001 := n2_; have BK381 := n3_; have BK399 := n4_; have HO408 := n5_; have HB := n6_; clear n0_ n1_ n2_ n3_ n4_ n5_ n6_; (try clear hb); (try clear hkp); (try clear hy0)))
       (try simp only [Act.put, sA, sB, sC])
       go_cut [61] (fun v61 wc => ∃ (kq : Nat) (x61_36 : Bool), v61 = .bool x61_36 ∧ Aside0 (laws_FnExactTurnsOfPiece.j1 kq t389 t392 t400 x61_36 a0_0 l0_1 a0_2 a0_3 = some r) ∧ Aside0 (kq ≤ kj10) ∧ Aside0 (Kd.R (Kd.int .i64) 2 wc w.heap.size (fun k_ => some k_ ≠ (v401 : Value).ownBlock) v390 t389) ∧ Aside0 (Kd.R (Kd.int .i64) 2 wc w.heap.size (fun k_ => some k_ ≠ (v390 : Value).ownBlock) v401 t400) ∧ Aside0 (Kd.R k105 105 wc w.heap.size (fun _ => True) (.slice Ao24 t394.length co24) t413) ∧ Aside0 (wc.heap[gb381]? = some (.cells #[.string a0_0, (.slice A0_1 l0_1.length c0_1), .int .i64 a0_2, .bool a0_3] 47 (0, 0))) ∧ Aside0 (wc.heap[gb399]? = some (.cells #[.string t393, (.slice Ao24 t394.length co24), .int .i64 t397, .bool t398] 53 (0, 0))) ∧ Aside0 (Below w.heap.size w wc))
       case first =>
        have H := HC37.out
        clear HC37
        by_cases c45 : t412 < 0
        · rw [if_pos c45] at H
          have c45b0 : decide (t412 < 0) = true := decide_eq_true c45
          clear c45
          (first | rw [c45b0] | (simp only [i64_w, i32_w]; rw [c45b0]) | skip)
          have H' := mkA H
          clear H
          go_wp2
          go_meet
          case rel => exact ⟨_, (true), (by first | rfl | (simp; done) | (simp [*]; done) | (simp [i64_w, i32_w]; done)), H', ⟨by have := HJ10.out; first | omega | exact Nat.le_refl _⟩, ⟨by (with_reducible repeat (first | apply Kd.R_alloc | apply Kd.R_drewN | apply Kd.R_drew)); exact HO_4.out⟩, ⟨by (with_reducible repeat (first | apply Kd.R_alloc | apply Kd.R_drewN | apply Kd.R_drew)); exact HO_7.out⟩, ⟨by (with_reducible repeat (first | apply Kd.R_alloc | apply Kd.R_drewN | apply Kd.R_drew)); exact Kd.R_mono HO_400001.out (fun _ hk => trivial)⟩, ⟨by (with_reducible repeat (first | refine blk_drewN ?_ _ | refine blk_drew ?_ | refine blk_alloc ?_ _)); exact BK381.out⟩, ⟨by (with_reducible repeat (first | refine blk_drewN ?_ _ | refine blk_drew ?_ | refine blk_alloc ?_ _)); exact BK399.out⟩, ⟨by repeat (first | (with_reducible first | exact HB.out | apply below_alloc | apply pw_below_drewN | apply below_drew1 | refine below_set ?_ GE381.out | refine below_set ?_ GE399.out) | exact HB.out)⟩⟩
        · rw [if_neg c45] at H
          have c45b0 : decide (t412 < 0) = false := decide_eq_false c45
          clear c45
          (first | rw [c45b0] | (simp only [i64_w, i32_w]; rw [c45b0]) | skip)
          replace H := Option.bind_eq_some_iff.mp H
          obtain ⟨t414, A460, H⟩ := H
          replace H : (if t414 = true then (laws_FnExactTurnsOfPiece.j1 kj10 t389 t392 t400 (t403 != t392) a0_0 l0_1 a0_2 a0_3) else (laws_FnExactTurnsOfPiece.j1 kj10 t389 t392 t400 true a0_0 l0_1 a0_2 a0_3)) = some r := H
          have A46 := mkA A460
          clear A460
          by_cases c47 : t414 = true
          · subst c47
            have H1 : (laws_FnExactTurnsOfPiece.j1 kj10 t389 t392 t400 (t403 != t392) a0_0 l0_1 a0_2 a0_3) = some r := by rw [if_pos rfl] at H; exact H
            clear H
            have H := H1
            clear H1
            have H' := mkA H
            clear H
            obtain ⟨Ao48, co48, eo48⟩ := Kd.R_slice HO_7.out
            subst eo48
            obtain ⟨Ao49, co49, eo49⟩ := Kd.R_slice HO_4.out
            subst eo49
            go_wp2_with (first | (go_at_call 37; (with_reducible refine (laws_eqInt64S.calls kj10 _ _ t400 _ _ t389 true _ ?side1 ?side2 ?side3 ?side4 A46.out).mono ?_); (case side1 => repeat (first | exact (Kd.R_reads' HO_7.out).2.2 | (with_reducible refine Kd.C_alloc ?_ _) | (with_reducible refine Kd.C_drewN ?_ _) | (with_reducible refine Kd.C_drew ?_))); (case side2 => exact (Kd.R_reads' HO_7.out).2.1); (case side3 => repeat (first | exact (Kd.R_reads' HO_4.out).2.2 | (with_reducible refine Kd.C_alloc ?_ _) | (with_reducible refine Kd.C_drewN ?_ _) | (with_reducible refine Kd.C_drew ?_))); (case side4 => exact (Kd.R_reads' HO_4.out).2.1); rintro e w' ⟨rfl, ⟨nd, rfl⟩⟩))
            go_meet
            case rel => exact ⟨_, ((t403 != t392)), (by first | rfl | (simp; done) | (simp [*]; done) | (simp [i64_w, i32_w]; done)), H', ⟨by have := HJ10.out; first | omega | exact Nat.le_refl _⟩, ⟨by (with_reducible repeat (first | apply Kd.R_alloc | apply Kd.R_drewN | apply Kd.R_drew)); exact HO_4.out⟩, ⟨by (with_reducible repeat (first | apply Kd.R_alloc | apply Kd.R_drewN | apply Kd.R_drew)); exact HO_7.out⟩, ⟨by (with_reducible repeat (first | apply Kd.R_alloc | apply Kd.R_drewN | apply Kd.R_drew)); exact Kd.R_mono HO_400001.out (fun _ hk => trivial)⟩, ⟨by (with_reducible repeat (first | refine blk_drewN ?_ _ | refine blk_drew ?_ | refine blk_alloc ?_ _)); exact BK381.out⟩, ⟨by (with_reducible repeat (first | refine blk_drewN ?_ _ | refine blk_drew ?_ | refine blk_alloc ?_ _)); exact BK399.out⟩, ⟨by repeat (first | (with_reducible first | exact HB.out | apply below_alloc | apply pw_below_drewN | apply below_drew1 | refine below_set ?_ GE381.out | refine below_set ?_ GE399.out) | exact HB.out)⟩⟩
          · replace c47 := Bool.eq_false_iff.mpr c47
            subst c47
            have H1 : (laws_FnExactTurnsOfPiece.j1 kj10 t389 t392 t400 true a0_0 l0_1 a0_2 a0_3) = some r := by rw [if_neg (show ¬ (false = true) by decide)] at H; exact H
            clear H
            have H := H1
            clear H1
            have H' := mkA H
            clear H
            obtain ⟨Ao50, co50, eo50⟩ := Kd.R_slice HO_7.out
            subst eo50
            obtain ⟨Ao51, co51, eo51⟩ := Kd.R_slice HO_4.out
            subst eo51
            go_wp2_with (first | (go_at_call 37; (with_reducible refine (laws_eqInt64S.calls kj10 _ _ t400 _ _ t389 false _ ?side1 ?side2 ?side3 ?side4 A46.out).mono ?_); (case side1 => repeat (first | exact (Kd.R_reads' HO_7.out).2.2 | (with_reducible refine Kd.C_alloc ?_ _) | (with_reducible refine Kd.C_drewN ?_ _) | (with_reducible refine Kd.C_drew ?_))); (case side2 => exact (Kd.R_reads' HO_7.out).2.1); (case side3 => repeat (first | exact (Kd.R_reads' HO_4.out).2.2 | (with_reducible refine Kd.C_alloc ?_ _) | (with_reducible refine Kd.C_drewN ?_ _) | (with_reducible refine Kd.C_drew ?_))); (case side4 => exact (Kd.R_reads' HO_4.out).2.1); rintro e w' ⟨rfl, ⟨nd, rfl⟩⟩))
            go_meet
            case rel => exact ⟨_, (true), (by first | rfl | (simp; done) | (simp [*]; done) | (simp [i64_w, i32_w]; done)), H', ⟨by have := HJ10.out; first | omega | exact Nat.le_refl _⟩, ⟨by (with_reducible repeat (first | apply Kd.R_alloc | apply Kd.R_drewN | apply Kd.R_drew)); exact HO_4.out⟩, ⟨by (with_reducible repeat (first | apply Kd.R_alloc | apply Kd.R_drewN | apply Kd.R_drew)); exact HO_7.out⟩, ⟨by (with_reducible repeat (first | apply Kd.R_alloc | apply Kd.R_drewN | apply Kd.R_drew)); exact Kd.R_mono HO_400001.out (fun _ hk => trivial)⟩, ⟨by (with_reducible repeat (first | refine blk_drewN ?_ _ | refine blk_drew ?_ | refine blk_alloc ?_ _)); exact BK381.out⟩, ⟨by (with_reducible repeat (first | refine blk_drewN ?_ _ | refine blk_drew ?_ | refine blk_alloc ?_ _)); exact BK399.out⟩, ⟨by repeat (first | (with_reducible first | exact HB.out | apply below_alloc | apply pw_below_drewN | apply below_drew1 | refine below_set ?_ GE381.out | refine below_set ?_ GE399.out) | exact HB.out)⟩⟩
       case rest =>
        clear HC37
        try clear c2
        try clear p2
        try clear c3
        try clear c3b0
        try clear c4
        try clear c9
        try clear c22
        try clear c27
        try clear c32
        try clear c33
        try clear c34
        try clear c35
        try clear c36
        try clear c37
        try clear c38
        try clear c39
        try clear c42
        try clear c45
        try clear c45b0
        try clear c47
        try clear hcz13_0
        try clear hcz13_1
        try clear hcz13_2
        try clear hcz13_3
        try clear hcz15_0
        try clear hcz15_1
        try clear hcz15_2
        try clear hcz15_3
        try clear hcz19_0
        try clear hcz19_1
        try clear hcz19_2
        try clear hcz19_3
        try clear hcz23_0
        try clear hcz23_1
        try clear hcz23_2
        try clear hcz23_3
        try clear hcz43_0
        try clear hcz43_1
        try clear hcz43_2
        try clear hcz43_3
        try clear hcz5_0
        try clear hcz5_1
        try clear hcz5_2
        try clear hcz5_3
        try clear hfz13_0
        try clear hfz13_1
        try clear hfz13_2
        try clear hfz13_3
        try clear hfz15_0
        try clear hfz15_1
        try clear hfz15_2
        try clear hfz15_3
        try clear hfz19_0
        try clear hfz19_1
        try clear hfz19_2
        try clear hfz19_3
        try clear hfz23_0
        try clear hfz23_1
        try clear hfz23_2
        try clear hfz23_3
        try clear hfz43_0
        try clear hfz43_1
        try clear hfz43_2
        try clear hfz43_3
        try clear hfz5_0
        try clear hfz5_1
        try clear hfz5_2
        try clear hfz5_3
        try clear p2
        obtain ⟨kq, x61_36, rfl, HA, HJ36, HO_4, HO_7, HO_400001, BK381, BK399, HB⟩ := hcut
        have hl400001_36 := (Kd.R_reads' HO_400001.out).1
        rw [hl400001_36] at HO_400001
        (try simp only [hl400001_36])
        (try simp only [hl400001_36] at BK381)
        (try simp only [hl400001_36] at BK399)
        (try simp only [hl400001_36] at HO_4)
        (try simp only [hl400001_36] at HO_7)
        cases kq with
        | zero => exact absurd HA.out (by simp [laws_FnExactTurnsOfPiece.j1])
        | succ kj36 =>
         have H := HA.out
         clear HA
         simp only [laws_FnExactTurnsOfPiece.j1] at H
         by_cases c52 : x61_36 = true
         · subst c52
           have H1 : (some false) = some r := by rw [if_pos rfl] at H; exact H
           clear H
           have H := H1
           clear H1
           obtain rfl := Option.some.inj H
           go_wp2
           go_ret
           exact ⟨by first | rfl | (simp [errW_none, errW_some] <;> rfl) | (simp [*, errW_none, errW_some] <;> rfl), by repeat (first | (with_reducible first | exact HB.out | apply below_alloc | apply pw_below_drewN | apply below_drew1 | refine below_set ?_ GE381.out | refine below_set ?_ GE399.out) | exact HB.out)⟩
         · replace c52 := Bool.eq_false_iff.mpr c52
           subst c52
           have H1 : ((laws_markInt64S.f kj36 t400 1).bind fun bt415 => ((laws_heldInt64S.f kj36 bt415.2 1).bind fun t417 => (if t417 < 0 then (some false) else (if t417 = bt415.1 then ((laws_toPiece.f kj36 a0_0 l0_1 a0_2 a0_3).bind fun bt418 => ((impl_TurnsOfPiece.f kj36 bt418.1 bt418.2.1 bt418.2.2.1 bt418.2.2.2).bind fun bt424 => ((laws_eqInt64S.f kj36 bt424.1 t389).bind fun t428 => (if t428 = true then (laws_FnExactTurnsOfPiece.j2 kj36 bt415.2 bt415.1 (bt424.2 != t392)) else (laws_FnExactTurnsOfPiece.j2 kj36 bt415.2 bt415.1 true))))) else (some false))))) = some r := by rw [if_neg (show ¬ (false = true) by decide)] at H; exact H
           clear H
           have H := H1
           clear H1
           replace H := Option.bind_eq_some_iff.mp H
           obtain ⟨⟨t415, t416⟩, A530, H⟩ := H
           replace H : ((laws_heldInt64S.f kj36 t416 1).bind fun t417 => (if t417 < 0 then (some false) else (if t417 = t415 then ((laws_toPiece.f kj36 a0_0 l0_1 a0_2 a0_3).bind fun bt418 => ((impl_TurnsOfPiece.f kj36 bt418.1 bt418.2.1 bt418.2.2.1 bt418.2.2.2).bind fun bt424 => ((laws_eqInt64S.f kj36 bt424.1 t389).bind fun t428 => (if t428 = true then (laws_FnExactTurnsOfPiece.j2 kj36 t416 t415 (bt424.2 != t392)) else (laws_FnExactTurnsOfPiece.j2 kj36 t416 t415 true))))) else (some false)))) = some r := H
           have A53 := mkA A530
           clear A530
           replace H := Option.bind_eq_some_iff.mp H
           obtain ⟨t417, A540, H⟩ := H
           replace H : (if t417 < 0 then (some false) else (if t417 = t415 then ((laws_toPiece.f kj36 a0_0 l0_1 a0_2 a0_3).bind fun bt418 => ((impl_TurnsOfPiece.f kj36 bt418.1 bt418.2.1 bt418.2.2.1 bt418.2.2.2).bind fun bt424 => ((laws_eqInt64S.f kj36 bt424.1 t389).bind fun t428 => (if t428 = true then (laws_FnExactTurnsOfPiece.j2 kj36 t416 t415 (bt424.2 != t392)) else (laws_FnExactTurnsOfPiece.j2 kj36 t416 t415 true))))) else (some false))) = some r := H
           have A54 := mkA A540
           clear A540
           by_cases c55 : t417 < 0
           · rw [if_pos c55] at H
             have c55b0 : decide (t417 < 0) = true := decide_eq_true c55
             clear c55
             obtain rfl := Option.some.inj H
             obtain ⟨Ao56, co56, eo56⟩ := Kd.R_slice HO_7.out
             subst eo56
             go_wp2_with (first | ((with_reducible refine gate_callee (f := 40) rfl ?_); refine goesL_ (some 64) rfl rfl Try.func40 (by kernel_rfl) rfl #[.slice Ao56 t400.length co56, .int .i64 1] rfl (by (try simp only [List.map_toArray, List.map_cons, List.map_nil]); first | done | rfl | (simp only [List.length_drop, List.length_take]; rfl)) ?_; (with_reducible refine (laws_markInt64S.calls kj36 (fun k_ => some k_ = (.slice Ao56 t400.length co56 : Value).ownBlock) (.slice Ao56 t400.length co56) t400 1 t415 t416 w _ ?side1 ?side2 A53.out).mono ?_); (case side1 => repeat (first | (with_reducible first | exact HB.out | apply below_alloc | apply pw_below_drewN | apply below_drew1 | refine below_set ?_ GE381.out | refine below_set ?_ GE399.out) | exact HB.out)); (case side2 => exact Kd.R_tight rfl HO_7.out); rintro e w57 ⟨rfl, hy0, hb, hkp⟩; refine ⟨_, rfl, ?_⟩; have n0_ := mkA (Kd.R_mono (ok' := fun k_ => some k_ ≠ (.slice Ao56 t400.length co56 : Value).ownBlock) (Kd.R_keptB (HO_4.out) hkp (fun k_ hk_ hs_ => (hk_) hs_)) (fun k_ hk_ => hk_.1)); have n1_ := mkA (Kd.R_reok rfl hy0 (fun k_ e_ => HO_7.out.1 k_ e_)); have n2_ := mkA (Kd.R_mono (ok' := fun k_ => True) (Kd.R_keptB ((Kd.R_apart' HO_400001.out (Kd.R_typed HO_7.out) (by decide))) hkp (fun k_ hk_ hs_ => (hk_.2) hs_)) (fun k_ hk_ => trivial)); have n3_ := mkA (blk_kept (bl_ BK381.out) hkp (fun hs_ => (fun e_ => (Kd.R_ne HO_7.out BK381.out (by decide)) e_) hs_)); have n4_ := mkA (blk_kept (bl_ BK399.out) hkp (fun hs_ => (fun e_ => (Kd.R_ne HO_7.out BK399.out (by decide)) e_) hs_)); have n5_ := mkA (hb); clear HO_4; clear HO_7; clear HO_400001; clear BK381; clear BK399; clear HB; have HO_4 := n0_; have HO_7 := n1_; have HO_400001 := n2_; have BK381 := n3_; have BK399 := n4_; have HB := n5_; clear n0_ n1_ n2_ n3_ n4_ n5_; (try clear hb); (try clear hkp); (try clear hy0)) | ((with_reducible refine gate_callee (f := 41) rfl ?_); refine goesL_ (some 67) rfl rfl Try.func41 (by kernel_rfl) rfl #[.slice Ao56 t416.length co56, .int .i64 1] rfl (by (try simp only [List.map_toArray, List.map_cons, List.map_nil]); first | done | (rw [show t416.length = t400.length from (Kd.R_reads' HO_7.out).1.symm] <;> rfl) | rfl | (simp only [List.length_drop, List.length_take]; rfl)) ?_; (with_reducible refine (laws_heldInt64S.calls kj36 _ _ t416 1 t417 _ ?side1 ?side2 A54.out).mono ?_); (case side1 => repeat (first | exact (Kd.R_reads' HO_7.out).2.2 | (with_reducible refine Kd.C_alloc ?_ _) | (with_reducible refine Kd.C_drewN ?_ _) | (with_reducible refine Kd.C_drew ?_))); (case side2 => rw [show t416.length = t400.length from (Kd.R_reads' HO_7.out).1.symm]; exact (Kd.R_reads' HO_7.out).2.1); rintro e w' ⟨rfl, ⟨nd, rfl⟩⟩; refine ⟨_, rfl, ?_⟩))
             go_ret
             exact ⟨by first | rfl | (simp [errW_none, errW_some] <;> rfl) | (simp [*, errW_none, errW_some] <;> rfl), by repeat (first | (with_reducible first | exact HB.out | apply below_alloc | apply pw_below_drewN | apply below_drew1 | refine below_set ?_ GE381.out | refine below_set ?_ GE399.out) | exact HB.out)⟩
           · rw [if_neg c55] at H
             have c55b0 : decide (t417 < 0) = false := decide_eq_false c55
             clear c55
             by_cases c58 : t417 = t415
             rotate_left
             · rw [if_neg c58] at H
               have c58b0 : (t417 == t415) = false := beq_eq_false_iff_ne.mpr c58
               have c58b1 : (t417 != t415) = true := bne_iff_ne.mpr c58
               obtain rfl := Option.some.inj H
               obtain ⟨Ao79, co79, eo79⟩ := Kd.R_slice HO_7.out
               subst eo79
               go_wp2_with (first | ((with_reducible refine gate_callee (f := 40) rfl ?_); refine goesL_ (some 64) rfl rfl Try.func40 (by kernel_rfl) rfl #[.slice Ao79 t400.length co79, .int .i64 1] rfl (by (try simp only [List.map_toArray, List.map_cons, List.map_nil]); first | done | rfl | (simp only [List.length_drop, List.length_take]; rfl)) ?_; (with_reducible refine (laws_markInt64S.calls kj36 (fun k_ => some k_ = (.slice Ao79 t400.length co79 : Value).ownBlock) (.slice Ao79 t400.length co79) t400 1 t415 t416 w _ ?side1 ?side2 A53.out).mono ?_); (case side1 => repeat (first | (with_reducible first | exact HB.out | apply below_alloc | apply pw_below_drewN | apply below_drew1 | refine below_set ?_ GE381.out | refine below_set ?_ GE399.out) | exact HB.out)); (case side2 => exact Kd.R_tight rfl HO_7.out); rintro e w80 ⟨rfl, hy0, hb, hkp⟩; refine ⟨_, rfl, ?_⟩; have n0_ := mkA (Kd.R_mono (ok' := fun k_ => some k_ ≠ (.slice Ao79 t400.length co79 : Value).ownBlock) (Kd.R_keptB (HO_4.out) hkp (fun k_ hk_ hs_ => (hk_) hs_)) (fun k_ hk_ => hk_.1)); have n1_ := mkA (Kd.R_reok rfl hy0 (fun k_ e_ => HO_7.out.1 k_ e_)); have n2_ := mkA (Kd.R_mono (ok' := fun k_ => True) (Kd.R_keptB ((Kd.R_apart' HO_400001.out (Kd.R_typed HO_7.out) (by decide))) hkp (fun k_ hk_ hs_ => (hk_.2) hs_)) (fun k_ hk_ => trivial)); have n3_ := mkA (blk_kept (bl_ BK381.out) hkp (fun hs_ => (fun e_ => (Kd.R_ne HO_7.out BK381.out (by decide)) e_) hs_)); have n4_ := mkA (blk_kept (bl_ BK399.out) hkp (fun hs_ => (fun e_ => (Kd.R_ne HO_7.out BK399.out (by decide)) e_) hs_)); have n5_ := mkA (hb); clear HO_4; clear HO_7; clear HO_400001; clear BK381; clear BK399; clear HB; have HO_4 := n0_; have HO_7 := n1_; have HO_400001 := n2_; have BK381 := n3_; have BK399 := n4_; have HB := n5_; clear n0_ n1_ n2_ n3_ n4_ n5_; (try clear hb); (try clear hkp); (try clear hy0)) | ((with_reducible refine gate_callee (f := 41) rfl ?_); refine goesL_ (some 67) rfl rfl Try.func41 (by kernel_rfl) rfl #[.slice Ao79 t416.length co79, .int .i64 1] rfl (by (try simp only [List.map_toArray, List.map_cons, List.map_nil]); first | done | (rw [show t416.length = t400.length from (Kd.R_reads' HO_7.out).1.symm] <;> rfl) | rfl | (simp only [List.length_drop, List.length_take]; rfl)) ?_; (with_reducible refine (laws_heldInt64S.calls kj36 _ _ t416 1 t417 _ ?side1 ?side2 A54.out).mono ?_); (case side1 => repeat (first | exact (Kd.R_reads' HO_7.out).2.2 | (with_reducible refine Kd.C_alloc ?_ _) | (with_reducible refine Kd.C_drewN ?_ _) | (with_reducible refine Kd.C_drew ?_))); (case side2 => rw [show t416.length = t400.length from (Kd.R_reads' HO_7.out).1.symm]; exact (Kd.R_reads' HO_7.out).2.1); rintro e w' ⟨rfl, ⟨nd, rfl⟩⟩; refine ⟨_, rfl, ?_⟩))
               go_ret
               exact ⟨by first | rfl | (simp [errW_none, errW_some] <;> rfl) | (simp [*, errW_none, errW_some] <;> rfl), by repeat (first | (with_reducible first | exact HB.out | apply below_alloc | apply pw_below_drewN | apply below_drew1 | refine below_set ?_ GE381.out | refine below_set ?_ GE399.out) | exact HB.out)⟩
             rw [if_pos c58] at H
             have c58b0 : (t417 == t415) = true := beq_iff_eq.mpr c58
             have c58b1 : (t417 != t415) = false := bne_eq_false_iff_eq.mpr c58
             clear c58
             replace H := Option.bind_eq_some_iff.mp H
             obtain ⟨⟨t418, t419, t422, t423⟩, A590, H⟩ := H
             replace H : ((impl_TurnsOfPiece.f kj36 t418 t419 t422 t423).bind fun bt424 => ((laws_eqInt64S.f kj36 bt424.1 t389).bind fun t428 => (if t428 = true then (laws_FnExactTurnsOfPiece.j2 kj36 t416 t415 (bt424.2 != t392)) else (laws_FnExactTurnsOfPiece.j2 kj36 t416 t415 true)))) = some r := H
             have A59 := mkA A590
             clear A590
             replace H := Option.bind_eq_some_iff.mp H
             obtain ⟨⟨t424, t427⟩, A600, H⟩ := H
             replace H : ((laws_eqInt64S.f kj36 t424 t389).bind fun t428 => (if t428 = true then (laws_FnExactTurnsOfPiece.j2 kj36 t416 t415 (t427 != t392)) else (laws_FnExactTurnsOfPiece.j2 kj36 t416 t415 true))) = some r := H
             have A60 := mkA A600
             clear A600
             have HC61 := mkA H
             clear H
             obtain ⟨Ao62, co62, eo62⟩ := Kd.R_slice HO_7.out
             subst eo62
             go_upto_region 25 with (first | ((with_reducible refine gate_callee (f := 40) rfl ?_); refine goesL_ (some 64) rfl rfl Try.func40 (by kernel_rfl) rfl #[.slice Ao62 t400.length co62, .int .i64 1] rfl (by (try simp only [List.map_toArray, List.map_cons, List.map_nil]); first | done | rfl | (simp only [List.length_drop, List.length_take]; rfl)) ?_; (with_reducible refine (laws_markInt64S.calls kj36 (fun k_ => some k_ = (.slice Ao62 t400.length co62 : Value).ownBlock) (.slice Ao62 t400.length co62) t400 1 t415 t416 w _ ?side1 ?side2 A53.out).mono ?_); (case side1 => repeat (first | (with_reducible first | exact HB.out | apply below_alloc | apply pw_below_drewN | apply below_drew1 | refine below_set ?_ GE381.out | refine below_set ?_ GE399.out) | exact HB.out)); (case side2 => exact Kd.R_tight rfl HO_7.out); rintro e w63 ⟨rfl, hy0, hb, hkp⟩; refine ⟨_, rfl, ?_⟩; have n0_ := mkA (Kd.R_mono (ok' := fun k_ => some k_ ≠ (.slice Ao62 t400.length co62 : Value).ownBlock) (Kd.R_keptB (HO_4.out) hkp (fun k_ hk_ hs_ => (hk_) hs_)) (fun k_ hk_ => hk_.1)); have n1_ := mkA (Kd.R_reok rfl hy0 (fun k_ e_ => HO_7.out.1 k_ e_)); have n2_ := mkA (Kd.R_mono (ok' := fun k_ => True) (Kd.R_keptB ((Kd.R_apart' HO_400001.out (Kd.R_typed HO_7.out) (by decide))) hkp (fun k_ hk_ hs_ => (hk_.2) hs_)) (fun k_ hk_ => trivial)); have n3_ := mkA (blk_kept (bl_ BK381.out) hkp (fun hs_ => (fun e_ => (Kd.R_ne HO_7.out BK381.out (by decide)) e_) hs_)); have n4_ := mkA (blk_kept (bl_ BK399.out) hkp (fun hs_ => (fun e_ => (Kd.R_ne HO_7.out BK399.out (by decide)) e_) hs_)); have n5_ := mkA (hb); clear HO_4; clear HO_7; clear HO_400001; clear BK381; clear BK399; clear HB; have HO_4 := n0_; have HO_7 := n1_; have HO_400001 := n2_; have BK381 := n3_; have BK399 := n4_; have HB := n5_; clear n0_ n1_ n2_ n3_ n4_ n5_; (try clear hb); (try clear hkp); (try clear hy0)) | ((with_reducible refine gate_callee (f := 41) rfl ?_); refine goesL_ (some 67) rfl rfl Try.func41 (by kernel_rfl) rfl #[.slice Ao62 t416.length co62, .int .i64 1] rfl (by (try simp only [List.map_toArray, List.map_cons, List.map_nil]); first | done | (rw [show t416.length = t400.length from (Kd.R_reads' HO_7.out).1.symm] <;> rfl) | rfl | (simp only [List.length_drop, List.length_take]; rfl)) ?_; (with_reducible refine (laws_heldInt64S.calls kj36 _ _ t416 1 t417 _ ?side1 ?side2 A54.out).mono ?_); (case side1 => repeat (first | exact (Kd.R_reads' HO_7.out).2.2 | (with_reducible refine Kd.C_alloc ?_ _) | (with_reducible refine Kd.C_drewN ?_ _) | (with_reducible refine Kd.C_drew ?_))); (case side2 => rw [show t416.length = t400.length from (Kd.R_reads' HO_7.out).1.symm]; exact (Kd.R_reads' HO_7.out).2.1); rintro e w' ⟨rfl, ⟨nd, rfl⟩⟩; refine ⟨_, rfl, ?_⟩; have hnb64 := NB381_399.out; have hnc64 := NB399_381.out; have hcz65_0 : w63.cell? ⟨gb381, 0, none⟩ = some (.string a0_0) := (blk_cell BK381.out 0).trans rfl; have hcz65_1 : w63.cell? ⟨gb381, 1, none⟩ = some (.slice A0_1 l0_1.length c0_1) := (blk_cell BK381.out 1).trans rfl; have hcz65_2 : w63.cell? ⟨gb381, 2, none⟩ = some (.int .i64 a0_2) := (blk_cell BK381.out 2).trans rfl; have hcz65_3 : w63.cell? ⟨gb381, 3, none⟩ = some (.bool a0_3) := (blk_cell BK381.out 3).trans rfl; have hfz65_0 := blk_frozen BK381.out 0; have hfz65_1 := blk_frozen BK381.out 1; have hfz65_2 := blk_frozen BK381.out 2; have hfz65_3 := blk_frozen BK381.out 3) | ((with_reducible refine gate_callee (f := 35) rfl ?_); refine goesL_ (some 75) rfl rfl Try.func35 (by kernel_rfl) rfl #[.agg #[.string a0_0, .slice A0_1 l0_1.length c0_1, .int .i64 a0_2, .bool a0_3]] rfl (by (try simp only [List.map_toArray, List.map_cons, List.map_nil]); first | done | rfl | (simp only [List.length_drop, List.length_take]; rfl)) ?_; (with_reducible refine (laws_toPiece.calls kj36 a0_0 _ _ l0_1 a0_2 a0_3 t418 t419 t422 t423 _ ?side1 ?side2 A59.out).mono ?_); (case side1 => repeat (first | exact (Kd.C_below HR0_1.out (bs2_ HB.out GE381.out GE399.out)) | (with_reducible refine Kd.C_alloc ?_ _) | (with_reducible refine Kd.C_drewN ?_ _) | (with_reducible refine Kd.C_drew ?_))); (case side2 => exact HC0_1.out); rintro e w66 ⟨v420, rfl, ho0, hb⟩; refine ⟨_, rfl, ?_⟩; have n0_ := mkA (Kd.R_below (by (with_reducible repeat (first | apply Kd.R_alloc | apply Kd.R_drewN | apply Kd.R_drew)); exact HO_4.out) hb); have n1_ := mkA (Kd.R_below (by (with_reducible repeat (first | apply Kd.R_alloc | apply Kd.R_drewN | apply Kd.R_drew)); exact HO_7.out) hb); have n2_ := mkA (Kd.R_elder' (by (with_reducible repeat (first | apply Kd.R_alloc | apply Kd.R_drewN | apply Kd.R_drew)); exact HO_400001.out) (Kd.R_base ho0) hb); have n3_ := mkA (Kd.R_lower (Kd.R_new' ho0 (Kd.R_lt (by (with_reducible repeat (first | apply Kd.R_alloc | apply Kd.R_drewN | apply Kd.R_drew)); exact HO_400001.out))) (below_size (bs2_ HB.out GE381.out GE399.out))); have n4_ := mkA (blk_below (g := gb381) (o := .cells #[.string a0_0, .slice A0_1 l0_1.length c0_1, .int .i64 a0_2, .bool a0_3] 47 (0, 0)) (bl_ BK381.out) hb); have n5_ := mkA (blk_below (g := gb399) (o := .cells #[.string t393, .slice Ao24 t413.length co24, .int .i64 t397, .bool t398] 53 (0, 0)) (bl_ BK399.out) hb); have n6_ := mkA (below_step (bs2_ HB.out GE381.out GE399.out) hb); clear HO_4; clear HO_7; clear HO_400001; clear BK381; clear BK399; clear HB; have HO_4 := n0_; have HO_7 := n1_; have HO_400001 := n2_; have HO421 := n3_; have BK381 := n4_; have BK399 := n5_; have HB := n6_; clear n0_ n1_ n2_ n3_ n4_ n5_ n6_; (try clear hb); (try clear hb2); (try clear hk); (try clear hi); (try clear ho0); obtain ⟨Ao67, co67, eo67⟩ := Kd.R_slice HO421.out; subst eo67) | ((with_reducible refine gate_callee (f := 36) rfl ?_); refine goesL_ (some 76) rfl rfl Try.func36 (by kernel_rfl) rfl #[.agg #[.string t418, .slice Ao67 t419.length co67, .int .i64 t422, .bool t423]] rfl (by (try simp only [List.map_toArray, List.map_cons, List.map_nil]); first | done | rfl | (simp only [List.length_drop, List.length_take]; rfl)) ?_; (with_reducible refine (impl_TurnsOfPiece.calls kj36 t418 _ _ t419 t422 t423 t424 t427 _ ?side1 ?side2 A60.out).mono ?_); (case side1 => repeat (first | exact (Kd.R_reads' HO421.out).2.2 | (with_reducible refine Kd.C_alloc ?_ _) | (with_reducible refine Kd.C_drewN ?_ _) | (with_reducible refine Kd.C_drew ?_))); (case side2 => exact (Kd.R_reads' HO421.out).2.1); rintro e w68 ⟨v425, rfl, ho0, hb⟩; refine ⟨_, rfl, ?_⟩; have n0_ := mkA (Kd.R_elder' (by (with_reducible repeat (first | apply Kd.R_alloc | apply Kd.R_drewN | apply Kd.R_drew)); exact HO_4.out) (Kd.R_base ho0) hb); have n1_ := mkA (Kd.R_elder' (by (with_reducible repeat (first | apply Kd.R_alloc | apply Kd.R_drewN | apply Kd.R_drew)); exact HO_7.out) (Kd.R_base ho0) hb); have n2_ := mkA (Kd.R_below (by (with_reducible repeat (first | apply Kd.R_alloc | apply Kd.R_drewN | apply Kd.R_drew)); exact HO_400001.out) hb); have n3_ := mkA (Kd.R_below (by (with_reducible repeat (first | apply Kd.R_alloc | apply Kd.R_drewN | apply Kd.R_drew)); exact HO421.out) hb); have n4_ := mkA (Kd.R_lower (Kd.R_new' (Kd.R_new' ho0 (Kd.R_lt (by (with_reducible repeat (first | apply Kd.R_alloc | apply Kd.R_drewN | apply Kd.R_drew)); exact HO_4.out))) (Kd.R_lt (by (with_reducible repeat (first | apply Kd.R_alloc | apply Kd.R_drewN | apply Kd.R_drew)); exact HO_7.out))) (below_size (bs2_ HB.out GE381.out GE399.out))); have n5_ := mkA (blk_below (g := gb381) (o := .cells #[.string a0_0, .slice A0_1 l0_1.length c0_1, .int .i64 a0_2, .bool a0_3] 47 (0, 0)) (bl_ BK381.out) hb); have n6_ := mkA (blk_below (g := gb399) (o := .cells #[.string t393, .slice Ao24 t413.length co24, .int .i64 t397, .bool t398] 53 (0, 0)) (bl_ BK399.out) hb); have n7_ := mkA (below_step (bs2_ HB.out GE381.out GE399.out) hb); clear HO_4; clear HO_7; clear HO_400001; clear HO421; clear BK381; clear BK399; clear HB; have HO_4 := n0_; have HO_7 := n1_; have HO_400001 := n2_; have HO421 := n3_; have HO426 := n4_; have BK381 := n5_; have BK399 := n6_; have HB := n7_; clear n0_ n1_ n2_ n3_ n4_ n5_ n6_ n7_; (try clear hb); (try clear hb2); (try clear hk); (try clear hi); (try clear ho0)))
             (try simp only [Act.put, sA, sB, sC])
             go_cut [87] (fun v87 wc => ∃ (kq : Nat) (x87_60 : Bool), v87 = .bool x87_60 ∧ Aside0 (laws_FnExactTurnsOfPiece.j2 kq t416 t415 x87_60 = some r) ∧ Aside0 (kq ≤ kj36) ∧ Aside0 (Kd.R (Kd.int .i64) 2 wc w.heap.size (fun _ => True) (.slice Ao62 t400.length co62) t416) ∧ Aside0 (Kd.R k105 105 wc w.heap.size (fun _ => True) (.slice Ao24 t413.length co24) t413) ∧ Aside0 (wc.heap[gb381]? = some (.cells #[.string a0_0, (.slice A0_1 l0_1.length c0_1), .int .i64 a0_2, .bool a0_3] 47 (0, 0))) ∧ Aside0 (wc.heap[gb399]? = some (.cells #[.string t393, (.slice Ao24 t413.length co24), .int .i64 t397, .bool t398] 53 (0, 0))) ∧ Aside0 (Below w.heap.size w wc))
             case first =>
              have H := HC61.out
              clear HC61
              replace H := Option.bind_eq_some_iff.mp H
              obtain ⟨t428, A690, H⟩ := H
              replace H : (if t428 = true then (laws_FnExactTurnsOfPiece.j2 kj36 t416 t415 (t427 != t392)) else (laws_FnExactTurnsOfPiece.j2 kj36 t416 t415 true)) = some r := H
              have A69 := mkA A690
              clear A690
              by_cases c70 : t428 = true
              · subst c70
                have H1 : (laws_FnExactTurnsOfPiece.j2 kj36 t416 t415 (t427 != t392)) = some r := by rw [if_pos rfl] at H; exact H
                clear H
                have H := H1
                clear H1
                have H' := mkA H
                clear H
                obtain ⟨Ao71, co71, eo71⟩ := Kd.R_slice HO426.out
                subst eo71
                obtain ⟨Ao72, co72, eo72⟩ := Kd.R_slice HO_4.out
                subst eo72
                go_wp2_with (first | ((with_reducible refine gate_callee (f := 37) rfl ?_); refine goesL_ (some 81) rfl rfl Try.func37 (by kernel_rfl) rfl #[.slice Ao71 t424.length co71, .slice Ao72 t389.length co72] rfl (by (try simp only [List.map_toArray, List.map_cons, List.map_nil]); first | done | rfl | (simp only [List.length_drop, List.length_take]; rfl)) ?_; (with_reducible refine (laws_eqInt64S.calls kj36 _ _ t424 _ _ t389 true _ ?side1 ?side2 ?side3 ?side4 A69.out).mono ?_); (case side1 => repeat (first | exact (Kd.R_reads' HO426.out).2.2 | (with_reducible refine Kd.C_alloc ?_ _) | (with_reducible refine Kd.C_drewN ?_ _) | (with_reducible refine Kd.C_drew ?_))); (case side2 => exact (Kd.R_reads' HO426.out).2.1); (case side3 => repeat (first | exact (Kd.R_reads' HO_4.out).2.2 | (with_reducible refine Kd.C_alloc ?_ _) | (with_reducible refine Kd.C_drewN ?_ _) | (with_reducible refine Kd.C_drew ?_))); (case side4 => exact (Kd.R_reads' HO_4.out).2.1); rintro e w' ⟨rfl, ⟨nd, rfl⟩⟩; refine ⟨_, rfl, ?_⟩))
                go_meet
                case rel => exact ⟨_, ((t427 != t392)), (by first | rfl | (simp; done) | (simp [*]; done) | (simp [i64_w, i32_w]; done)), H', ⟨by have := HJ10.out; have := HJ36.out; first | omega | exact Nat.le_refl _⟩, ⟨by (try simp only [hl400001_36]); (with_reducible repeat (first | apply Kd.R_alloc | apply Kd.R_drewN | apply Kd.R_drew)); exact Kd.R_mono HO_7.out (fun _ hk => trivial)⟩, ⟨by (try simp only [hl400001_36]); (with_reducible repeat (first | apply Kd.R_alloc | apply Kd.R_drewN | apply Kd.R_drew)); exact Kd.R_mono HO_400001.out (fun _ hk => trivial)⟩, ⟨by (try simp only [hl400001_36]); (with_reducible repeat (first | refine blk_drewN ?_ _ | refine blk_drew ?_ | refine blk_alloc ?_ _)); exact BK381.out⟩, ⟨by (try simp only [hl400001_36]); (with_reducible repeat (first | refine blk_drewN ?_ _ | refine blk_drew ?_ | refine blk_alloc ?_ _)); exact BK399.out⟩, ⟨by repeat (first | (with_reducible first | exact HB.out | apply below_alloc | apply pw_below_drewN | apply below_drew1 | refine below_set ?_ GE381.out | refine below_set ?_ GE399.out) | exact HB.out)⟩⟩
              · replace c70 := Bool.eq_false_iff.mpr c70
                subst c70
                have H1 : (laws_FnExactTurnsOfPiece.j2 kj36 t416 t415 true) = some r := by rw [if_neg (show ¬ (false = true) by decide)] at H; exact H
                clear H
                have H := H1
                clear H1
                have H' := mkA H
                clear H
                obtain ⟨Ao73, co73, eo73⟩ := Kd.R_slice HO426.out
                subst eo73
                obtain ⟨Ao74, co74, eo74⟩ := Kd.R_slice HO_4.out
                subst eo74
                go_wp2_with (first | ((with_reducible refine gate_callee (f := 37) rfl ?_); refine goesL_ (some 81) rfl rfl Try.func37 (by kernel_rfl) rfl #[.slice Ao73 t424.length co73, .slice Ao74 t389.length co74] rfl (by (try simp only [List.map_toArray, List.map_cons, List.map_nil]); first | done | rfl | (simp only [List.length_drop, List.length_take]; rfl)) ?_; (with_reducible refine (laws_eqInt64S.calls kj36 _ _ t424 _ _ t389 false _ ?side1 ?side2 ?side3 ?side4 A69.out).mono ?_); (case side1 => repeat (first | exact (Kd.R_reads' HO426.out).2.2 | (with_reducible refine Kd.C_alloc ?_ _) | (with_reducible refine Kd.C_drewN ?_ _) | (with_reducible refine Kd.C_drew ?_))); (case side2 => exact (Kd.R_reads' HO426.out).2.1); (case side3 => repeat (first | exact (Kd.R_reads' HO_4.out).2.2 | (with_reducible refine Kd.C_alloc ?_ _) | (with_reducible refine Kd.C_drewN ?_ _) | (with_reducible refine Kd.C_drew ?_))); (case side4 => exact (Kd.R_reads' HO_4.out).2.1); rintro e w' ⟨rfl, ⟨nd, rfl⟩⟩; refine ⟨_, rfl, ?_⟩))
                go_meet
                case rel => exact ⟨_, (true), (by first | rfl | (simp; done) | (simp [*]; done) | (simp [i64_w, i32_w]; done)), H', ⟨by have := HJ10.out; have := HJ36.out; first | omega | exact Nat.le_refl _⟩, ⟨by (try simp only [hl400001_36]); (with_reducible repeat (first | apply Kd.R_alloc | apply Kd.R_drewN | apply Kd.R_drew)); exact Kd.R_mono HO_7.out (fun _ hk => trivial)⟩, ⟨by (try simp only [hl400001_36]); (with_reducible repeat (first | apply Kd.R_alloc | apply Kd.R_drewN | apply Kd.R_drew)); exact Kd.R_mono HO_400001.out (fun _ hk => trivial)⟩, ⟨by (try simp only [hl400001_36]); (with_reducible repeat (first | refine blk_drewN ?_ _ | refine blk_drew ?_ | refine blk_alloc ?_ _)); exact BK381.out⟩, ⟨by (try simp only [hl400001_36]); (with_reducible repeat (first | refine blk_drewN ?_ _ | refine blk_drew ?_ | refine blk_alloc ?_ _)); exact BK399.out⟩, ⟨by repeat (first | (with_reducible first | exact HB.out | apply below_alloc | apply pw_below_drewN | apply below_drew1 | refine below_set ?_ GE381.out | refine below_set ?_ GE399.out) | exact HB.out)⟩⟩
             case rest =>
              clear HC61
              try clear c2
              try clear p2
              try clear c3
              try clear c3b0
              try clear c4
              try clear c5
              try clear c6
              try clear c7
              try clear c9
              try clear c22
              try clear c27
              try clear c32
              try clear c33
              try clear c34
              try clear c35
              try clear c36
              try clear c37
              try clear c38
              try clear c39
              try clear c40
              try clear c41
              try clear c42
              try clear c45
              try clear c45b0
              try clear c47
              try clear c52
              try clear c55
              try clear c55b0
              try clear c58
              try clear c58b0
              try clear c58b1
              try clear c64
              try clear c70
              try clear hcz13_0
              try clear hcz13_1
              try clear hcz13_2
              try clear hcz13_3
              try clear hcz15_0
              try clear hcz15_1
              try clear hcz15_2
              try clear hcz15_3
              try clear hcz19_0
              try clear hcz19_1
              try clear hcz19_2
              try clear hcz19_3
              try clear hcz23_0
              try clear hcz23_1
              try clear hcz23_2
              try clear hcz23_3
              try clear hcz43_0
              try clear hcz43_1
              try clear hcz43_2
              try clear hcz43_3
              try clear hcz5_0
              try clear hcz5_1
              try clear hcz5_2
              try clear hcz5_3
              try clear hcz65_0
              try clear hcz65_1
              try clear hcz65_2
              try clear hcz65_3
              try clear hfz13_0
              try clear hfz13_1
              try clear hfz13_2
              try clear hfz13_3
              try clear hfz15_0
              try clear hfz15_1
              try clear hfz15_2
              try clear hfz15_3
              try clear hfz19_0
              try clear hfz19_1
              try clear hfz19_2
              try clear hfz19_3
              try clear hfz23_0
              try clear hfz23_1
              try clear hfz23_2
              try clear hfz23_3
              try clear hfz43_0
              try clear hfz43_1
              try clear hfz43_2
              try clear hfz43_3
              try clear hfz5_0
              try clear hfz5_1
              try clear hfz5_2
              try clear hfz5_3
              try clear hfz65_0
              try clear hfz65_1
              try clear hfz65_2
              try clear hfz65_3
              try clear p2
              obtain ⟨kq, x87_60, rfl, HA, HJ60, HO_7, HO_400001, BK381, BK399, HB⟩ := hcut
              have hl7_60 := (Kd.R_reads' HO_7.out).1
              rw [hl7_60] at HO_7
              (try simp only [hl7_60])
              (try simp only [hl7_60] at BK381)
              (try simp only [hl7_60] at BK399)
              (try simp only [hl7_60] at HO_400001)
              cases kq with
              | zero => exact absurd HA.out (by simp [laws_FnExactTurnsOfPiece.j2])
              | succ kj60 =>
               have H := HA.out
               clear HA
               simp only [laws_FnExactTurnsOfPiece.j2] at H
               by_cases c75 : x87_60 = true
               · subst c75
                 have H1 : (some false) = some r := by rw [if_pos rfl] at H; exact H
                 clear H
                 have H := H1
                 clear H1
                 obtain rfl := Option.some.inj H
                 go_wp2
                 go_ret
                 exact ⟨by first | rfl | (simp [errW_none, errW_some] <;> rfl) | (simp [*, errW_none, errW_some] <;> rfl), by repeat (first | (with_reducible first | exact HB.out | apply below_alloc | apply pw_below_drewN | apply below_drew1 | refine below_set ?_ GE381.out | refine below_set ?_ GE399.out) | exact HB.out)⟩
               · replace c75 := Bool.eq_false_iff.mpr c75
                 subst c75
                 have H1 : ((laws_heldInt64S.f kj60 t416 1).bind fun t429 => (if t429 < 0 then (some false) else (if t429 = t415 then (some true) else (some false)))) = some r := by rw [if_neg (show ¬ (false = true) by decide)] at H; exact H
                 clear H
                 have H := H1
                 clear H1
                 replace H := Option.bind_eq_some_iff.mp H
                 obtain ⟨t429, A760, H⟩ := H
                 replace H : (if t429 < 0 then (some false) else (if t429 = t415 then (some true) else (some false))) = some r := H
                 have A76 := mkA A760
                 clear A760
                 by_cases c77 : t429 < 0
                 · rw [if_pos c77] at H
                   have c77b0 : decide (t429 < 0) = true := decide_eq_true c77
                   clear c77
                   obtain rfl := Option.some.inj H
                   go_wp2_with (first | ((with_reducible refine gate_callee (f := 41) rfl ?_); refine goesL_ (some 90) rfl rfl Try.func41 (by kernel_rfl) rfl #[.slice Ao62 t416.length co62, .int .i64 1] rfl (by (try simp only [List.map_toArray, List.map_cons, List.map_nil]); first | done | rfl | (simp only [List.length_drop, List.length_take]; rfl)) ?_; (with_reducible refine (laws_heldInt64S.calls kj60 _ _ t416 1 t429 _ ?side1 ?side2 A76.out).mono ?_); (case side1 => repeat (first | exact (Kd.R_reads' HO_7.out).2.2 | (with_reducible refine Kd.C_alloc ?_ _) | (with_reducible refine Kd.C_drewN ?_ _) | (with_reducible refine Kd.C_drew ?_))); (case side2 => exact (Kd.R_reads' HO_7.out).2.1); rintro e w' ⟨rfl, ⟨nd, rfl⟩⟩; refine ⟨_, rfl, ?_⟩))
                   go_ret
                   exact ⟨by first | rfl | (simp [errW_none, errW_some] <;> rfl) | (simp [*, errW_none, errW_some] <;> rfl), by repeat (first | (with_reducible first | exact HB.out | apply below_alloc | apply pw_below_drewN | apply below_drew1 | refine below_set ?_ GE381.out | refine below_set ?_ GE399.out) | exact HB.out)⟩
                 · rw [if_neg c77] at H
                   have c77b0 : decide (t429 < 0) = false := decide_eq_false c77
                   clear c77
                   by_cases c78 : t429 = t415
                   rotate_left
                   · rw [if_neg c78] at H
                     have c78b0 : (t429 == t415) = false := beq_eq_false_iff_ne.mpr c78
                     have c78b1 : (t429 != t415) = true := bne_iff_ne.mpr c78
                     obtain rfl := Option.some.inj H
                     go_wp2_with (first | ((with_reducible refine gate_callee (f := 41) rfl ?_); refine goesL_ (some 90) rfl rfl Try.func41 (by kernel_rfl) rfl #[.slice Ao62 t416.length co62, .int .i64 1] rfl (by (try simp only [List.map_toArray, List.map_cons, List.map_nil]); first | done | rfl | (simp only [List.length_drop, List.length_take]; rfl)) ?_; (with_reducible refine (laws_heldInt64S.calls kj60 _ _ t416 1 t429 _ ?side1 ?side2 A76.out).mono ?_); (case side1 => repeat (first | exact (Kd.R_reads' HO_7.out).2.2 | (with_reducible refine Kd.C_alloc ?_ _) | (with_reducible refine Kd.C_drewN ?_ _) | (with_reducible refine Kd.C_drew ?_))); (case side2 => exact (Kd.R_reads' HO_7.out).2.1); rintro e w' ⟨rfl, ⟨nd, rfl⟩⟩; refine ⟨_, rfl, ?_⟩))
                     go_ret
                     exact ⟨by first | rfl | (simp [errW_none, errW_some] <;> rfl) | (simp [*, errW_none, errW_some] <;> rfl), by repeat (first | (with_reducible first | exact HB.out | apply below_alloc | apply pw_below_drewN | apply below_drew1 | refine below_set ?_ GE381.out | refine below_set ?_ GE399.out) | exact HB.out)⟩
                   rw [if_pos c78] at H
                   have c78b0 : (t429 == t415) = true := beq_iff_eq.mpr c78
                   have c78b1 : (t429 != t415) = false := bne_eq_false_iff_eq.mpr c78
                   clear c78
                   obtain rfl := Option.some.inj H
                   go_wp2_with (first | ((with_reducible refine gate_callee (f := 41) rfl ?_); refine goesL_ (some 90) rfl rfl Try.func41 (by kernel_rfl) rfl #[.slice Ao62 t416.length co62, .int .i64 1] rfl (by (try simp only [List.map_toArray, List.map_cons, List.map_nil]); first | done | rfl | (simp only [List.length_drop, List.length_take]; rfl)) ?_; (with_reducible refine (laws_heldInt64S.calls kj60 _ _ t416 1 t429 _ ?side1 ?side2 A76.out).mono ?_); (case side1 => repeat (first | exact (Kd.R_reads' HO_7.out).2.2 | (with_reducible refine Kd.C_alloc ?_ _) | (with_reducible refine Kd.C_drewN ?_ _) | (with_reducible refine Kd.C_drew ?_))); (case side2 => exact (Kd.R_reads' HO_7.out).2.1); rintro e w' ⟨rfl, ⟨nd, rfl⟩⟩; refine ⟨_, rfl, ?_⟩))
                   go_ret
                   exact ⟨by first | rfl | (simp [errW_none, errW_some] <;> rfl) | (simp [*, errW_none, errW_some] <;> rfl), by repeat (first | (with_reducible first | exact HB.out | apply below_alloc | apply pw_below_drewN | apply below_drew1 | refine below_set ?_ GE381.out | refine below_set ?_ GE399.out) | exact HB.out)⟩
def G123 (x : S123) : Prop := (Lit.int .i64 x.f0).wf = true ∧ (Lit.int .i64 x.f1).wf = true
def G47 (x : S47) : Prop := x.f0.size ≤ maxLen ∧ (x.f1.length ≤ maxLen ∧ ∀ y0 ∈ x.f1, G123 y0) ∧ (Lit.int .i64 x.f2).wf = true ∧ True

/-- THE ONE PURE STATEMENT of laws_FnExactTurnsOfPiece. -/
def laws_FnExactTurnsOfPiece.Pure : Prop := ∀ (a0_0 : ByteArray) (l0_1 : List (S123)) (a0_2 : Int) (a0_3 : Bool), G47 (⟨a0_0, l0_1, a0_2, a0_3⟩ : S47) → ∃ k, laws_FnExactTurnsOfPiece.f k a0_0 l0_1 a0_2 a0_3 = some true

end Go.Proofs.Ytakagkflgkoiiaa.GFnExactTurnsOfPiece

-- Written by the session's own program (gen.py) out of the translation's print. Lean checks it.
import Derived.Test.YtdmiihpblfkamaaDoorRows
import Derived.Test.YtdmiihpblfkamaaDoorGFnExactSeasonRangex4
import Derived.Test.YtdmiihpblfkamaaDoorPureFnExactSeasonRange
import Derived.Test.YtdmiihpblfkamaaDoorXOpen
import Derived.WalkKit
import Derived.ProofKit
import Derived.OpenShut
import Derived.ShutString
import Derived.ChangeOld
import Derived.Below
import Derived.SizedLaws
import Derived.Test.YtdmiihpblfkamaaDoorCards
import Derived.Test.YtdmiihpblfkamaaDoorTie
import Derived.Test.YtdmiihpblfkamaaDoorMoist
import Derived.LaidMore
import Derived.Stop.Joined
import Derived.SevenTiedAt
namespace Go.Proofs.YtdmiihpblfkamaaDoor.fnExactSeasonRange
open Go.ChangeShapes Go.WideShapes Go.ChangeAt Go.RowKit Go.Proofs.YtdmiihpblfkamaaDoorX Go.Proofs.YtdmiihpblfkamaaDoor.GFnExactSeasonRange
open Go.Proofs.YtdmiihpblfkamaaDoorW.PrintWords
open Go.ChangeMaps (open_string shut_string)
set_option linter.unusedVariables false
theorem own : ownKnob Tryd.prog.godebug = none := by kernel_rfl
theorem laidOut : laidOutB Tryd.prog = true := by kernel_rfl
set_option maxRecDepth 100000 in
theorem lifted (os : Os) (started : os.Started) (H : Type) (enc : TypeId × Value → H) :
    ReturnsInHanded {} Tryd.checked os 5 .any (fun w args => (Rows.fnExactSeasonRangeSpec.pre enc Tryd.prog Tryd.f5 Rows.fnExactSeasonRangeRow.domain false w args ∧ laidMetH Tryd.prog Moist.laidM w) ∧ sizedMet enc Tryd.prog Tryd.f5 (OpenSpec.ofChange Rows.fnExactSeasonRangeSpec) false w args) (Rows.fnExactSeasonRangeSpec.post enc Tryd.prog Tryd.f5 false true false false) := by
  refine returnsInHanded_of_change_and (C := Tryd.checked) (X := fun w _ => laidMetH Tryd.prog Moist.laidM w) (fun _ _ _ hh h => h.of_heap hh) own started (by kernel_rfl) Tryd.func5
    (ChangeSpec.witness_shaped (enc := enc) (C := Tryd.checked) (os := os) (X := fun w _ => laidMetH Tryd.prog Moist.laidM w) false (World.doorLaid Tryd.prog 400 os) #[.slice none 0 0] 8 rfl (World.shaped_of_RefB (by kernel_rfl) (by kernel_rfl)) (by kernel_rfl) (by kernel_rfl) (by kernel_rfl) (Moist.door_met os _)) ?_
  intro W base args ds gs before hval0 hW _ hsz0 hL _
  have hval : ∀ (j : Nat) t v, Tryd.f5.params[j]? = some t → args[j]? = some v → Value.okWide Tryd.prog W .any base t v := hval0
  have hW' := hW
  obtain ⟨p, q, hA0, hV, rfl, hfz, hnd⟩ := hW
  have hA : DataW.TrodAll enc Tryd.prog W 0 (fun _ => true) true Tryd.f5.params.toList args.toList ds p := hA0
  rw [Tryd.params5] at hA hval
  obtain ⟨v0, vs0, d0, ds0, p0, q0, hargs, rfl, rfl, h0, r0⟩ := trodAll_cons hA
  obtain ⟨rfl, rfl, rfl⟩ := trodAll_nil r0
  obtain rfl : args = #[v0] := by cases args; simp_all
  obtain ⟨b0, len0, cap0, rfl⟩ := okWide_slice Tryd.underlying25 (hval 0 25 v0 rfl rfl)
  have k0 := h0
  have lt0 : ∀ x ∈ p0, x.block < W.heap.size := by obtain ⟨m, hm⟩ := k0; exact DataW.trod_lt m _ _ _ hm
  obtain ⟨m0, hf0⟩ := h0
  obtain ⟨x0, hK0, hG0⟩ := (op_slice Tryd.underlying25 (by kernel_rfl) (op_int Tryd.underlying2)) _ _ _ _ _ _ _ hf0
  obtain ⟨A0, c0, e0, hl0, hC0⟩ := hK0
  obtain ⟨rfl, rfl, rfl⟩ : b0 = A0 ∧ len0 = x0.length ∧ cap0 = c0 := by
    have e_ : Value.slice b0 len0 cap0 = Value.slice A0 x0.length c0 := (List.cons.inj e0).1
    injection e_ with e1_ e2_ e3_
    exact ⟨e1_, e2_, e3_⟩
  clear hA0 hval0 hsz0
  obtain ⟨k, h⟩ := Pure.FnExactSeasonRange x0 hG0
  refine (laws_FnExactSeasonRange.calls k _ _ x0 ([0, 0, 30, 60, 50, 90, 65, 120, 80, 160, 100, 280] : List Int) true W hC0 hl0 (Moist.of_laid hL) h).mono ?_
  rintro e W' ⟨he, bel0⟩
  have bel : Below W.heap.size W W' := bel0
  subst he
  obtain ⟨dg, pv, rfl, hV2⟩ := Moist.vars_after bel hV
  exact ⟨_, rfl, _, _, _, [], _, pv, hW', trodAll_mk1 (shut_bool Tryd.underlying4 _), (trodAll_cons_mk (Below.trod laidOut (by kernel_rfl) (of_decide_eq_true (by kernel_rfl)) k0 bel lt0) trodAll_mk0), hV2, bel.frame _, fun h => by cases h⟩
theorem over : Rows.fnExactSeasonRangeRow.holds Tryd.pinned (OpenSpec.ofChange Rows.fnExactSeasonRangeSpec) :=
  OpenClaim.holds_of_wide 5 Tryd.f5 rfl rfl rfl rfl rfl rfl rfl ⟨rfl, rfl, rfl, rfl, rfl⟩ rfl rfl rfl rfl rfl (by kernel_rfl) Tryd.func5 (by kernel_rfl)
    (of_decide_eq_true (by kernel_rfl)) (by unfold Func.isWrapper; first | (rw [if_pos (by decide +kernel)]; kernel_rfl) | (rw [if_neg (by decide +kernel)]; exact ⟨rfl, rfl⟩))
    (fun os started H enc _ => lifted os started H enc)
theorem proved : Rows.FnExactSeasonRangeSaid := over
#print axioms proved
theorem card : Rows.FnExactSeasonRangeCardSaid :=
  Claim7.holds_tied_plain_at .later [] [.data] true Rows.fnExactSeasonRangeCard.stood.harness false
    over (fun _ h => by cases h) (by kernel_rfl) (fun _ h => by cases h) fnExactSeasonRange_row_tie rfl ⟨rfl, rfl⟩ (by kernel_rfl) rfl
    (fun f fn hf hfn => by
      obtain rfl : f = 5 := Option.some.inj ((show Tryd.prog.funcNamed "loop.example/g00956/laws.FnExactSeasonRange" = some 5 by kernel_rfl).symm.trans hf) |>.symm
      obtain rfl : fn = Tryd.f5 := (Option.some.inj (Tryd.func5.symm.trans hfn)).symm
      exact ⟨by kernel_rfl, fun j t ht => by
        rw [Tryd.params5] at ht
        have hm : t ∈ [25] := by simpa using Array.mem_of_getElem? ht
        have hall : ([25].all fun u => !Tryd.prog.wantsStandIn u) = true := by kernel_rfl
        exact (show Tryd.prog.wantsStandIn t = false by simpa using List.all_eq_true.1 hall t hm)⟩)
    (by kernel_rfl)
#print axioms card
end Go.Proofs.YtdmiihpblfkamaaDoor.fnExactSeasonRange
namespace Go.Proofs.YtdmiihpblfkamaaDoor
/-- The row, under a short name, for the claim. -/
theorem fnExactSeasonRange_holds : Rows.FnExactSeasonRangeSaid := fnExactSeasonRange.proved
theorem fnExactSeasonRange_card : Rows.FnExactSeasonRangeCardSaid := fnExactSeasonRange.card
end Go.Proofs.YtdmiihpblfkamaaDoor

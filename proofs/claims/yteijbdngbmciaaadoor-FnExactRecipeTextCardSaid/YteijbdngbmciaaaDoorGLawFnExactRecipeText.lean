-- Written by the session's own program (gen.py) out of the translation's print. Lean checks it.
import Derived.Test.YteijbdngbmciaaaDoorRows
import Derived.Test.YteijbdngbmciaaaDoorGFnExactRecipeTextx6
import Derived.Test.YteijbdngbmciaaaDoorPureFnExactRecipeText
import Derived.Test.YteijbdngbmciaaaDoorXOpen
import Derived.WalkKit
import Derived.ProofKit
import Derived.OpenShut
import Derived.ShutString
import Derived.ChangeOld
import Derived.Below
import Derived.SizedLaws
import Derived.Test.YteijbdngbmciaaaDoorCards
import Derived.Test.YteijbdngbmciaaaDoorTie
import Derived.Test.YteijbdngbmciaaaDoorMoist
import Derived.LaidMore
import Derived.Stop.Joined
import Derived.SevenTiedAt
import Derived.Lay
namespace Go.Proofs.YteijbdngbmciaaaDoor.fnExactRecipeText
open Go.ChangeShapes Go.WideShapes Go.ChangeAt Go.RowKit Go.Proofs.YteijbdngbmciaaaDoorX Go.Proofs.YteijbdngbmciaaaDoor.GFnExactRecipeText
open Go.Proofs.YteijbdngbmciaaaDoorW.PrintWords
open Go.ChangeMaps (open_string shut_string)
set_option linter.unusedVariables false
theorem own : ownKnob Tryd.prog.godebug = none := by kernel_rfl
theorem laidOut : laidOutB Tryd.prog = true := by kernel_rfl
set_option maxRecDepth 100000 in
theorem op61 : OpK Tryd.prog 61 k61 G61 :=
  op_struct (fun x : S61 => (x.f0, x.f1, x.f2)) (fun v => ⟨v.1, v.2.1, v.2.2⟩) (fun _ => rfl) Tryd.underlying61 (by kernel_rfl) (opT_cons (off := 0) (off2 := 1) rfl (by kernel_rfl) rfl (op_int Tryd.underlying2) (opT_cons (off := 1) (off2 := 2) rfl (by kernel_rfl) rfl (op_int Tryd.underlying2) (opT_one (off := 2) rfl (by kernel_rfl) (op_int Tryd.underlying2))))
set_option maxRecDepth 100000 in
theorem op24 : OpK Tryd.prog 24 k24 G24 :=
  op_struct (fun x : S24 => (x.f0, x.f1)) (fun v => ⟨v.1, v.2⟩) (fun _ => rfl) Tryd.underlying24 (by kernel_rfl) (opT_cons (off := 0) (off2 := 1) rfl (by kernel_rfl) rfl (op_string Tryd.underlying9) (opT_one (off := 1) rfl (by kernel_rfl) (op_slice Tryd.underlying22 (by kernel_rfl) op61)))
set_option maxRecDepth 100000 in
theorem lifted (os : Os) (started : os.Started) (H : Type) (enc : TypeId × Value → H) :
    ReturnsInHanded {} Tryd.checked os 3 .any (fun w args => (Rows.fnExactRecipeTextSpec.pre enc Tryd.prog Tryd.f3 Rows.fnExactRecipeTextRow.domain false w args ∧ laidMetH Tryd.prog Rows.fnExactRecipeTextRow.laid w) ∧ sizedMet enc Tryd.prog Tryd.f3 (OpenSpec.ofChange Rows.fnExactRecipeTextSpec) false w args) (Rows.fnExactRecipeTextSpec.post enc Tryd.prog Tryd.f3 false true false false) := by
  refine Moist.returns_shaped (C := Tryd.checked) (X := fun w _ => laidMetH Tryd.prog Rows.fnExactRecipeTextRow.laid w) (fun _ _ _ hh h => h.of_heap hh) own started (by kernel_rfl) Tryd.func3
    (ChangeSpec.witness_shaped (enc := enc) (C := Tryd.checked) (os := os) (X := fun w _ => laidMetH Tryd.prog Rows.fnExactRecipeTextRow.laid w) false (World.laidAll Tryd.prog os Rows.fnExactRecipeTextRow.laid) #[.agg #[(.string ⟨#[]⟩), (.slice none 0 0)]] 8 (World.laidAll_os _ _ _) (World.shaped_of_ZipB (by kernel_rfl) (by kernel_rfl)) (by kernel_rfl) (by kernel_rfl) (by kernel_rfl) (by rw [MakeChecks.laidMetH_plain _ _ _ (by kernel_rfl)]; exact laidMet_laidAll _ (by kernel_rfl) (by kernel_rfl))) ?_
  intro W base args ds gs before hval0 hW _ hsz0 hL hSh _
  have hval : ∀ (j : Nat) t v, Tryd.f3.params[j]? = some t → args[j]? = some v → Value.okWide Tryd.prog W .any base t v := hval0
  have hW' := hW
  obtain ⟨p, q, hA0, hV, rfl, hfz, hnd⟩ := hW
  obtain ⟨rfl, rfl⟩ := trodVars_none hV
  have hA : DataW.TrodAll enc Tryd.prog W 0 (fun _ => true) true Tryd.f3.params.toList args.toList ds p := hA0
  rw [Tryd.params3] at hA hval
  obtain ⟨v0, vs0, d0, ds0, p0, q0, hargs, rfl, rfl, h0, r0⟩ := trodAll_cons hA
  obtain ⟨rfl, rfl, rfl⟩ := trodAll_nil r0
  obtain rfl : args = #[v0] := by cases args; simp_all
  obtain ⟨cs0, rfl, hn0⟩ := okWide_struct Tryd.underlying24 (hval 0 24 v0 rfl rfl)
  have k0 := h0
  have lt0 : ∀ x ∈ p0, x.block < W.heap.size := by obtain ⟨m, hm⟩ := k0; exact DataW.trod_lt m _ _ _ hm
  obtain ⟨m0, hf0⟩ := h0
  obtain ⟨x0, hK0, hG0⟩ := op24 _ _ _ _ _ _ _ hf0
  obtain ⟨A0_1, c0_1, e0, hl0_1, hC0_1⟩ := k24_open hK0
  obtain rfl : cs0 = #[.string x0.f0, .slice A0_1 x0.f1.length c0_1] := Array.ext' e0
  clear hA0 hval0 hsz0
  obtain ⟨k, h⟩ := Pure.FnExactRecipeText x0.f0 x0.f1 hG0
  refine (laws_FnExactRecipeText.calls k x0.f0 _ _ x0.f1 ([()] : List Unit) true W hC0_1 hl0_1 (Moist.of_laid (Moist.tab_of hL (by kernel_rfl)) hSh) h).mono ?_
  rintro e W' ⟨he, bel0⟩
  have bel : Below W.heap.size W W' := bel0
  subst he
  exact ⟨_, rfl, _, _, _, [], _, [], hW', trodAll_mk1 (shut_bool Tryd.underlying4 _), (trodAll_cons_mk (Below.trod laidOut (by kernel_rfl) (of_decide_eq_true (by kernel_rfl)) k0 bel lt0) trodAll_mk0), rfl, bel.frame _, fun h => by cases h⟩
theorem over : Rows.fnExactRecipeTextRow.holds Tryd.pinned (OpenSpec.ofChange Rows.fnExactRecipeTextSpec) :=
  OpenClaim.holds_of_wide 3 Tryd.f3 rfl rfl rfl rfl rfl rfl rfl ⟨rfl, rfl, rfl, rfl, rfl⟩ rfl rfl rfl rfl rfl (by kernel_rfl) Tryd.func3 (by kernel_rfl)
    (of_decide_eq_true (by kernel_rfl)) (by unfold Func.isWrapper; first | (rw [if_pos (by decide +kernel)]; kernel_rfl) | (rw [if_neg (by decide +kernel)]; exact ⟨rfl, rfl⟩))
    (fun os started H enc _ => lifted os started H enc)
theorem proved : Rows.FnExactRecipeTextSaid := over
#print axioms proved
theorem card : Rows.FnExactRecipeTextCardSaid :=
  Claim7.holds_tied_plain_at .later [] [.data, .data, .data] true Rows.fnExactRecipeTextCard.stood.harness false
    over (fun _ h => by cases h) (by kernel_rfl) (fun _ h => by cases h) fnExactRecipeText_row_tie rfl ⟨rfl, rfl⟩ (by kernel_rfl) rfl
    (fun f fn hf hfn => by
      obtain rfl : f = 3 := Option.some.inj ((show Tryd.prog.funcNamed "loop.example/g00956/laws.FnExactRecipeText" = some 3 by kernel_rfl).symm.trans hf) |>.symm
      obtain rfl : fn = Tryd.f3 := (Option.some.inj (Tryd.func3.symm.trans hfn)).symm
      exact ⟨by kernel_rfl, fun j t ht => by
        rw [Tryd.params3] at ht
        have hm : t ∈ [24] := by simpa using Array.mem_of_getElem? ht
        have hall : ([24].all fun u => !Tryd.prog.wantsStandIn u) = true := by kernel_rfl
        exact (show Tryd.prog.wantsStandIn t = false by simpa using List.all_eq_true.1 hall t hm)⟩)
    (by kernel_rfl)
#print axioms card
end Go.Proofs.YteijbdngbmciaaaDoor.fnExactRecipeText
namespace Go.Proofs.YteijbdngbmciaaaDoor
/-- The row, under a short name, for the claim. -/
theorem fnExactRecipeText_holds : Rows.FnExactRecipeTextSaid := fnExactRecipeText.proved
theorem fnExactRecipeText_card : Rows.FnExactRecipeTextCardSaid := fnExactRecipeText.card
end Go.Proofs.YteijbdngbmciaaaDoor

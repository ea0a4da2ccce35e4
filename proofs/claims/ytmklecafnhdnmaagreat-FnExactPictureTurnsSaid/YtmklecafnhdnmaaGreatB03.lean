/- Functions; no condition. -/
import Derived.Test.YtmklecafnhdnmaaGreatB02
import Derived.KernelRfl
set_option linter.all false
/- The functions' rows of the table: what the evaluator makes of their code is their pure function. -/
namespace Go.Proofs.YtmklecafnhdnmaaGreatV
open Go Go.RowKit Go.Proofs
set_option linter.unusedVariables false
noncomputable def b28 : Code := Tryz.f28.body.getD .skip
noncomputable def T28 (k : Nat) : Tab := { TB (K0 k) with loop := lookL [], join := (fun _ => []), np := false }
theorem e28 (k : Nat) (x : HT I28.cs) : laws_szPointS k x = I28.body (T28 k) Tryz.f28 b28 x := by kernel_rfl
noncomputable def K1 (k : Nat) : List (Nat × CallI) := (28, ⟨I28, laws_szPointS k⟩) :: K0 k
theorem c28 (k : Nat) (h : TabFn Tryz.prog (TB (K0 k))) : CallOK Tryz.prog 28 (I28.call (laws_szPointS k)) := fun_ok (T := T28 k) (ls := []) mixed (tab_with h _ _ _) I28 (laws_szPointS k) Tryz.func28 (by kernel_rfl : Tryz.f28.body = some b28) (by kernel_rfl) (by decide) rfl (by kernel_rfl) trivial (e28 k) (fun h => Bool.noConfusion h)
theorem t28 (k : Nat) (h : TabFn Tryz.prog (TB (K0 k))) : TabFn Tryz.prog (TB (K1 k)) := tc_cons h (by kernel_rfl) (c28 k h) (enter_of Tryz.func28 (by kernel_rfl) (by kernel_rfl))
noncomputable def b84 : Code := Tryz.f84.body.getD .skip
noncomputable def T84 (k : Nat) : Tab := { TB (K1 k) with loop := lookL [], join := (fun _ => []), np := false }
theorem e84 (k : Nat) (x : HT I84.cs) : laws_szInt64S k x = I84.body (T84 k) Tryz.f84 b84 x := by kernel_rfl
noncomputable def K2 (k : Nat) : List (Nat × CallI) := (84, ⟨I84, laws_szInt64S k⟩) :: K1 k
theorem c84 (k : Nat) (h : TabFn Tryz.prog (TB (K1 k))) : CallOK Tryz.prog 84 (I84.call (laws_szInt64S k)) := fun_ok (T := T84 k) (ls := []) mixed (tab_with h _ _ _) I84 (laws_szInt64S k) Tryz.func84 (by kernel_rfl : Tryz.f84.body = some b84) (by kernel_rfl) (by decide) rfl (by kernel_rfl) trivial (e84 k) (fun h => Bool.noConfusion h)
theorem t84 (k : Nat) (h : TabFn Tryz.prog (TB (K1 k))) : TabFn Tryz.prog (TB (K2 k)) := tc_cons h (by kernel_rfl) (c84 k h) (enter_of Tryz.func84 (by kernel_rfl) (by kernel_rfl))
noncomputable def b59 : Code := Tryz.f59.body.getD .skip
noncomputable def T59 (k : Nat) : Tab := { TB (K2 k) with loop := lookL [], join := (fun _ => []), np := false }
theorem e59 (k : Nat) (x : HT I59.cs) : laws_szFace k x = I59.body (T59 k) Tryz.f59 b59 x := by kernel_rfl
noncomputable def K3 (k : Nat) : List (Nat × CallI) := (59, ⟨I59, laws_szFace k⟩) :: K2 k
theorem c59 (k : Nat) (h : TabFn Tryz.prog (TB (K2 k))) : CallOK Tryz.prog 59 (I59.call (laws_szFace k)) := fun_ok (T := T59 k) (ls := []) mixed (tab_with h _ _ _) I59 (laws_szFace k) Tryz.func59 (by kernel_rfl : Tryz.f59.body = some b59) (by kernel_rfl) (by decide) rfl (by kernel_rfl) trivial (e59 k) (fun h => Bool.noConfusion h)
theorem t59 (k : Nat) (h : TabFn Tryz.prog (TB (K2 k))) : TabFn Tryz.prog (TB (K3 k)) := tc_cons h (by kernel_rfl) (c59 k h) (enter_of Tryz.func59 (by kernel_rfl) (by kernel_rfl))
noncomputable def b29 : Code := Tryz.f29.body.getD .skip
noncomputable def T29 (k : Nat) : Tab := { TB (K3 k) with loop := lookL (L29 k), join := (fun _ => []), np := false }
theorem l29_5 (k n : Nat) (x : HT [.sl (.pair .str (.sl (.int .i64))), .int .i64, .int .i64]) : laws_szFaceS_5 k (n + 1) x = ev (T29 k) (findB (bodies b29) 5) (SF29_5.mk' [.sl (.pair .str (.sl (.int .i64))), .int .i64, .int .i64] x) (outB 0 SG29_5 [.int .i64] SH29_5 [.int .i64] SF29_5 [.sl (.pair .str (.sl (.int .i64))), .int .i64, .int .i64] (laws_szFaceS_5 k n)) := by kernel_rfl
theorem e29 (k : Nat) (x : HT I29.cs) : laws_szFaceS k x = I29.body (T29 k) Tryz.f29 b29 x := by kernel_rfl
noncomputable def K4 (k : Nat) : List (Nat × CallI) := (29, ⟨I29, laws_szFaceS k⟩) :: K3 k
theorem c29 (k : Nat) (h : TabFn Tryz.prog (TB (K3 k))) : CallOK Tryz.prog 29 (I29.call (laws_szFaceS k)) := fun_ok (T := T29 k) (ls := (L29 k)) mixed (tab_with h _ _ _) I29 (laws_szFaceS k) Tryz.func29 (by kernel_rfl : Tryz.f29.body = some b29) (by kernel_rfl) (by decide) rfl (by kernel_rfl) ⟨rowB (f := SF29_5) (g := SG29_5) (h := SH29_5) (cs := [.sl (.pair .str (.sl (.int .i64))), .int .i64, .int .i64]) (co := [.int .i64]) (cr := [.int .i64]) (e := 0) k (laws_szFaceS_5 k) ⟨by decide, by decide, by decide⟩ (fun _ => rfl) (l29_5 k), trivial⟩ (e29 k) (fun h => Bool.noConfusion h)
theorem t29 (k : Nat) (h : TabFn Tryz.prog (TB (K3 k))) : TabFn Tryz.prog (TB (K4 k)) := tc_cons h (by kernel_rfl) (c29 k h) (enter_of Tryz.func29 (by kernel_rfl) (by kernel_rfl))
noncomputable def b13 : Code := Tryz.f13.body.getD .skip
noncomputable def T13 (k : Nat) : Tab := { TB (K4 k) with loop := lookL [], join := (fun _ => []), np := false }
theorem e13 (k : Nat) (x : HT I13.cs) : laws_szDrawing k x = I13.body (T13 k) Tryz.f13 b13 x := by kernel_rfl
noncomputable def K5 (k : Nat) : List (Nat × CallI) := (13, ⟨I13, laws_szDrawing k⟩) :: K4 k
theorem c13 (k : Nat) (h : TabFn Tryz.prog (TB (K4 k))) : CallOK Tryz.prog 13 (I13.call (laws_szDrawing k)) := fun_ok (T := T13 k) (ls := []) mixed (tab_with h _ _ _) I13 (laws_szDrawing k) Tryz.func13 (by kernel_rfl : Tryz.f13.body = some b13) (by kernel_rfl) (by decide) rfl (by kernel_rfl) trivial (e13 k) (fun h => Bool.noConfusion h)
theorem t13 (k : Nat) (h : TabFn Tryz.prog (TB (K4 k))) : TabFn Tryz.prog (TB (K5 k)) := tc_cons h (by kernel_rfl) (c13 k h) (enter_of Tryz.func13 (by kernel_rfl) (by kernel_rfl))
noncomputable def b30 : Code := Tryz.f30.body.getD .skip
noncomputable def T30 (k : Nat) : Tab := { TB (K5 k) with loop := lookL [], join := (fun _ => []), np := false }
theorem e30 (k : Nat) (x : HT I30.cs) : laws_szVeneer k x = I30.body (T30 k) Tryz.f30 b30 x := by kernel_rfl
noncomputable def K6 (k : Nat) : List (Nat × CallI) := (30, ⟨I30, laws_szVeneer k⟩) :: K5 k
theorem c30 (k : Nat) (h : TabFn Tryz.prog (TB (K5 k))) : CallOK Tryz.prog 30 (I30.call (laws_szVeneer k)) := fun_ok (T := T30 k) (ls := []) mixed (tab_with h _ _ _) I30 (laws_szVeneer k) Tryz.func30 (by kernel_rfl : Tryz.f30.body = some b30) (by kernel_rfl) (by decide) rfl (by kernel_rfl) trivial (e30 k) (fun h => Bool.noConfusion h)
theorem t30 (k : Nat) (h : TabFn Tryz.prog (TB (K5 k))) : TabFn Tryz.prog (TB (K6 k)) := tc_cons h (by kernel_rfl) (c30 k h) (enter_of Tryz.func30 (by kernel_rfl) (by kernel_rfl))
noncomputable def b14 : Code := Tryz.f14.body.getD .skip
noncomputable def T14 (k : Nat) : Tab := { TB (K6 k) with loop := lookL (L14 k), join := (fun _ => []), np := false }
theorem l14_5 (k n : Nat) (x : HT [.sl (.pair .str (.pair (.int .i64) (.int .i64))), .int .i64, .int .i64]) : laws_szVeneerS_5 k (n + 1) x = ev (T14 k) (findB (bodies b14) 5) (SF14_5.mk' [.sl (.pair .str (.pair (.int .i64) (.int .i64))), .int .i64, .int .i64] x) (outB 0 SG14_5 [.int .i64] SH14_5 [.int .i64] SF14_5 [.sl (.pair .str (.pair (.int .i64) (.int .i64))), .int .i64, .int .i64] (laws_szVeneerS_5 k n)) := by kernel_rfl
theorem e14 (k : Nat) (x : HT I14.cs) : laws_szVeneerS k x = I14.body (T14 k) Tryz.f14 b14 x := by kernel_rfl
noncomputable def K7 (k : Nat) : List (Nat × CallI) := (14, ⟨I14, laws_szVeneerS k⟩) :: K6 k
theorem c14 (k : Nat) (h : TabFn Tryz.prog (TB (K6 k))) : CallOK Tryz.prog 14 (I14.call (laws_szVeneerS k)) := fun_ok (T := T14 k) (ls := (L14 k)) mixed (tab_with h _ _ _) I14 (laws_szVeneerS k) Tryz.func14 (by kernel_rfl : Tryz.f14.body = some b14) (by kernel_rfl) (by decide) rfl (by kernel_rfl) ⟨rowB (f := SF14_5) (g := SG14_5) (h := SH14_5) (cs := [.sl (.pair .str (.pair (.int .i64) (.int .i64))), .int .i64, .int .i64]) (co := [.int .i64]) (cr := [.int .i64]) (e := 0) k (laws_szVeneerS_5 k) ⟨by decide, by decide, by decide⟩ (fun _ => rfl) (l14_5 k), trivial⟩ (e14 k) (fun h => Bool.noConfusion h)
theorem t14 (k : Nat) (h : TabFn Tryz.prog (TB (K6 k))) : TabFn Tryz.prog (TB (K7 k)) := tc_cons h (by kernel_rfl) (c14 k h) (enter_of Tryz.func14 (by kernel_rfl) (by kernel_rfl))
noncomputable def b4 : Code := Tryz.f4.body.getD .skip
noncomputable def T4 (k : Nat) : Tab := { TB (K7 k) with loop := lookL [], join := (fun _ => []), np := false }
theorem e4 (k : Nat) (x : HT I4.cs) : laws_szPicture k x = I4.body (T4 k) Tryz.f4 b4 x := by kernel_rfl
noncomputable def K8 (k : Nat) : List (Nat × CallI) := (4, ⟨I4, laws_szPicture k⟩) :: K7 k
theorem c4 (k : Nat) (h : TabFn Tryz.prog (TB (K7 k))) : CallOK Tryz.prog 4 (I4.call (laws_szPicture k)) := fun_ok (T := T4 k) (ls := []) mixed (tab_with h _ _ _) I4 (laws_szPicture k) Tryz.func4 (by kernel_rfl : Tryz.f4.body = some b4) (by kernel_rfl) (by decide) rfl (by kernel_rfl) trivial (e4 k) (fun h => Bool.noConfusion h)
theorem t4 (k : Nat) (h : TabFn Tryz.prog (TB (K7 k))) : TabFn Tryz.prog (TB (K8 k)) := tc_cons h (by kernel_rfl) (c4 k h) (enter_of Tryz.func4 (by kernel_rfl) (by kernel_rfl))
noncomputable def b60 : Code := Tryz.f60.body.getD .skip
noncomputable def T60 (k : Nat) : Tab := { TB (K8 k) with loop := lookL [], join := (fun _ => []), np := false }
theorem e60 (k : Nat) (x : HT I60.cs) : spec_l00In k x = I60.body (T60 k) Tryz.f60 b60 x := by kernel_rfl
noncomputable def K9 (k : Nat) : List (Nat × CallI) := (60, ⟨I60, spec_l00In k⟩) :: K8 k
theorem c60 (k : Nat) (h : TabFn Tryz.prog (TB (K8 k))) : CallOK Tryz.prog 60 (I60.call (spec_l00In k)) := fun_ok (T := T60 k) (ls := []) mixed (tab_with h _ _ _) I60 (spec_l00In k) Tryz.func60 (by kernel_rfl : Tryz.f60.body = some b60) (by kernel_rfl) (by decide) rfl (by kernel_rfl) trivial (e60 k) (fun h => Bool.noConfusion h)
theorem t60 (k : Nat) (h : TabFn Tryz.prog (TB (K8 k))) : TabFn Tryz.prog (TB (K9 k)) := tc_cons h (by kernel_rfl) (c60 k h) (enter_of Tryz.func60 (by kernel_rfl) (by kernel_rfl))
noncomputable def b61 : Code := Tryz.f61.body.getD .skip
noncomputable def T61 (k : Nat) : Tab := { TB (K9 k) with loop := lookL (L61 k), join := J61, np := false }
theorem l61_9 (k n : Nat) (x : HT [.int .i64, .int .i64, .sl (.pair (.int .i64) (.int .i64)), .sl (.pair .str (.sl (.int .i64))), .int .i64, .int .i64]) : spec_l05Points_9 k (n + 1) x = ev (T61 k) (findB (bodies b61) 9) (SF61_9.mk' [.int .i64, .int .i64, .sl (.pair (.int .i64) (.int .i64)), .sl (.pair .str (.sl (.int .i64))), .int .i64, .int .i64] x) (outB 2 SG61_9 [.int .i64, .int .i64, .sl (.pair (.int .i64) (.int .i64)), .sl (.pair .str (.sl (.int .i64))), .int .i64] SH61_9 [.bool] SF61_9 [.int .i64, .int .i64, .sl (.pair (.int .i64) (.int .i64)), .sl (.pair .str (.sl (.int .i64))), .int .i64, .int .i64] (spec_l05Points_9 k n)) := by kernel_rfl
theorem l61_4 (k n : Nat) (x : HT [.int .i64, .int .i64, .sl (.pair (.int .i64) (.int .i64)), .sl (.pair .str (.sl (.int .i64))), .int .i64]) : spec_l05Points_4 k (n + 1) x = ev (T61 k) (findB (bodies b61) 4) (SF61_4.mk' [.int .i64, .int .i64, .sl (.pair (.int .i64) (.int .i64)), .sl (.pair .str (.sl (.int .i64))), .int .i64] x) (outB 0 SG61_4 [] SH61_4 [.bool] SF61_4 [.int .i64, .int .i64, .sl (.pair (.int .i64) (.int .i64)), .sl (.pair .str (.sl (.int .i64))), .int .i64] (spec_l05Points_4 k n)) := by kernel_rfl
theorem e61 (k : Nat) (x : HT I61.cs) : spec_l05Points k x = I61.body (T61 k) Tryz.f61 b61 x := by kernel_rfl
noncomputable def K10 (k : Nat) : List (Nat × CallI) := (61, ⟨I61, spec_l05Points k⟩) :: K9 k
theorem c61 (k : Nat) (h : TabFn Tryz.prog (TB (K9 k))) : CallOK Tryz.prog 61 (I61.call (spec_l05Points k)) := fun_ok (T := T61 k) (ls := (L61 k)) mixed (tab_with h _ _ _) I61 (spec_l05Points k) Tryz.func61 (by kernel_rfl : Tryz.f61.body = some b61) (by kernel_rfl) (by decide) rfl (by kernel_rfl) ⟨rowB (f := SF61_9) (g := SG61_9) (h := SH61_9) (cs := [.int .i64, .int .i64, .sl (.pair (.int .i64) (.int .i64)), .sl (.pair .str (.sl (.int .i64))), .int .i64, .int .i64]) (co := [.int .i64, .int .i64, .sl (.pair (.int .i64) (.int .i64)), .sl (.pair .str (.sl (.int .i64))), .int .i64]) (cr := [.bool]) (e := 2) k (spec_l05Points_9 k) ⟨by decide, by decide, by decide⟩ (fun _ => rfl) (l61_9 k), rowB (f := SF61_4) (g := SG61_4) (h := SH61_4) (cs := [.int .i64, .int .i64, .sl (.pair (.int .i64) (.int .i64)), .sl (.pair .str (.sl (.int .i64))), .int .i64]) (co := []) (cr := [.bool]) (e := 0) k (spec_l05Points_4 k) ⟨by decide, by decide, by decide⟩ (fun _ => rfl) (l61_4 k), trivial⟩ (e61 k) (fun h => Bool.noConfusion h)
theorem t61 (k : Nat) (h : TabFn Tryz.prog (TB (K9 k))) : TabFn Tryz.prog (TB (K10 k)) := tc_cons h (by kernel_rfl) (c61 k h) (enter_of Tryz.func61 (by kernel_rfl) (by kernel_rfl))
noncomputable def b85 : Code := Tryz.f85.body.getD .skip
noncomputable def T85 (k : Nat) : Tab := { TB (K10 k) with loop := lookL [], join := (fun _ => []), np := false }
theorem e85 (k : Nat) (x : HT I85.cs) : spec_l01Small k x = I85.body (T85 k) Tryz.f85 b85 x := by kernel_rfl
noncomputable def K11 (k : Nat) : List (Nat × CallI) := (85, ⟨I85, spec_l01Small k⟩) :: K10 k
theorem c85 (k : Nat) (h : TabFn Tryz.prog (TB (K10 k))) : CallOK Tryz.prog 85 (I85.call (spec_l01Small k)) := fun_ok (T := T85 k) (ls := []) mixed (tab_with h _ _ _) I85 (spec_l01Small k) Tryz.func85 (by kernel_rfl : Tryz.f85.body = some b85) (by kernel_rfl) (by decide) rfl (by kernel_rfl) trivial (e85 k) (fun h => Bool.noConfusion h)
theorem t85 (k : Nat) (h : TabFn Tryz.prog (TB (K10 k))) : TabFn Tryz.prog (TB (K11 k)) := tc_cons h (by kernel_rfl) (c85 k h) (enter_of Tryz.func85 (by kernel_rfl) (by kernel_rfl))
noncomputable def b86 : Code := Tryz.f86.body.getD .skip
noncomputable def T86 (k : Nat) : Tab := { TB (K11 k) with loop := lookL [], join := (fun _ => []), np := false }
theorem e86 (k : Nat) (x : HT I86.cs) : spec_l01Digit k x = I86.body (T86 k) Tryz.f86 b86 x := by kernel_rfl
noncomputable def K12 (k : Nat) : List (Nat × CallI) := (86, ⟨I86, spec_l01Digit k⟩) :: K11 k
theorem c86 (k : Nat) (h : TabFn Tryz.prog (TB (K11 k))) : CallOK Tryz.prog 86 (I86.call (spec_l01Digit k)) := fun_ok (T := T86 k) (ls := []) mixed (tab_with h _ _ _) I86 (spec_l01Digit k) Tryz.func86 (by kernel_rfl : Tryz.f86.body = some b86) (by kernel_rfl) (by decide) rfl (by kernel_rfl) trivial (e86 k) (fun h => Bool.noConfusion h)
theorem t86 (k : Nat) (h : TabFn Tryz.prog (TB (K11 k))) : TabFn Tryz.prog (TB (K12 k)) := tc_cons h (by kernel_rfl) (c86 k h) (enter_of Tryz.func86 (by kernel_rfl) (by kernel_rfl))
noncomputable def b62 : Code := Tryz.f62.body.getD .skip
noncomputable def T62 (k : Nat) : Tab := { TB (K12 k) with loop := lookL (L62 k), join := J62, np := false }
theorem l62_4 (k n : Nat) (x : HT [.str, .int .i64]) : spec_l01Name_4 k (n + 1) x = ev (T62 k) (findB (bodies b62) 4) (SF62_4.mk' [.str, .int .i64] x) (outB 0 SG62_4 [] SH62_4 [.bool] SF62_4 [.str, .int .i64] (spec_l01Name_4 k n)) := by kernel_rfl
theorem e62 (k : Nat) (x : HT I62.cs) : spec_l01Name k x = I62.body (T62 k) Tryz.f62 b62 x := by kernel_rfl
noncomputable def K13 (k : Nat) : List (Nat × CallI) := (62, ⟨I62, spec_l01Name k⟩) :: K12 k
theorem c62 (k : Nat) (h : TabFn Tryz.prog (TB (K12 k))) : CallOK Tryz.prog 62 (I62.call (spec_l01Name k)) := fun_ok (T := T62 k) (ls := (L62 k)) mixed (tab_with h _ _ _) I62 (spec_l01Name k) Tryz.func62 (by kernel_rfl : Tryz.f62.body = some b62) (by kernel_rfl) (by decide) rfl (by kernel_rfl) ⟨rowB (f := SF62_4) (g := SG62_4) (h := SH62_4) (cs := [.str, .int .i64]) (co := []) (cr := [.bool]) (e := 0) k (spec_l01Name_4 k) ⟨by decide, by decide, by decide⟩ (fun _ => rfl) (l62_4 k), trivial⟩ (e62 k) (fun h => Bool.noConfusion h)
theorem t62 (k : Nat) (h : TabFn Tryz.prog (TB (K12 k))) : TabFn Tryz.prog (TB (K13 k)) := tc_cons h (by kernel_rfl) (c62 k h) (enter_of Tryz.func62 (by kernel_rfl) (by kernel_rfl))
noncomputable def b63 : Code := Tryz.f63.body.getD .skip
noncomputable def T63 (k : Nat) : Tab := { TB (K13 k) with loop := lookL (L63 k), join := (fun _ => []), np := false }
theorem l63_3 (k n : Nat) (x : HT [.int .i64, .int .i64, .sl (.pair (.int .i64) (.int .i64)), .sl (.pair .str (.sl (.int .i64))), .sl (.int .i64), .int .i64, .sl (.pair (.int .i64) (.int .i64))]) : spec_l05Ring_3 k (n + 1) x = ev (T63 k) (findB (bodies b63) 3) (SF63_3.mk' [.int .i64, .int .i64, .sl (.pair (.int .i64) (.int .i64)), .sl (.pair .str (.sl (.int .i64))), .sl (.int .i64), .int .i64, .sl (.pair (.int .i64) (.int .i64))] x) (outB 0 SG63_3 [.sl (.pair (.int .i64) (.int .i64))] SH63_3 [.bool, .sl (.pair (.int .i64) (.int .i64))] SF63_3 [.int .i64, .int .i64, .sl (.pair (.int .i64) (.int .i64)), .sl (.pair .str (.sl (.int .i64))), .sl (.int .i64), .int .i64, .sl (.pair (.int .i64) (.int .i64))] (spec_l05Ring_3 k n)) := by kernel_rfl
theorem e63 (k : Nat) (x : HT I63.cs) : spec_l05Ring k x = I63.body (T63 k) Tryz.f63 b63 x := by kernel_rfl
noncomputable def K14 (k : Nat) : List (Nat × CallI) := (63, ⟨I63, spec_l05Ring k⟩) :: K13 k
theorem c63 (k : Nat) (h : TabFn Tryz.prog (TB (K13 k))) : CallOK Tryz.prog 63 (I63.call (spec_l05Ring k)) := fun_ok (T := T63 k) (ls := (L63 k)) mixed (tab_with h _ _ _) I63 (spec_l05Ring k) Tryz.func63 (by kernel_rfl : Tryz.f63.body = some b63) (by kernel_rfl) (by decide) rfl (by kernel_rfl) ⟨rowB (f := SF63_3) (g := SG63_3) (h := SH63_3) (cs := [.int .i64, .int .i64, .sl (.pair (.int .i64) (.int .i64)), .sl (.pair .str (.sl (.int .i64))), .sl (.int .i64), .int .i64, .sl (.pair (.int .i64) (.int .i64))]) (co := [.sl (.pair (.int .i64) (.int .i64))]) (cr := [.bool, .sl (.pair (.int .i64) (.int .i64))]) (e := 0) k (spec_l05Ring_3 k) ⟨by decide, by decide, by decide⟩ (fun _ => rfl) (l63_3 k), trivial⟩ (e63 k) (fun h => Bool.noConfusion h)
theorem t63 (k : Nat) (h : TabFn Tryz.prog (TB (K13 k))) : TabFn Tryz.prog (TB (K14 k)) := tc_cons h (by kernel_rfl) (c63 k h) (enter_of Tryz.func63 (by kernel_rfl) (by kernel_rfl))
noncomputable def b87 : Code := Tryz.f87.body.getD .skip
noncomputable def T87 (k : Nat) : Tab := { TB (K14 k) with loop := lookL [], join := (fun _ => []), np := false }
theorem e87 (k : Nat) (x : HT I87.cs) : spec_l02Ok k x = I87.body (T87 k) Tryz.f87 b87 x := by kernel_rfl
noncomputable def K15 (k : Nat) : List (Nat × CallI) := (87, ⟨I87, spec_l02Ok k⟩) :: K14 k
theorem c87 (k : Nat) (h : TabFn Tryz.prog (TB (K14 k))) : CallOK Tryz.prog 87 (I87.call (spec_l02Ok k)) := fun_ok (T := T87 k) (ls := []) mixed (tab_with h _ _ _) I87 (spec_l02Ok k) Tryz.func87 (by kernel_rfl : Tryz.f87.body = some b87) (by kernel_rfl) (by decide) rfl (by kernel_rfl) trivial (e87 k) (fun h => Bool.noConfusion h)
theorem t87 (k : Nat) (h : TabFn Tryz.prog (TB (K14 k))) : TabFn Tryz.prog (TB (K15 k)) := tc_cons h (by kernel_rfl) (c87 k h) (enter_of Tryz.func87 (by kernel_rfl) (by kernel_rfl))
noncomputable def b36 : Code := Tryz.f36.body.getD .skip
noncomputable def T36 (k : Nat) : Tab := { TB (K15 k) with loop := lookL [], join := (fun _ => []), np := false }
theorem e36 (k : Nat) (x : HT I36.cs) : spec_l00Min k x = I36.body (T36 k) Tryz.f36 b36 x := by kernel_rfl
noncomputable def K16 (k : Nat) : List (Nat × CallI) := (36, ⟨I36, spec_l00Min k⟩) :: K15 k
theorem c36 (k : Nat) (h : TabFn Tryz.prog (TB (K15 k))) : CallOK Tryz.prog 36 (I36.call (spec_l00Min k)) := fun_ok (T := T36 k) (ls := []) mixed (tab_with h _ _ _) I36 (spec_l00Min k) Tryz.func36 (by kernel_rfl : Tryz.f36.body = some b36) (by kernel_rfl) (by decide) rfl (by kernel_rfl) trivial (e36 k) (fun h => Bool.noConfusion h)
theorem t36 (k : Nat) (h : TabFn Tryz.prog (TB (K15 k))) : TabFn Tryz.prog (TB (K16 k)) := tc_cons h (by kernel_rfl) (c36 k h) (enter_of Tryz.func36 (by kernel_rfl) (by kernel_rfl))
noncomputable def b110 : Code := Tryz.f110.body.getD .skip
noncomputable def T110 (k : Nat) : Tab := { TB (K16 k) with loop := lookL [], join := (fun _ => []), np := false }
theorem e110 (k : Nat) (x : HT I110.cs) : spec_l02Cross k x = I110.body (T110 k) Tryz.f110 b110 x := by kernel_rfl
noncomputable def K17 (k : Nat) : List (Nat × CallI) := (110, ⟨I110, spec_l02Cross k⟩) :: K16 k
theorem c110 (k : Nat) (h : TabFn Tryz.prog (TB (K16 k))) : CallOK Tryz.prog 110 (I110.call (spec_l02Cross k)) := fun_ok (T := T110 k) (ls := []) mixed (tab_with h _ _ _) I110 (spec_l02Cross k) Tryz.func110 (by kernel_rfl : Tryz.f110.body = some b110) (by kernel_rfl) (by decide) rfl (by kernel_rfl) trivial (e110 k) (fun h => Bool.noConfusion h)
theorem t110 (k : Nat) (h : TabFn Tryz.prog (TB (K16 k))) : TabFn Tryz.prog (TB (K17 k)) := tc_cons h (by kernel_rfl) (c110 k h) (enter_of Tryz.func110 (by kernel_rfl) (by kernel_rfl))
noncomputable def b105 : Code := Tryz.f105.body.getD .skip
noncomputable def T105 (k : Nat) : Tab := { TB (K17 k) with loop := lookL [], join := (fun _ => []), np := false }
theorem e105 (k : Nat) (x : HT I105.cs) : spec_l02Side k x = I105.body (T105 k) Tryz.f105 b105 x := by kernel_rfl
noncomputable def K18 (k : Nat) : List (Nat × CallI) := (105, ⟨I105, spec_l02Side k⟩) :: K17 k
theorem c105 (k : Nat) (h : TabFn Tryz.prog (TB (K17 k))) : CallOK Tryz.prog 105 (I105.call (spec_l02Side k)) := fun_ok (T := T105 k) (ls := []) mixed (tab_with h _ _ _) I105 (spec_l02Side k) Tryz.func105 (by kernel_rfl : Tryz.f105.body = some b105) (by kernel_rfl) (by decide) rfl (by kernel_rfl) trivial (e105 k) (fun h => Bool.noConfusion h)
theorem t105 (k : Nat) (h : TabFn Tryz.prog (TB (K17 k))) : TabFn Tryz.prog (TB (K18 k)) := tc_cons h (by kernel_rfl) (c105 k h) (enter_of Tryz.func105 (by kernel_rfl) (by kernel_rfl))
noncomputable def b106 : Code := Tryz.f106.body.getD .skip
noncomputable def T106 (k : Nat) : Tab := { TB (K18 k) with loop := lookL [], join := (fun _ => []), np := false }
theorem e106 (k : Nat) (x : HT I106.cs) : spec_l00Max k x = I106.body (T106 k) Tryz.f106 b106 x := by kernel_rfl
noncomputable def K19 (k : Nat) : List (Nat × CallI) := (106, ⟨I106, spec_l00Max k⟩) :: K18 k
theorem c106 (k : Nat) (h : TabFn Tryz.prog (TB (K18 k))) : CallOK Tryz.prog 106 (I106.call (spec_l00Max k)) := fun_ok (T := T106 k) (ls := []) mixed (tab_with h _ _ _) I106 (spec_l00Max k) Tryz.func106 (by kernel_rfl : Tryz.f106.body = some b106) (by kernel_rfl) (by decide) rfl (by kernel_rfl) trivial (e106 k) (fun h => Bool.noConfusion h)
theorem t106 (k : Nat) (h : TabFn Tryz.prog (TB (K18 k))) : TabFn Tryz.prog (TB (K19 k)) := tc_cons h (by kernel_rfl) (c106 k h) (enter_of Tryz.func106 (by kernel_rfl) (by kernel_rfl))
noncomputable def b88 : Code := Tryz.f88.body.getD .skip
noncomputable def T88 (k : Nat) : Tab := { TB (K19 k) with loop := lookL [], join := (fun _ => []), np := false }
theorem e88 (k : Nat) (x : HT I88.cs) : spec_l02On k x = I88.body (T88 k) Tryz.f88 b88 x := by kernel_rfl
noncomputable def K20 (k : Nat) : List (Nat × CallI) := (88, ⟨I88, spec_l02On k⟩) :: K19 k
theorem c88 (k : Nat) (h : TabFn Tryz.prog (TB (K19 k))) : CallOK Tryz.prog 88 (I88.call (spec_l02On k)) := fun_ok (T := T88 k) (ls := []) mixed (tab_with h _ _ _) I88 (spec_l02On k) Tryz.func88 (by kernel_rfl : Tryz.f88.body = some b88) (by kernel_rfl) (by decide) rfl (by kernel_rfl) trivial (e88 k) (fun h => Bool.noConfusion h)
theorem t88 (k : Nat) (h : TabFn Tryz.prog (TB (K19 k))) : TabFn Tryz.prog (TB (K20 k)) := tc_cons h (by kernel_rfl) (c88 k h) (enter_of Tryz.func88 (by kernel_rfl) (by kernel_rfl))
noncomputable def b107 : Code := Tryz.f107.body.getD .skip
noncomputable def T107 (k : Nat) : Tab := { TB (K20 k) with loop := lookL [], join := (fun _ => []), np := false }
theorem e107 (k : Nat) (x : HT I107.cs) : spec_l02Crosses k x = I107.body (T107 k) Tryz.f107 b107 x := by kernel_rfl
noncomputable def K21 (k : Nat) : List (Nat × CallI) := (107, ⟨I107, spec_l02Crosses k⟩) :: K20 k
theorem c107 (k : Nat) (h : TabFn Tryz.prog (TB (K20 k))) : CallOK Tryz.prog 107 (I107.call (spec_l02Crosses k)) := fun_ok (T := T107 k) (ls := []) mixed (tab_with h _ _ _) I107 (spec_l02Crosses k) Tryz.func107 (by kernel_rfl : Tryz.f107.body = some b107) (by kernel_rfl) (by decide) rfl (by kernel_rfl) trivial (e107 k) (fun h => Bool.noConfusion h)
theorem t107 (k : Nat) (h : TabFn Tryz.prog (TB (K20 k))) : TabFn Tryz.prog (TB (K21 k)) := tc_cons h (by kernel_rfl) (c107 k h) (enter_of Tryz.func107 (by kernel_rfl) (by kernel_rfl))
noncomputable def b89 : Code := Tryz.f89.body.getD .skip
noncomputable def T89 (k : Nat) : Tab := { TB (K21 k) with loop := lookL [], join := (fun _ => []), np := false }
theorem e89 (k : Nat) (x : HT I89.cs) : spec_l03Meet k x = I89.body (T89 k) Tryz.f89 b89 x := by kernel_rfl
noncomputable def K22 (k : Nat) : List (Nat × CallI) := (89, ⟨I89, spec_l03Meet k⟩) :: K21 k
theorem c89 (k : Nat) (h : TabFn Tryz.prog (TB (K21 k))) : CallOK Tryz.prog 89 (I89.call (spec_l03Meet k)) := fun_ok (T := T89 k) (ls := []) mixed (tab_with h _ _ _) I89 (spec_l03Meet k) Tryz.func89 (by kernel_rfl : Tryz.f89.body = some b89) (by kernel_rfl) (by decide) rfl (by kernel_rfl) trivial (e89 k) (fun h => Bool.noConfusion h)
theorem t89 (k : Nat) (h : TabFn Tryz.prog (TB (K21 k))) : TabFn Tryz.prog (TB (K22 k)) := tc_cons h (by kernel_rfl) (c89 k h) (enter_of Tryz.func89 (by kernel_rfl) (by kernel_rfl))
noncomputable def b90 : Code := Tryz.f90.body.getD .skip
noncomputable def T90 (k : Nat) : Tab := { TB (K22 k) with loop := lookL (L90 k), join := (fun _ => []), np := false }
theorem l90_3 (k n : Nat) (x : HT [.sl (.pair (.int .i64) (.int .i64)), .int .i64, .int .i64]) : spec_l03Area_3 k (n + 1) x = ev (T90 k) (findB (bodies b90) 3) (SF90_3.mk' [.sl (.pair (.int .i64) (.int .i64)), .int .i64, .int .i64] x) (outA 0 SG90_3 [.int .i64] SF90_3 [.sl (.pair (.int .i64) (.int .i64)), .int .i64, .int .i64] (spec_l03Area_3 k n)) := by kernel_rfl
theorem e90 (k : Nat) (x : HT I90.cs) : spec_l03Area k x = I90.body (T90 k) Tryz.f90 b90 x := by kernel_rfl
noncomputable def K23 (k : Nat) : List (Nat × CallI) := (90, ⟨I90, spec_l03Area k⟩) :: K22 k
theorem c90 (k : Nat) (h : TabFn Tryz.prog (TB (K22 k))) : CallOK Tryz.prog 90 (I90.call (spec_l03Area k)) := fun_ok (T := T90 k) (ls := (L90 k)) mixed (tab_with h _ _ _) I90 (spec_l03Area k) Tryz.func90 (by kernel_rfl : Tryz.f90.body = some b90) (by kernel_rfl) (by decide) rfl (by kernel_rfl) ⟨rowA (f := SF90_3) (g := SG90_3) (cs := [.sl (.pair (.int .i64) (.int .i64)), .int .i64, .int .i64]) (co := [.int .i64]) (e := 0) k (spec_l03Area_3 k) ⟨by decide, by decide⟩ (fun _ => rfl) (l90_3 k), trivial⟩ (e90 k) (fun h => Bool.noConfusion h)
theorem t90 (k : Nat) (h : TabFn Tryz.prog (TB (K22 k))) : TabFn Tryz.prog (TB (K23 k)) := tc_cons h (by kernel_rfl) (c90 k h) (enter_of Tryz.func90 (by kernel_rfl) (by kernel_rfl))
noncomputable def b64 : Code := Tryz.f64.body.getD .skip
noncomputable def T64 (k : Nat) : Tab := { TB (K23 k) with loop := lookL (L64 k), join := J64, np := false }
theorem l64_5 (k n : Nat) (x : HT [.sl (.pair (.int .i64) (.int .i64)), .int .i64, .int .i64]) : spec_l03Ok_5 k (n + 1) x = ev (T64 k) (findB (bodies b64) 5) (SF64_5.mk' [.sl (.pair (.int .i64) (.int .i64)), .int .i64, .int .i64] x) (outB 0 SG64_5 [.sl (.pair (.int .i64) (.int .i64)), .int .i64] SH64_5 [.bool] SF64_5 [.sl (.pair (.int .i64) (.int .i64)), .int .i64, .int .i64] (spec_l03Ok_5 k n)) := by kernel_rfl
theorem l64_18 (k n : Nat) (x : HT [.sl (.pair (.int .i64) (.int .i64)), .int .i64, .int .i64, .int .i64, .int .i64, .int .i64, .int .i64, .int .i64]) : spec_l03Ok_18 k (n + 1) x = ev (T64 k) (findB (bodies b64) 18) (SF64_18.mk' [.sl (.pair (.int .i64) (.int .i64)), .int .i64, .int .i64, .int .i64, .int .i64, .int .i64, .int .i64, .int .i64] x) (outB 4 SG64_18 [.sl (.pair (.int .i64) (.int .i64)), .int .i64, .int .i64] SH64_18 [.bool] SF64_18 [.sl (.pair (.int .i64) (.int .i64)), .int .i64, .int .i64, .int .i64, .int .i64, .int .i64, .int .i64, .int .i64] (spec_l03Ok_18 k n)) := by kernel_rfl
theorem l64_10 (k n : Nat) (x : HT [.sl (.pair (.int .i64) (.int .i64)), .int .i64, .int .i64]) : spec_l03Ok_10 k (n + 1) x = ev (T64 k) (findB (bodies b64) 10) (SF64_10.mk' [.sl (.pair (.int .i64) (.int .i64)), .int .i64, .int .i64] x) (outB 2 SG64_10 [.sl (.pair (.int .i64) (.int .i64))] SH64_10 [.bool] SF64_10 [.sl (.pair (.int .i64) (.int .i64)), .int .i64, .int .i64] (spec_l03Ok_10 k n)) := by kernel_rfl
theorem e64 (k : Nat) (x : HT I64.cs) : spec_l03Ok k x = I64.body (T64 k) Tryz.f64 b64 x := by kernel_rfl
noncomputable def K24 (k : Nat) : List (Nat × CallI) := (64, ⟨I64, spec_l03Ok k⟩) :: K23 k
theorem c64 (k : Nat) (h : TabFn Tryz.prog (TB (K23 k))) : CallOK Tryz.prog 64 (I64.call (spec_l03Ok k)) := fun_ok (T := T64 k) (ls := (L64 k)) mixed (tab_with h _ _ _) I64 (spec_l03Ok k) Tryz.func64 (by kernel_rfl : Tryz.f64.body = some b64) (by kernel_rfl) (by decide) rfl (by kernel_rfl) ⟨rowB (f := SF64_5) (g := SG64_5) (h := SH64_5) (cs := [.sl (.pair (.int .i64) (.int .i64)), .int .i64, .int .i64]) (co := [.sl (.pair (.int .i64) (.int .i64)), .int .i64]) (cr := [.bool]) (e := 0) k (spec_l03Ok_5 k) ⟨by decide, by decide, by decide⟩ (fun _ => rfl) (l64_5 k), rowB (f := SF64_18) (g := SG64_18) (h := SH64_18) (cs := [.sl (.pair (.int .i64) (.int .i64)), .int .i64, .int .i64, .int .i64, .int .i64, .int .i64, .int .i64, .int .i64]) (co := [.sl (.pair (.int .i64) (.int .i64)), .int .i64, .int .i64]) (cr := [.bool]) (e := 4) k (spec_l03Ok_18 k) ⟨by decide, by decide, by decide⟩ (fun _ => rfl) (l64_18 k), rowB (f := SF64_10) (g := SG64_10) (h := SH64_10) (cs := [.sl (.pair (.int .i64) (.int .i64)), .int .i64, .int .i64]) (co := [.sl (.pair (.int .i64) (.int .i64))]) (cr := [.bool]) (e := 2) k (spec_l03Ok_10 k) ⟨by decide, by decide, by decide⟩ (fun _ => rfl) (l64_10 k), trivial⟩ (e64 k) (fun h => Bool.noConfusion h)
theorem t64 (k : Nat) (h : TabFn Tryz.prog (TB (K23 k))) : TabFn Tryz.prog (TB (K24 k)) := tc_cons h (by kernel_rfl) (c64 k h) (enter_of Tryz.func64 (by kernel_rfl) (by kernel_rfl))
noncomputable def b31 : Code := Tryz.f31.body.getD .skip
noncomputable def T31 (k : Nat) : Tab := { TB (K24 k) with loop := lookL (L31 k), join := J31, np := false }
theorem l31_4 (k n : Nat) (x : HT [.int .i64, .int .i64, .sl (.pair (.int .i64) (.int .i64)), .sl (.pair .str (.sl (.int .i64))), .int .i64]) : spec_l05Ok_4 k (n + 1) x = ev (T31 k) (findB (bodies b31) 4) (SF31_4.mk' [.int .i64, .int .i64, .sl (.pair (.int .i64) (.int .i64)), .sl (.pair .str (.sl (.int .i64))), .int .i64] x) (outB 0 SG31_4 [] SH31_4 [.bool] SF31_4 [.int .i64, .int .i64, .sl (.pair (.int .i64) (.int .i64)), .sl (.pair .str (.sl (.int .i64))), .int .i64] (spec_l05Ok_4 k n)) := by kernel_rfl
theorem e31 (k : Nat) (x : HT I31.cs) : spec_l05Ok k x = I31.body (T31 k) Tryz.f31 b31 x := by kernel_rfl
noncomputable def K25 (k : Nat) : List (Nat × CallI) := (31, ⟨I31, spec_l05Ok k⟩) :: K24 k
theorem c31 (k : Nat) (h : TabFn Tryz.prog (TB (K24 k))) : CallOK Tryz.prog 31 (I31.call (spec_l05Ok k)) := fun_ok (T := T31 k) (ls := (L31 k)) mixed (tab_with h _ _ _) I31 (spec_l05Ok k) Tryz.func31 (by kernel_rfl : Tryz.f31.body = some b31) (by kernel_rfl) (by decide) rfl (by kernel_rfl) ⟨rowB (f := SF31_4) (g := SG31_4) (h := SH31_4) (cs := [.int .i64, .int .i64, .sl (.pair (.int .i64) (.int .i64)), .sl (.pair .str (.sl (.int .i64))), .int .i64]) (co := []) (cr := [.bool]) (e := 0) k (spec_l05Ok_4 k) ⟨by decide, by decide, by decide⟩ (fun _ => rfl) (l31_4 k), trivial⟩ (e31 k) (fun h => Bool.noConfusion h)
theorem t31 (k : Nat) (h : TabFn Tryz.prog (TB (K24 k))) : TabFn Tryz.prog (TB (K25 k)) := tc_cons h (by kernel_rfl) (c31 k h) (enter_of Tryz.func31 (by kernel_rfl) (by kernel_rfl))
noncomputable def b108 : Code := Tryz.f108.body.getD .skip
noncomputable def T108 (k : Nat) : Tab := { TB (K25 k) with loop := lookL [], join := (fun _ => []), np := false }
theorem e108 (k : Nat) (x : HT I108.cs) : spec_l07Names k x = I108.body (T108 k) Tryz.f108 b108 x := by kernel_rfl
noncomputable def K26 (k : Nat) : List (Nat × CallI) := (108, ⟨I108, spec_l07Names k⟩) :: K25 k
theorem c108 (k : Nat) (h : TabFn Tryz.prog (TB (K25 k))) : CallOK Tryz.prog 108 (I108.call (spec_l07Names k)) := fun_ok (T := T108 k) (ls := []) mixed (tab_with h _ _ _) I108 (spec_l07Names k) Tryz.func108 (by kernel_rfl : Tryz.f108.body = some b108) (by kernel_rfl) (by decide) rfl (by kernel_rfl) trivial (e108 k) (fun h => Bool.noConfusion h)
theorem t108 (k : Nat) (h : TabFn Tryz.prog (TB (K25 k))) : TabFn Tryz.prog (TB (K26 k)) := tc_cons h (by kernel_rfl) (c108 k h) (enter_of Tryz.func108 (by kernel_rfl) (by kernel_rfl))
noncomputable def b91 : Code := Tryz.f91.body.getD .skip
noncomputable def T91 (k : Nat) : Tab := { TB (K26 k) with loop := lookL (L91 k), join := (fun _ => []), np := false }
theorem l91_3 (k n : Nat) (x : HT [.str, .int .i64, .sl .str]) : spec_l07Find_3 k (n + 1) x = ev (T91 k) (findB (bodies b91) 3) (SF91_3.mk' [.str, .int .i64, .sl .str] x) (outB 0 SG91_3 [] SH91_3 [.int .i64] SF91_3 [.str, .int .i64, .sl .str] (spec_l07Find_3 k n)) := by kernel_rfl
theorem e91 (k : Nat) (x : HT I91.cs) : spec_l07Find k x = I91.body (T91 k) Tryz.f91 b91 x := by kernel_rfl
noncomputable def K27 (k : Nat) : List (Nat × CallI) := (91, ⟨I91, spec_l07Find k⟩) :: K26 k
theorem c91 (k : Nat) (h : TabFn Tryz.prog (TB (K26 k))) : CallOK Tryz.prog 91 (I91.call (spec_l07Find k)) := fun_ok (T := T91 k) (ls := (L91 k)) mixed (tab_with h _ _ _) I91 (spec_l07Find k) Tryz.func91 (by kernel_rfl : Tryz.f91.body = some b91) (by kernel_rfl) (by decide) rfl (by kernel_rfl) ⟨rowB (f := SF91_3) (g := SG91_3) (h := SH91_3) (cs := [.str, .int .i64, .sl .str]) (co := []) (cr := [.int .i64]) (e := 0) k (spec_l07Find_3 k) ⟨by decide, by decide, by decide⟩ (fun _ => rfl) (l91_3 k), trivial⟩ (e91 k) (fun h => Bool.noConfusion h)
theorem t91 (k : Nat) (h : TabFn Tryz.prog (TB (K26 k))) : TabFn Tryz.prog (TB (K27 k)) := tc_cons h (by kernel_rfl) (c91 k h) (enter_of Tryz.func91 (by kernel_rfl) (by kernel_rfl))
end Go.Proofs.YtmklecafnhdnmaaGreatV

/- Functions; no condition. -/
import Derived.Test.YtmklecafnhdnmaaGreatB05
import Derived.KernelRfl
set_option linter.all false
/- The functions' rows of the table: what the evaluator makes of their code is their pure function. -/
namespace Go.Proofs.YtmklecafnhdnmaaGreatV
open Go Go.RowKit Go.Proofs
set_option linter.unusedVariables false
noncomputable def b46 : Code := Tryz.f46.body.getD .skip
noncomputable def T46 (k : Nat) : Tab := { TB (K81 k) with loop := lookL [], join := (fun _ => []), np := false }
theorem e46 (k : Nat) (x : HT I46.cs) : impl_copyPicture k x = I46.body (T46 k) Tryz.f46 b46 x := by kernel_rfl
noncomputable def K82 (k : Nat) : List (Nat × CallI) := (46, ⟨I46, impl_copyPicture k⟩) :: K81 k
theorem c46 (k : Nat) (h : TabFn Tryz.prog (TB (K81 k))) : CallOK Tryz.prog 46 (I46.call (impl_copyPicture k)) := fun_ok (T := T46 k) (ls := []) mixed (tab_with h _ _ _) I46 (impl_copyPicture k) Tryz.func46 (by kernel_rfl : Tryz.f46.body = some b46) (by kernel_rfl) (by decide) rfl (by kernel_rfl) trivial (e46 k) (fun h => Bool.noConfusion h)
theorem t46 (k : Nat) (h : TabFn Tryz.prog (TB (K81 k))) : TabFn Tryz.prog (TB (K82 k)) := tc_cons h (by kernel_rfl) (c46 k h) (enter_of Tryz.func46 (by kernel_rfl) (by kernel_rfl))
noncomputable def b47 : Code := Tryz.f47.body.getD .skip
noncomputable def T47 (k : Nat) : Tab := { TB (K82 k) with loop := lookL (L47 k), join := J47, np := false }
theorem l47_6 (k n : Nat) (x : HT [.int .i64, .int .i64, .int .i64, .int .i64, .int .i64]) : impl_Turned_6 k (n + 1) x = ev (T47 k) (findB (bodies b47) 6) (SF47_6.mk' [.int .i64, .int .i64, .int .i64, .int .i64, .int .i64] x) (outA 0 SG47_6 [.int .i64, .int .i64, .int .i64, .int .i64] SF47_6 [.int .i64, .int .i64, .int .i64, .int .i64, .int .i64] (impl_Turned_6 k n)) := by kernel_rfl
theorem e47 (k : Nat) (x : HT I47.cs) : impl_Turned k x = I47.body (T47 k) Tryz.f47 b47 x := by kernel_rfl
noncomputable def K83 (k : Nat) : List (Nat × CallI) := (47, ⟨I47, impl_Turned k⟩) :: K82 k
theorem c47 (k : Nat) (h : TabFn Tryz.prog (TB (K82 k))) : CallOK Tryz.prog 47 (I47.call (impl_Turned k)) := fun_ok (T := T47 k) (ls := (L47 k)) mixed (tab_with h _ _ _) I47 (impl_Turned k) Tryz.func47 (by kernel_rfl : Tryz.f47.body = some b47) (by kernel_rfl) (by decide) rfl (by kernel_rfl) ⟨rowA (f := SF47_6) (g := SG47_6) (cs := [.int .i64, .int .i64, .int .i64, .int .i64, .int .i64]) (co := [.int .i64, .int .i64, .int .i64, .int .i64]) (e := 0) k (impl_Turned_6 k) ⟨by decide, by decide⟩ (fun _ => rfl) (l47_6 k), trivial⟩ (e47 k) (fun h => Bool.noConfusion h)
theorem t47 (k : Nat) (h : TabFn Tryz.prog (TB (K82 k))) : TabFn Tryz.prog (TB (K83 k)) := tc_cons h (by kernel_rfl) (c47 k h) (enter_of Tryz.func47 (by kernel_rfl) (by kernel_rfl))
noncomputable def K84 (k : Nat) : List (Nat × CallI) := (48, ⟨I48, slices_Reverse k⟩) :: K83 k
theorem t48 (k : Nat) (h : TabFn Tryz.prog (TB (K83 k))) : TabFn Tryz.prog (TB (K84 k)) := tc_rev h rev48 (rev_call k)
noncomputable def b49 : Code := Tryz.f49.body.getD .skip
noncomputable def T49 (k : Nat) : Tab := { TB (K84 k) with loop := lookL [], join := J49, np := false }
theorem e49 (k : Nat) (x : HT I49.cs) : impl_TurnGrain k x = I49.body (T49 k) Tryz.f49 b49 x := by kernel_rfl
noncomputable def K85 (k : Nat) : List (Nat × CallI) := (49, ⟨I49, impl_TurnGrain k⟩) :: K84 k
theorem c49 (k : Nat) (h : TabFn Tryz.prog (TB (K84 k))) : CallOK Tryz.prog 49 (I49.call (impl_TurnGrain k)) := fun_ok (T := T49 k) (ls := []) mixed (tab_with h _ _ _) I49 (impl_TurnGrain k) Tryz.func49 (by kernel_rfl : Tryz.f49.body = some b49) (by kernel_rfl) (by decide) rfl (by kernel_rfl) trivial (e49 k) (fun h => Bool.noConfusion h)
theorem t49 (k : Nat) (h : TabFn Tryz.prog (TB (K84 k))) : TabFn Tryz.prog (TB (K85 k)) := tc_cons h (by kernel_rfl) (c49 k h) (enter_of Tryz.func49 (by kernel_rfl) (by kernel_rfl))
noncomputable def b21 : Code := Tryz.f21.body.getD .skip
noncomputable def T21 (k : Nat) : Tab := { TB (K85 k) with loop := lookL (L21 k), join := (fun _ => []), np := false }
set_option maxHeartbeats 4000000 in
theorem l21_9 (k n : Nat) (x : HT [.int .i64, .int .i64, .int .i64, .int .i64, .int .i64, .int .i64, .int .i64, .int .i64, .int .i64, .sl (.pair (.int .i64) (.int .i64)), .sl (.pair (.int .i64) (.int .i64)), .sl (.pair .str (.sl (.int .i64))), .sl (.pair .str (.pair (.int .i64) (.int .i64))), .sl (.pair .str (.sl (.int .i64))), .sl (.pair .str (.pair (.int .i64) (.int .i64)))]) : impl_TurnPicture_9 k (n + 1) x = ev (T21 k) (findB (bodies b21) 9) (SF21_9.mk' [.int .i64, .int .i64, .int .i64, .int .i64, .int .i64, .int .i64, .int .i64, .int .i64, .int .i64, .sl (.pair (.int .i64) (.int .i64)), .sl (.pair (.int .i64) (.int .i64)), .sl (.pair .str (.sl (.int .i64))), .sl (.pair .str (.pair (.int .i64) (.int .i64))), .sl (.pair .str (.sl (.int .i64))), .sl (.pair .str (.pair (.int .i64) (.int .i64)))] x) (outA 1 SG21_9 [.int .i64, .int .i64, .int .i64, .int .i64, .int .i64, .sl (.pair (.int .i64) (.int .i64)), .sl (.pair .str (.sl (.int .i64))), .sl (.pair .str (.pair (.int .i64) (.int .i64))), .sl (.pair (.int .i64) (.int .i64)), .sl (.pair .str (.sl (.int .i64))), .sl (.pair .str (.pair (.int .i64) (.int .i64)))] SF21_9 [.int .i64, .int .i64, .int .i64, .int .i64, .int .i64, .int .i64, .int .i64, .int .i64, .int .i64, .sl (.pair (.int .i64) (.int .i64)), .sl (.pair (.int .i64) (.int .i64)), .sl (.pair .str (.sl (.int .i64))), .sl (.pair .str (.pair (.int .i64) (.int .i64))), .sl (.pair .str (.sl (.int .i64))), .sl (.pair .str (.pair (.int .i64) (.int .i64)))] (impl_TurnPicture_9 k n)) := by kernel_rfl
set_option maxHeartbeats 4000000 in
theorem l21_17 (k n : Nat) (x : HT [.int .i64, .int .i64, .int .i64, .int .i64, .int .i64, .int .i64, .int .i64, .sl (.pair (.int .i64) (.int .i64)), .sl (.pair .str (.sl (.int .i64))), .sl (.pair .str (.pair (.int .i64) (.int .i64))), .sl (.pair (.int .i64) (.int .i64)), .sl (.pair .str (.sl (.int .i64))), .sl (.pair .str (.pair (.int .i64) (.int .i64)))]) : impl_TurnPicture_17 k (n + 1) x = ev (T21 k) (findB (bodies b21) 17) (SF21_17.mk' [.int .i64, .int .i64, .int .i64, .int .i64, .int .i64, .int .i64, .int .i64, .sl (.pair (.int .i64) (.int .i64)), .sl (.pair .str (.sl (.int .i64))), .sl (.pair .str (.pair (.int .i64) (.int .i64))), .sl (.pair (.int .i64) (.int .i64)), .sl (.pair .str (.sl (.int .i64))), .sl (.pair .str (.pair (.int .i64) (.int .i64)))] x) (outA 3 SG21_17 [.int .i64, .int .i64, .int .i64, .int .i64, .int .i64, .sl (.pair (.int .i64) (.int .i64)), .sl (.pair .str (.sl (.int .i64))), .sl (.pair .str (.pair (.int .i64) (.int .i64))), .sl (.pair (.int .i64) (.int .i64)), .sl (.pair .str (.sl (.int .i64))), .sl (.pair .str (.pair (.int .i64) (.int .i64)))] SF21_17 [.int .i64, .int .i64, .int .i64, .int .i64, .int .i64, .int .i64, .int .i64, .sl (.pair (.int .i64) (.int .i64)), .sl (.pair .str (.sl (.int .i64))), .sl (.pair .str (.pair (.int .i64) (.int .i64))), .sl (.pair (.int .i64) (.int .i64)), .sl (.pair .str (.sl (.int .i64))), .sl (.pair .str (.pair (.int .i64) (.int .i64)))] (impl_TurnPicture_17 k n)) := by kernel_rfl
set_option maxHeartbeats 4000000 in
theorem l21_23 (k n : Nat) (x : HT [.int .i64, .int .i64, .int .i64, .int .i64, .int .i64, .int .i64, .int .i64, .sl (.pair .str (.pair (.int .i64) (.int .i64))), .sl (.pair (.int .i64) (.int .i64)), .sl (.pair .str (.sl (.int .i64))), .sl (.pair .str (.pair (.int .i64) (.int .i64))), .sl (.pair (.int .i64) (.int .i64)), .sl (.pair .str (.sl (.int .i64)))]) : impl_TurnPicture_23 k (n + 1) x = ev (T21 k) (findB (bodies b21) 23) (SF21_23.mk' [.int .i64, .int .i64, .int .i64, .int .i64, .int .i64, .int .i64, .int .i64, .sl (.pair .str (.pair (.int .i64) (.int .i64))), .sl (.pair (.int .i64) (.int .i64)), .sl (.pair .str (.sl (.int .i64))), .sl (.pair .str (.pair (.int .i64) (.int .i64))), .sl (.pair (.int .i64) (.int .i64)), .sl (.pair .str (.sl (.int .i64)))] x) (outA 5 SG21_23 [.int .i64, .int .i64, .int .i64, .int .i64, .sl (.pair (.int .i64) (.int .i64)), .sl (.pair .str (.sl (.int .i64))), .sl (.pair .str (.pair (.int .i64) (.int .i64))), .sl (.pair (.int .i64) (.int .i64)), .sl (.pair .str (.sl (.int .i64))), .sl (.pair .str (.pair (.int .i64) (.int .i64)))] SF21_23 [.int .i64, .int .i64, .int .i64, .int .i64, .int .i64, .int .i64, .int .i64, .sl (.pair .str (.pair (.int .i64) (.int .i64))), .sl (.pair (.int .i64) (.int .i64)), .sl (.pair .str (.sl (.int .i64))), .sl (.pair .str (.pair (.int .i64) (.int .i64))), .sl (.pair (.int .i64) (.int .i64)), .sl (.pair .str (.sl (.int .i64)))] (impl_TurnPicture_23 k n)) := by kernel_rfl
set_option maxHeartbeats 4000000 in
theorem e21 (k : Nat) (x : HT I21.cs) : impl_TurnPicture k x = I21.body (T21 k) Tryz.f21 b21 x := by kernel_rfl
noncomputable def K86 (k : Nat) : List (Nat × CallI) := (21, ⟨I21, impl_TurnPicture k⟩) :: K85 k
theorem c21 (k : Nat) (h : TabFn Tryz.prog (TB (K85 k))) : CallOK Tryz.prog 21 (I21.call (impl_TurnPicture k)) := fun_ok (T := T21 k) (ls := (L21 k)) mixed (tab_with h _ _ _) I21 (impl_TurnPicture k) Tryz.func21 (by kernel_rfl : Tryz.f21.body = some b21) (by kernel_rfl) (by decide) rfl (by kernel_rfl) ⟨rowA (f := SF21_9) (g := SG21_9) (cs := [.int .i64, .int .i64, .int .i64, .int .i64, .int .i64, .int .i64, .int .i64, .int .i64, .int .i64, .sl (.pair (.int .i64) (.int .i64)), .sl (.pair (.int .i64) (.int .i64)), .sl (.pair .str (.sl (.int .i64))), .sl (.pair .str (.pair (.int .i64) (.int .i64))), .sl (.pair .str (.sl (.int .i64))), .sl (.pair .str (.pair (.int .i64) (.int .i64)))]) (co := [.int .i64, .int .i64, .int .i64, .int .i64, .int .i64, .sl (.pair (.int .i64) (.int .i64)), .sl (.pair .str (.sl (.int .i64))), .sl (.pair .str (.pair (.int .i64) (.int .i64))), .sl (.pair (.int .i64) (.int .i64)), .sl (.pair .str (.sl (.int .i64))), .sl (.pair .str (.pair (.int .i64) (.int .i64)))]) (e := 1) k (impl_TurnPicture_9 k) ⟨by decide, by decide⟩ (fun _ => rfl) (l21_9 k), rowA (f := SF21_17) (g := SG21_17) (cs := [.int .i64, .int .i64, .int .i64, .int .i64, .int .i64, .int .i64, .int .i64, .sl (.pair (.int .i64) (.int .i64)), .sl (.pair .str (.sl (.int .i64))), .sl (.pair .str (.pair (.int .i64) (.int .i64))), .sl (.pair (.int .i64) (.int .i64)), .sl (.pair .str (.sl (.int .i64))), .sl (.pair .str (.pair (.int .i64) (.int .i64)))]) (co := [.int .i64, .int .i64, .int .i64, .int .i64, .int .i64, .sl (.pair (.int .i64) (.int .i64)), .sl (.pair .str (.sl (.int .i64))), .sl (.pair .str (.pair (.int .i64) (.int .i64))), .sl (.pair (.int .i64) (.int .i64)), .sl (.pair .str (.sl (.int .i64))), .sl (.pair .str (.pair (.int .i64) (.int .i64)))]) (e := 3) k (impl_TurnPicture_17 k) ⟨by decide, by decide⟩ (fun _ => rfl) (l21_17 k), rowA (f := SF21_23) (g := SG21_23) (cs := [.int .i64, .int .i64, .int .i64, .int .i64, .int .i64, .int .i64, .int .i64, .sl (.pair .str (.pair (.int .i64) (.int .i64))), .sl (.pair (.int .i64) (.int .i64)), .sl (.pair .str (.sl (.int .i64))), .sl (.pair .str (.pair (.int .i64) (.int .i64))), .sl (.pair (.int .i64) (.int .i64)), .sl (.pair .str (.sl (.int .i64)))]) (co := [.int .i64, .int .i64, .int .i64, .int .i64, .sl (.pair (.int .i64) (.int .i64)), .sl (.pair .str (.sl (.int .i64))), .sl (.pair .str (.pair (.int .i64) (.int .i64))), .sl (.pair (.int .i64) (.int .i64)), .sl (.pair .str (.sl (.int .i64))), .sl (.pair .str (.pair (.int .i64) (.int .i64)))]) (e := 5) k (impl_TurnPicture_23 k) ⟨by decide, by decide⟩ (fun _ => rfl) (l21_23 k), trivial⟩ (e21 k) (fun h => Bool.noConfusion h)
theorem t21 (k : Nat) (h : TabFn Tryz.prog (TB (K85 k))) : TabFn Tryz.prog (TB (K86 k)) := tc_cons h (by kernel_rfl) (c21 k h) (enter_of Tryz.func21 (by kernel_rfl) (by kernel_rfl))
noncomputable def b22 : Code := Tryz.f22.body.getD .skip
noncomputable def T22 (k : Nat) : Tab := { TB (K86 k) with loop := lookL [], join := (fun _ => []), np := false }
theorem e22 (k : Nat) (x : HT I22.cs) : impl_facePolygon k x = I22.body (T22 k) Tryz.f22 b22 x := by kernel_rfl
noncomputable def K87 (k : Nat) : List (Nat × CallI) := (22, ⟨I22, impl_facePolygon k⟩) :: K86 k
theorem c22 (k : Nat) (h : TabFn Tryz.prog (TB (K86 k))) : CallOK Tryz.prog 22 (I22.call (impl_facePolygon k)) := fun_ok (T := T22 k) (ls := []) mixed (tab_with h _ _ _) I22 (impl_facePolygon k) Tryz.func22 (by kernel_rfl : Tryz.f22.body = some b22) (by kernel_rfl) (by decide) rfl (by kernel_rfl) trivial (e22 k) (fun h => Bool.noConfusion h)
theorem t22 (k : Nat) (h : TabFn Tryz.prog (TB (K86 k))) : TabFn Tryz.prog (TB (K87 k)) := tc_cons h (by kernel_rfl) (c22 k h) (enter_of Tryz.func22 (by kernel_rfl) (by kernel_rfl))
noncomputable def b52 : Code := Tryz.f52.body.getD .skip
noncomputable def T52 (k : Nat) : Tab := { TB (K87 k) with loop := lookL [], join := (fun _ => []), np := false }
theorem e52 (k : Nat) (x : HT I52.cs) : impl_startOf k x = I52.body (T52 k) Tryz.f52 b52 x := by kernel_rfl
noncomputable def K88 (k : Nat) : List (Nat × CallI) := (52, ⟨I52, impl_startOf k⟩) :: K87 k
theorem c52 (k : Nat) (h : TabFn Tryz.prog (TB (K87 k))) : CallOK Tryz.prog 52 (I52.call (impl_startOf k)) := fun_ok (T := T52 k) (ls := []) mixed (tab_with h _ _ _) I52 (impl_startOf k) Tryz.func52 (by kernel_rfl : Tryz.f52.body = some b52) (by kernel_rfl) (by decide) rfl (by kernel_rfl) trivial (e52 k) (fun h => Bool.noConfusion h)
theorem t52 (k : Nat) (h : TabFn Tryz.prog (TB (K87 k))) : TabFn Tryz.prog (TB (K88 k)) := tc_cons h (by kernel_rfl) (c52 k h) (enter_of Tryz.func52 (by kernel_rfl) (by kernel_rfl))
noncomputable def b23 : Code := Tryz.f23.body.getD .skip
noncomputable def T23 (k : Nat) : Tab := { TB (K88 k) with loop := lookL (L23 k), join := J23, np := false }
theorem l23_7 (k n : Nat) (x : HT [.sl (.pair (.int .i64) (.int .i64)), .sl (.pair (.int .i64) (.int .i64)), .int .i64, .int .i64, .int .i64]) : impl_SamePolygon_7 k (n + 1) x = ev (T23 k) (findB (bodies b23) 7) (SF23_7.mk' [.sl (.pair (.int .i64) (.int .i64)), .sl (.pair (.int .i64) (.int .i64)), .int .i64, .int .i64, .int .i64] x) (outB 0 SG23_7 [] SH23_7 [.bool] SF23_7 [.sl (.pair (.int .i64) (.int .i64)), .sl (.pair (.int .i64) (.int .i64)), .int .i64, .int .i64, .int .i64] (impl_SamePolygon_7 k n)) := by kernel_rfl
theorem e23 (k : Nat) (x : HT I23.cs) : impl_SamePolygon k x = I23.body (T23 k) Tryz.f23 b23 x := by kernel_rfl
noncomputable def K89 (k : Nat) : List (Nat × CallI) := (23, ⟨I23, impl_SamePolygon k⟩) :: K88 k
theorem c23 (k : Nat) (h : TabFn Tryz.prog (TB (K88 k))) : CallOK Tryz.prog 23 (I23.call (impl_SamePolygon k)) := fun_ok (T := T23 k) (ls := (L23 k)) mixed (tab_with h _ _ _) I23 (impl_SamePolygon k) Tryz.func23 (by kernel_rfl : Tryz.f23.body = some b23) (by kernel_rfl) (by decide) rfl (by kernel_rfl) ⟨rowB (f := SF23_7) (g := SG23_7) (h := SH23_7) (cs := [.sl (.pair (.int .i64) (.int .i64)), .sl (.pair (.int .i64) (.int .i64)), .int .i64, .int .i64, .int .i64]) (co := []) (cr := [.bool]) (e := 0) k (impl_SamePolygon_7 k) ⟨by decide, by decide, by decide⟩ (fun _ => rfl) (l23_7 k), trivial⟩ (e23 k) (fun h => Bool.noConfusion h)
theorem t23 (k : Nat) (h : TabFn Tryz.prog (TB (K88 k))) : TabFn Tryz.prog (TB (K89 k)) := tc_cons h (by kernel_rfl) (c23 k h) (enter_of Tryz.func23 (by kernel_rfl) (by kernel_rfl))
noncomputable def b7 : Code := Tryz.f7.body.getD .skip
noncomputable def T7 (k : Nat) : Tab := { TB (K89 k) with loop := lookL (L7 k), join := J7, np := false }
theorem l7_15 (k n : Nat) (x : HT [.int .i64, .bool, .int .i64, .int .i64, .int .i64, .int .i64, .int .i64, .sl (.pair (.int .i64) (.int .i64)), .sl (.pair .str (.sl (.int .i64))), .sl (.pair .str (.pair (.int .i64) (.int .i64))), .sl (.int .i64), .int .i64, .int .i64, .sl (.pair (.int .i64) (.int .i64)), .sl (.pair (.int .i64) (.int .i64)), .sl (.pair .str (.sl (.int .i64))), .sl (.pair .str (.pair (.int .i64) (.int .i64)))]) : impl_PictureTurns_15 k (n + 1) x = ev (T7 k) (findB (bodies b7) 15) (SF7_15.mk' [.int .i64, .bool, .int .i64, .int .i64, .int .i64, .int .i64, .int .i64, .sl (.pair (.int .i64) (.int .i64)), .sl (.pair .str (.sl (.int .i64))), .sl (.pair .str (.pair (.int .i64) (.int .i64))), .sl (.int .i64), .int .i64, .int .i64, .sl (.pair (.int .i64) (.int .i64)), .sl (.pair (.int .i64) (.int .i64)), .sl (.pair .str (.sl (.int .i64))), .sl (.pair .str (.pair (.int .i64) (.int .i64)))] x) (outA 4 SG7_15 [.int .i64, .bool, .int .i64, .int .i64, .int .i64, .int .i64, .sl (.pair (.int .i64) (.int .i64)), .sl (.pair .str (.sl (.int .i64))), .sl (.pair .str (.pair (.int .i64) (.int .i64))), .sl (.int .i64), .int .i64, .int .i64, .sl (.pair (.int .i64) (.int .i64)), .sl (.pair .str (.sl (.int .i64))), .sl (.pair .str (.pair (.int .i64) (.int .i64)))] SF7_15 [.int .i64, .bool, .int .i64, .int .i64, .int .i64, .int .i64, .int .i64, .sl (.pair (.int .i64) (.int .i64)), .sl (.pair .str (.sl (.int .i64))), .sl (.pair .str (.pair (.int .i64) (.int .i64))), .sl (.int .i64), .int .i64, .int .i64, .sl (.pair (.int .i64) (.int .i64)), .sl (.pair (.int .i64) (.int .i64)), .sl (.pair .str (.sl (.int .i64))), .sl (.pair .str (.pair (.int .i64) (.int .i64)))] (impl_PictureTurns_15 k n)) := by kernel_rfl
theorem l7_10 (k n : Nat) (x : HT [.int .i64, .bool, .int .i64, .int .i64, .int .i64, .int .i64, .sl (.pair (.int .i64) (.int .i64)), .sl (.pair .str (.sl (.int .i64))), .sl (.pair .str (.pair (.int .i64) (.int .i64))), .sl (.int .i64), .int .i64, .int .i64, .sl (.pair (.int .i64) (.int .i64)), .sl (.pair .str (.sl (.int .i64))), .sl (.pair .str (.pair (.int .i64) (.int .i64)))]) : impl_PictureTurns_10 k (n + 1) x = ev (T7 k) (findB (bodies b7) 10) (SF7_10.mk' [.int .i64, .bool, .int .i64, .int .i64, .int .i64, .int .i64, .sl (.pair (.int .i64) (.int .i64)), .sl (.pair .str (.sl (.int .i64))), .sl (.pair .str (.pair (.int .i64) (.int .i64))), .sl (.int .i64), .int .i64, .int .i64, .sl (.pair (.int .i64) (.int .i64)), .sl (.pair .str (.sl (.int .i64))), .sl (.pair .str (.pair (.int .i64) (.int .i64)))] x) (outA 2 SG7_10 [.int .i64, .bool, .int .i64, .int .i64, .int .i64, .sl (.pair (.int .i64) (.int .i64)), .sl (.pair .str (.sl (.int .i64))), .sl (.pair .str (.pair (.int .i64) (.int .i64))), .sl (.int .i64)] SF7_10 [.int .i64, .bool, .int .i64, .int .i64, .int .i64, .int .i64, .sl (.pair (.int .i64) (.int .i64)), .sl (.pair .str (.sl (.int .i64))), .sl (.pair .str (.pair (.int .i64) (.int .i64))), .sl (.int .i64), .int .i64, .int .i64, .sl (.pair (.int .i64) (.int .i64)), .sl (.pair .str (.sl (.int .i64))), .sl (.pair .str (.pair (.int .i64) (.int .i64)))] (impl_PictureTurns_10 k n)) := by kernel_rfl
theorem l7_5 (k n : Nat) (x : HT [.int .i64, .int .i64, .int .i64, .sl (.pair (.int .i64) (.int .i64)), .sl (.pair .str (.sl (.int .i64))), .sl (.pair .str (.pair (.int .i64) (.int .i64))), .sl (.int .i64)]) : impl_PictureTurns_5 k (n + 1) x = ev (T7 k) (findB (bodies b7) 5) (SF7_5.mk' [.int .i64, .int .i64, .int .i64, .sl (.pair (.int .i64) (.int .i64)), .sl (.pair .str (.sl (.int .i64))), .sl (.pair .str (.pair (.int .i64) (.int .i64))), .sl (.int .i64)] x) (outA 0 SG7_5 [.sl (.int .i64)] SF7_5 [.int .i64, .int .i64, .int .i64, .sl (.pair (.int .i64) (.int .i64)), .sl (.pair .str (.sl (.int .i64))), .sl (.pair .str (.pair (.int .i64) (.int .i64))), .sl (.int .i64)] (impl_PictureTurns_5 k n)) := by kernel_rfl
theorem e7 (k : Nat) (x : HT I7.cs) : impl_PictureTurns k x = I7.body (T7 k) Tryz.f7 b7 x := by kernel_rfl
noncomputable def K90 (k : Nat) : List (Nat × CallI) := (7, ⟨I7, impl_PictureTurns k⟩) :: K89 k
theorem c7 (k : Nat) (h : TabFn Tryz.prog (TB (K89 k))) : CallOK Tryz.prog 7 (I7.call (impl_PictureTurns k)) := fun_ok (T := T7 k) (ls := (L7 k)) mixed (tab_with h _ _ _) I7 (impl_PictureTurns k) Tryz.func7 (by kernel_rfl : Tryz.f7.body = some b7) (by kernel_rfl) (by decide) rfl (by kernel_rfl) ⟨rowA (f := SF7_15) (g := SG7_15) (cs := [.int .i64, .bool, .int .i64, .int .i64, .int .i64, .int .i64, .int .i64, .sl (.pair (.int .i64) (.int .i64)), .sl (.pair .str (.sl (.int .i64))), .sl (.pair .str (.pair (.int .i64) (.int .i64))), .sl (.int .i64), .int .i64, .int .i64, .sl (.pair (.int .i64) (.int .i64)), .sl (.pair (.int .i64) (.int .i64)), .sl (.pair .str (.sl (.int .i64))), .sl (.pair .str (.pair (.int .i64) (.int .i64)))]) (co := [.int .i64, .bool, .int .i64, .int .i64, .int .i64, .int .i64, .sl (.pair (.int .i64) (.int .i64)), .sl (.pair .str (.sl (.int .i64))), .sl (.pair .str (.pair (.int .i64) (.int .i64))), .sl (.int .i64), .int .i64, .int .i64, .sl (.pair (.int .i64) (.int .i64)), .sl (.pair .str (.sl (.int .i64))), .sl (.pair .str (.pair (.int .i64) (.int .i64)))]) (e := 4) k (impl_PictureTurns_15 k) ⟨by decide, by decide⟩ (fun _ => rfl) (l7_15 k), rowA (f := SF7_10) (g := SG7_10) (cs := [.int .i64, .bool, .int .i64, .int .i64, .int .i64, .int .i64, .sl (.pair (.int .i64) (.int .i64)), .sl (.pair .str (.sl (.int .i64))), .sl (.pair .str (.pair (.int .i64) (.int .i64))), .sl (.int .i64), .int .i64, .int .i64, .sl (.pair (.int .i64) (.int .i64)), .sl (.pair .str (.sl (.int .i64))), .sl (.pair .str (.pair (.int .i64) (.int .i64)))]) (co := [.int .i64, .bool, .int .i64, .int .i64, .int .i64, .sl (.pair (.int .i64) (.int .i64)), .sl (.pair .str (.sl (.int .i64))), .sl (.pair .str (.pair (.int .i64) (.int .i64))), .sl (.int .i64)]) (e := 2) k (impl_PictureTurns_10 k) ⟨by decide, by decide⟩ (fun _ => rfl) (l7_10 k), rowA (f := SF7_5) (g := SG7_5) (cs := [.int .i64, .int .i64, .int .i64, .sl (.pair (.int .i64) (.int .i64)), .sl (.pair .str (.sl (.int .i64))), .sl (.pair .str (.pair (.int .i64) (.int .i64))), .sl (.int .i64)]) (co := [.sl (.int .i64)]) (e := 0) k (impl_PictureTurns_5 k) ⟨by decide, by decide⟩ (fun _ => rfl) (l7_5 k), trivial⟩ (e7 k) (fun h => Bool.noConfusion h)
theorem t7 (k : Nat) (h : TabFn Tryz.prog (TB (K89 k))) : TabFn Tryz.prog (TB (K90 k)) := tc_cons h (by kernel_rfl) (c7 k h) (enter_of Tryz.func7 (by kernel_rfl) (by kernel_rfl))
noncomputable def b8 : Code := Tryz.f8.body.getD .skip
noncomputable def T8 (k : Nat) : Tab := { TB (K90 k) with loop := lookL (L8 k), join := (fun _ => []), np := false }
theorem l8_4 (k n : Nat) (x : HT [.sl (.int .i64), .sl (.int .i64), .int .i64]) : laws_eqInt64S_4 k (n + 1) x = ev (T8 k) (findB (bodies b8) 4) (SF8_4.mk' [.sl (.int .i64), .sl (.int .i64), .int .i64] x) (outB 0 SG8_4 [] SH8_4 [.bool] SF8_4 [.sl (.int .i64), .sl (.int .i64), .int .i64] (laws_eqInt64S_4 k n)) := by kernel_rfl
theorem e8 (k : Nat) (x : HT I8.cs) : laws_eqInt64S k x = I8.body (T8 k) Tryz.f8 b8 x := by kernel_rfl
noncomputable def K91 (k : Nat) : List (Nat × CallI) := (8, ⟨I8, laws_eqInt64S k⟩) :: K90 k
theorem c8 (k : Nat) (h : TabFn Tryz.prog (TB (K90 k))) : CallOK Tryz.prog 8 (I8.call (laws_eqInt64S k)) := fun_ok (T := T8 k) (ls := (L8 k)) mixed (tab_with h _ _ _) I8 (laws_eqInt64S k) Tryz.func8 (by kernel_rfl : Tryz.f8.body = some b8) (by kernel_rfl) (by decide) rfl (by kernel_rfl) ⟨rowB (f := SF8_4) (g := SG8_4) (h := SH8_4) (cs := [.sl (.int .i64), .sl (.int .i64), .int .i64]) (co := []) (cr := [.bool]) (e := 0) k (laws_eqInt64S_4 k) ⟨by decide, by decide, by decide⟩ (fun _ => rfl) (l8_4 k), trivial⟩ (e8 k) (fun h => Bool.noConfusion h)
theorem t8 (k : Nat) (h : TabFn Tryz.prog (TB (K90 k))) : TabFn Tryz.prog (TB (K91 k)) := tc_cons h (by kernel_rfl) (c8 k h) (enter_of Tryz.func8 (by kernel_rfl) (by kernel_rfl))
noncomputable def b82 : Code := Tryz.f82.body.getD .skip
noncomputable def T82 (k : Nat) : Tab := { TB (K91 k) with loop := lookL [], join := (fun _ => []), np := false }
theorem e82 (k : Nat) (x : HT I82.cs) : laws_eqPoint k x = I82.body (T82 k) Tryz.f82 b82 x := by kernel_rfl
noncomputable def K92 (k : Nat) : List (Nat × CallI) := (82, ⟨I82, laws_eqPoint k⟩) :: K91 k
theorem c82 (k : Nat) (h : TabFn Tryz.prog (TB (K91 k))) : CallOK Tryz.prog 82 (I82.call (laws_eqPoint k)) := fun_ok (T := T82 k) (ls := []) mixed (tab_with h _ _ _) I82 (laws_eqPoint k) Tryz.func82 (by kernel_rfl : Tryz.f82.body = some b82) (by kernel_rfl) (by decide) rfl (by kernel_rfl) trivial (e82 k) (fun h => Bool.noConfusion h)
theorem t82 (k : Nat) (h : TabFn Tryz.prog (TB (K91 k))) : TabFn Tryz.prog (TB (K92 k)) := tc_cons h (by kernel_rfl) (c82 k h) (enter_of Tryz.func82 (by kernel_rfl) (by kernel_rfl))
noncomputable def b53 : Code := Tryz.f53.body.getD .skip
noncomputable def T53 (k : Nat) : Tab := { TB (K92 k) with loop := lookL (L53 k), join := (fun _ => []), np := false }
theorem l53_4 (k n : Nat) (x : HT [.sl (.pair (.int .i64) (.int .i64)), .sl (.pair (.int .i64) (.int .i64)), .int .i64]) : laws_eqPointS_4 k (n + 1) x = ev (T53 k) (findB (bodies b53) 4) (SF53_4.mk' [.sl (.pair (.int .i64) (.int .i64)), .sl (.pair (.int .i64) (.int .i64)), .int .i64] x) (outB 0 SG53_4 [] SH53_4 [.bool] SF53_4 [.sl (.pair (.int .i64) (.int .i64)), .sl (.pair (.int .i64) (.int .i64)), .int .i64] (laws_eqPointS_4 k n)) := by kernel_rfl
theorem e53 (k : Nat) (x : HT I53.cs) : laws_eqPointS k x = I53.body (T53 k) Tryz.f53 b53 x := by kernel_rfl
noncomputable def K93 (k : Nat) : List (Nat × CallI) := (53, ⟨I53, laws_eqPointS k⟩) :: K92 k
theorem c53 (k : Nat) (h : TabFn Tryz.prog (TB (K92 k))) : CallOK Tryz.prog 53 (I53.call (laws_eqPointS k)) := fun_ok (T := T53 k) (ls := (L53 k)) mixed (tab_with h _ _ _) I53 (laws_eqPointS k) Tryz.func53 (by kernel_rfl : Tryz.f53.body = some b53) (by kernel_rfl) (by decide) rfl (by kernel_rfl) ⟨rowB (f := SF53_4) (g := SG53_4) (h := SH53_4) (cs := [.sl (.pair (.int .i64) (.int .i64)), .sl (.pair (.int .i64) (.int .i64)), .int .i64]) (co := []) (cr := [.bool]) (e := 0) k (laws_eqPointS_4 k) ⟨by decide, by decide, by decide⟩ (fun _ => rfl) (l53_4 k), trivial⟩ (e53 k) (fun h => Bool.noConfusion h)
theorem t53 (k : Nat) (h : TabFn Tryz.prog (TB (K92 k))) : TabFn Tryz.prog (TB (K93 k)) := tc_cons h (by kernel_rfl) (c53 k h) (enter_of Tryz.func53 (by kernel_rfl) (by kernel_rfl))
noncomputable def b83 : Code := Tryz.f83.body.getD .skip
noncomputable def T83 (k : Nat) : Tab := { TB (K93 k) with loop := lookL [], join := (fun _ => []), np := false }
theorem e83 (k : Nat) (x : HT I83.cs) : laws_eqFace k x = I83.body (T83 k) Tryz.f83 b83 x := by kernel_rfl
noncomputable def K94 (k : Nat) : List (Nat × CallI) := (83, ⟨I83, laws_eqFace k⟩) :: K93 k
theorem c83 (k : Nat) (h : TabFn Tryz.prog (TB (K93 k))) : CallOK Tryz.prog 83 (I83.call (laws_eqFace k)) := fun_ok (T := T83 k) (ls := []) mixed (tab_with h _ _ _) I83 (laws_eqFace k) Tryz.func83 (by kernel_rfl : Tryz.f83.body = some b83) (by kernel_rfl) (by decide) rfl (by kernel_rfl) trivial (e83 k) (fun h => Bool.noConfusion h)
theorem t83 (k : Nat) (h : TabFn Tryz.prog (TB (K93 k))) : TabFn Tryz.prog (TB (K94 k)) := tc_cons h (by kernel_rfl) (c83 k h) (enter_of Tryz.func83 (by kernel_rfl) (by kernel_rfl))
noncomputable def b54 : Code := Tryz.f54.body.getD .skip
noncomputable def T54 (k : Nat) : Tab := { TB (K94 k) with loop := lookL (L54 k), join := (fun _ => []), np := false }
theorem l54_4 (k n : Nat) (x : HT [.sl (.pair .str (.sl (.int .i64))), .sl (.pair .str (.sl (.int .i64))), .int .i64]) : laws_eqFaceS_4 k (n + 1) x = ev (T54 k) (findB (bodies b54) 4) (SF54_4.mk' [.sl (.pair .str (.sl (.int .i64))), .sl (.pair .str (.sl (.int .i64))), .int .i64] x) (outB 0 SG54_4 [] SH54_4 [.bool] SF54_4 [.sl (.pair .str (.sl (.int .i64))), .sl (.pair .str (.sl (.int .i64))), .int .i64] (laws_eqFaceS_4 k n)) := by kernel_rfl
theorem e54 (k : Nat) (x : HT I54.cs) : laws_eqFaceS k x = I54.body (T54 k) Tryz.f54 b54 x := by kernel_rfl
noncomputable def K95 (k : Nat) : List (Nat × CallI) := (54, ⟨I54, laws_eqFaceS k⟩) :: K94 k
theorem c54 (k : Nat) (h : TabFn Tryz.prog (TB (K94 k))) : CallOK Tryz.prog 54 (I54.call (laws_eqFaceS k)) := fun_ok (T := T54 k) (ls := (L54 k)) mixed (tab_with h _ _ _) I54 (laws_eqFaceS k) Tryz.func54 (by kernel_rfl : Tryz.f54.body = some b54) (by kernel_rfl) (by decide) rfl (by kernel_rfl) ⟨rowB (f := SF54_4) (g := SG54_4) (h := SH54_4) (cs := [.sl (.pair .str (.sl (.int .i64))), .sl (.pair .str (.sl (.int .i64))), .int .i64]) (co := []) (cr := [.bool]) (e := 0) k (laws_eqFaceS_4 k) ⟨by decide, by decide, by decide⟩ (fun _ => rfl) (l54_4 k), trivial⟩ (e54 k) (fun h => Bool.noConfusion h)
theorem t54 (k : Nat) (h : TabFn Tryz.prog (TB (K94 k))) : TabFn Tryz.prog (TB (K95 k)) := tc_cons h (by kernel_rfl) (c54 k h) (enter_of Tryz.func54 (by kernel_rfl) (by kernel_rfl))
noncomputable def b24 : Code := Tryz.f24.body.getD .skip
noncomputable def T24 (k : Nat) : Tab := { TB (K95 k) with loop := lookL [], join := (fun _ => []), np := false }
theorem e24 (k : Nat) (x : HT I24.cs) : laws_eqDrawing k x = I24.body (T24 k) Tryz.f24 b24 x := by kernel_rfl
noncomputable def K96 (k : Nat) : List (Nat × CallI) := (24, ⟨I24, laws_eqDrawing k⟩) :: K95 k
theorem c24 (k : Nat) (h : TabFn Tryz.prog (TB (K95 k))) : CallOK Tryz.prog 24 (I24.call (laws_eqDrawing k)) := fun_ok (T := T24 k) (ls := []) mixed (tab_with h _ _ _) I24 (laws_eqDrawing k) Tryz.func24 (by kernel_rfl : Tryz.f24.body = some b24) (by kernel_rfl) (by decide) rfl (by kernel_rfl) trivial (e24 k) (fun h => Bool.noConfusion h)
theorem t24 (k : Nat) (h : TabFn Tryz.prog (TB (K95 k))) : TabFn Tryz.prog (TB (K96 k)) := tc_cons h (by kernel_rfl) (c24 k h) (enter_of Tryz.func24 (by kernel_rfl) (by kernel_rfl))
noncomputable def b55 : Code := Tryz.f55.body.getD .skip
noncomputable def T55 (k : Nat) : Tab := { TB (K96 k) with loop := lookL [], join := (fun _ => []), np := false }
theorem e55 (k : Nat) (x : HT I55.cs) : laws_eqVeneer k x = I55.body (T55 k) Tryz.f55 b55 x := by kernel_rfl
noncomputable def K97 (k : Nat) : List (Nat × CallI) := (55, ⟨I55, laws_eqVeneer k⟩) :: K96 k
theorem c55 (k : Nat) (h : TabFn Tryz.prog (TB (K96 k))) : CallOK Tryz.prog 55 (I55.call (laws_eqVeneer k)) := fun_ok (T := T55 k) (ls := []) mixed (tab_with h _ _ _) I55 (laws_eqVeneer k) Tryz.func55 (by kernel_rfl : Tryz.f55.body = some b55) (by kernel_rfl) (by decide) rfl (by kernel_rfl) trivial (e55 k) (fun h => Bool.noConfusion h)
theorem t55 (k : Nat) (h : TabFn Tryz.prog (TB (K96 k))) : TabFn Tryz.prog (TB (K97 k)) := tc_cons h (by kernel_rfl) (c55 k h) (enter_of Tryz.func55 (by kernel_rfl) (by kernel_rfl))
noncomputable def b25 : Code := Tryz.f25.body.getD .skip
noncomputable def T25 (k : Nat) : Tab := { TB (K97 k) with loop := lookL (L25 k), join := (fun _ => []), np := false }
theorem l25_4 (k n : Nat) (x : HT [.sl (.pair .str (.pair (.int .i64) (.int .i64))), .sl (.pair .str (.pair (.int .i64) (.int .i64))), .int .i64]) : laws_eqVeneerS_4 k (n + 1) x = ev (T25 k) (findB (bodies b25) 4) (SF25_4.mk' [.sl (.pair .str (.pair (.int .i64) (.int .i64))), .sl (.pair .str (.pair (.int .i64) (.int .i64))), .int .i64] x) (outB 0 SG25_4 [] SH25_4 [.bool] SF25_4 [.sl (.pair .str (.pair (.int .i64) (.int .i64))), .sl (.pair .str (.pair (.int .i64) (.int .i64))), .int .i64] (laws_eqVeneerS_4 k n)) := by kernel_rfl
theorem e25 (k : Nat) (x : HT I25.cs) : laws_eqVeneerS k x = I25.body (T25 k) Tryz.f25 b25 x := by kernel_rfl
noncomputable def K98 (k : Nat) : List (Nat × CallI) := (25, ⟨I25, laws_eqVeneerS k⟩) :: K97 k
theorem c25 (k : Nat) (h : TabFn Tryz.prog (TB (K97 k))) : CallOK Tryz.prog 25 (I25.call (laws_eqVeneerS k)) := fun_ok (T := T25 k) (ls := (L25 k)) mixed (tab_with h _ _ _) I25 (laws_eqVeneerS k) Tryz.func25 (by kernel_rfl : Tryz.f25.body = some b25) (by kernel_rfl) (by decide) rfl (by kernel_rfl) ⟨rowB (f := SF25_4) (g := SG25_4) (h := SH25_4) (cs := [.sl (.pair .str (.pair (.int .i64) (.int .i64))), .sl (.pair .str (.pair (.int .i64) (.int .i64))), .int .i64]) (co := []) (cr := [.bool]) (e := 0) k (laws_eqVeneerS_4 k) ⟨by decide, by decide, by decide⟩ (fun _ => rfl) (l25_4 k), trivial⟩ (e25 k) (fun h => Bool.noConfusion h)
theorem t25 (k : Nat) (h : TabFn Tryz.prog (TB (K97 k))) : TabFn Tryz.prog (TB (K98 k)) := tc_cons h (by kernel_rfl) (c25 k h) (enter_of Tryz.func25 (by kernel_rfl) (by kernel_rfl))
noncomputable def b9 : Code := Tryz.f9.body.getD .skip
noncomputable def T9 (k : Nat) : Tab := { TB (K98 k) with loop := lookL [], join := (fun _ => []), np := false }
theorem e9 (k : Nat) (x : HT I9.cs) : laws_eqPicture k x = I9.body (T9 k) Tryz.f9 b9 x := by kernel_rfl
noncomputable def K99 (k : Nat) : List (Nat × CallI) := (9, ⟨I9, laws_eqPicture k⟩) :: K98 k
theorem c9 (k : Nat) (h : TabFn Tryz.prog (TB (K98 k))) : CallOK Tryz.prog 9 (I9.call (laws_eqPicture k)) := fun_ok (T := T9 k) (ls := []) mixed (tab_with h _ _ _) I9 (laws_eqPicture k) Tryz.func9 (by kernel_rfl : Tryz.f9.body = some b9) (by kernel_rfl) (by decide) rfl (by kernel_rfl) trivial (e9 k) (fun h => Bool.noConfusion h)
theorem t9 (k : Nat) (h : TabFn Tryz.prog (TB (K98 k))) : TabFn Tryz.prog (TB (K99 k)) := tc_cons h (by kernel_rfl) (c9 k h) (enter_of Tryz.func9 (by kernel_rfl) (by kernel_rfl))
noncomputable def b56 : Code := Tryz.f56.body.getD .skip
noncomputable def T56 (k : Nat) : Tab := { TB (K99 k) with loop := lookL (L56 k), join := (fun _ => []), np := false }
theorem l56_2 (k n : Nat) (x : HT [.int .i64, .int .i64, .sl (.pair (.int .i64) (.int .i64))]) : laws_markPointS_2 k (n + 1) x = ev (T56 k) (findB (bodies b56) 2) (SF56_2.mk' [.int .i64, .int .i64, .sl (.pair (.int .i64) (.int .i64))] x) (outA 0 SG56_2 [.int .i64, .sl (.pair (.int .i64) (.int .i64))] SF56_2 [.int .i64, .int .i64, .sl (.pair (.int .i64) (.int .i64))] (laws_markPointS_2 k n)) := by kernel_rfl
theorem e56 (k : Nat) (x : HT I56.cs) : laws_markPointS k x = I56.body (T56 k) Tryz.f56 b56 x := by kernel_rfl
noncomputable def K100 (k : Nat) : List (Nat × CallI) := (56, ⟨I56, laws_markPointS k⟩) :: K99 k
theorem c56 (k : Nat) (h : TabFn Tryz.prog (TB (K99 k))) : CallOK Tryz.prog 56 (I56.call (laws_markPointS k)) := fun_ok (T := T56 k) (ls := (L56 k)) mixed (tab_with h _ _ _) I56 (laws_markPointS k) Tryz.func56 (by kernel_rfl : Tryz.f56.body = some b56) (by kernel_rfl) (by decide) rfl (by kernel_rfl) ⟨rowA (f := SF56_2) (g := SG56_2) (cs := [.int .i64, .int .i64, .sl (.pair (.int .i64) (.int .i64))]) (co := [.int .i64, .sl (.pair (.int .i64) (.int .i64))]) (e := 0) k (laws_markPointS_2 k) ⟨by decide, by decide⟩ (fun _ => rfl) (l56_2 k), trivial⟩ (e56 k) (fun h => Bool.noConfusion h)
theorem t56 (k : Nat) (h : TabFn Tryz.prog (TB (K99 k))) : TabFn Tryz.prog (TB (K100 k)) := tc_cons h (by kernel_rfl) (c56 k h) (enter_of Tryz.func56 (by kernel_rfl) (by kernel_rfl))
noncomputable def b11 : Code := Tryz.f11.body.getD .skip
noncomputable def T11 (k : Nat) : Tab := { TB (K100 k) with loop := lookL (L11 k), join := (fun _ => []), np := false }
theorem l11_2 (k n : Nat) (x : HT [.int .i64, .int .i64, .sl (.int .i64)]) : laws_markInt64S_2 k (n + 1) x = ev (T11 k) (findB (bodies b11) 2) (SF11_2.mk' [.int .i64, .int .i64, .sl (.int .i64)] x) (outA 0 SG11_2 [.int .i64, .sl (.int .i64)] SF11_2 [.int .i64, .int .i64, .sl (.int .i64)] (laws_markInt64S_2 k n)) := by kernel_rfl
theorem e11 (k : Nat) (x : HT I11.cs) : laws_markInt64S k x = I11.body (T11 k) Tryz.f11 b11 x := by kernel_rfl
noncomputable def K101 (k : Nat) : List (Nat × CallI) := (11, ⟨I11, laws_markInt64S k⟩) :: K100 k
theorem c11 (k : Nat) (h : TabFn Tryz.prog (TB (K100 k))) : CallOK Tryz.prog 11 (I11.call (laws_markInt64S k)) := fun_ok (T := T11 k) (ls := (L11 k)) mixed (tab_with h _ _ _) I11 (laws_markInt64S k) Tryz.func11 (by kernel_rfl : Tryz.f11.body = some b11) (by kernel_rfl) (by decide) rfl (by kernel_rfl) ⟨rowA (f := SF11_2) (g := SG11_2) (cs := [.int .i64, .int .i64, .sl (.int .i64)]) (co := [.int .i64, .sl (.int .i64)]) (e := 0) k (laws_markInt64S_2 k) ⟨by decide, by decide⟩ (fun _ => rfl) (l11_2 k), trivial⟩ (e11 k) (fun h => Bool.noConfusion h)
theorem t11 (k : Nat) (h : TabFn Tryz.prog (TB (K100 k))) : TabFn Tryz.prog (TB (K101 k)) := tc_cons h (by kernel_rfl) (c11 k h) (enter_of Tryz.func11 (by kernel_rfl) (by kernel_rfl))
noncomputable def b58 : Code := Tryz.f58.body.getD .skip
noncomputable def T58 (k : Nat) : Tab := { TB (K101 k) with loop := lookL (L58 k), join := (fun _ => []), np := false }
theorem l58_4 (k n : Nat) (x : HT [.int .i64, .str]) : laws_markText_4 k (n + 1) x = ev (T58 k) (findB (bodies b58) 4) (SF58_4.mk' [.int .i64, .str] x) (outA 0 SG58_4 [.str] SF58_4 [.int .i64, .str] (laws_markText_4 k n)) := by kernel_rfl
theorem e58 (k : Nat) (x : HT I58.cs) : laws_markText k x = I58.body (T58 k) Tryz.f58 b58 x := by kernel_rfl
noncomputable def K102 (k : Nat) : List (Nat × CallI) := (58, ⟨I58, laws_markText k⟩) :: K101 k
theorem c58 (k : Nat) (h : TabFn Tryz.prog (TB (K101 k))) : CallOK Tryz.prog 58 (I58.call (laws_markText k)) := fun_ok (T := T58 k) (ls := (L58 k)) mixed (tab_with h _ _ _) I58 (laws_markText k) Tryz.func58 (by kernel_rfl : Tryz.f58.body = some b58) (by kernel_rfl) (by decide) rfl (by kernel_rfl) ⟨rowA (f := SF58_4) (g := SG58_4) (cs := [.int .i64, .str]) (co := [.str]) (e := 0) k (laws_markText_4 k) ⟨by decide, by decide⟩ (fun _ => rfl) (l58_4 k), trivial⟩ (e58 k) (fun h => Bool.noConfusion h)
theorem t58 (k : Nat) (h : TabFn Tryz.prog (TB (K101 k))) : TabFn Tryz.prog (TB (K102 k)) := tc_cons h (by kernel_rfl) (c58 k h) (enter_of Tryz.func58 (by kernel_rfl) (by kernel_rfl))
noncomputable def b57 : Code := Tryz.f57.body.getD .skip
noncomputable def T57 (k : Nat) : Tab := { TB (K102 k) with loop := lookL (L57 k), join := (fun _ => []), np := false }
theorem l57_2 (k n : Nat) (x : HT [.int .i64, .int .i64, .sl (.pair .str (.sl (.int .i64)))]) : laws_markFaceS_2 k (n + 1) x = ev (T57 k) (findB (bodies b57) 2) (SF57_2.mk' [.int .i64, .int .i64, .sl (.pair .str (.sl (.int .i64)))] x) (outA 0 SG57_2 [.int .i64, .sl (.pair .str (.sl (.int .i64)))] SF57_2 [.int .i64, .int .i64, .sl (.pair .str (.sl (.int .i64)))] (laws_markFaceS_2 k n)) := by kernel_rfl
theorem e57 (k : Nat) (x : HT I57.cs) : laws_markFaceS k x = I57.body (T57 k) Tryz.f57 b57 x := by kernel_rfl
noncomputable def K103 (k : Nat) : List (Nat × CallI) := (57, ⟨I57, laws_markFaceS k⟩) :: K102 k
theorem c57 (k : Nat) (h : TabFn Tryz.prog (TB (K102 k))) : CallOK Tryz.prog 57 (I57.call (laws_markFaceS k)) := fun_ok (T := T57 k) (ls := (L57 k)) mixed (tab_with h _ _ _) I57 (laws_markFaceS k) Tryz.func57 (by kernel_rfl : Tryz.f57.body = some b57) (by kernel_rfl) (by decide) rfl (by kernel_rfl) ⟨rowA (f := SF57_2) (g := SG57_2) (cs := [.int .i64, .int .i64, .sl (.pair .str (.sl (.int .i64)))]) (co := [.int .i64, .sl (.pair .str (.sl (.int .i64)))]) (e := 0) k (laws_markFaceS_2 k) ⟨by decide, by decide⟩ (fun _ => rfl) (l57_2 k), trivial⟩ (e57 k) (fun h => Bool.noConfusion h)
theorem t57 (k : Nat) (h : TabFn Tryz.prog (TB (K102 k))) : TabFn Tryz.prog (TB (K103 k)) := tc_cons h (by kernel_rfl) (c57 k h) (enter_of Tryz.func57 (by kernel_rfl) (by kernel_rfl))
noncomputable def b26 : Code := Tryz.f26.body.getD .skip
noncomputable def T26 (k : Nat) : Tab := { TB (K103 k) with loop := lookL [], join := (fun _ => []), np := false }
theorem e26 (k : Nat) (x : HT I26.cs) : laws_markDrawing k x = I26.body (T26 k) Tryz.f26 b26 x := by kernel_rfl
noncomputable def K104 (k : Nat) : List (Nat × CallI) := (26, ⟨I26, laws_markDrawing k⟩) :: K103 k
theorem c26 (k : Nat) (h : TabFn Tryz.prog (TB (K103 k))) : CallOK Tryz.prog 26 (I26.call (laws_markDrawing k)) := fun_ok (T := T26 k) (ls := []) mixed (tab_with h _ _ _) I26 (laws_markDrawing k) Tryz.func26 (by kernel_rfl : Tryz.f26.body = some b26) (by kernel_rfl) (by decide) rfl (by kernel_rfl) trivial (e26 k) (fun h => Bool.noConfusion h)
theorem t26 (k : Nat) (h : TabFn Tryz.prog (TB (K103 k))) : TabFn Tryz.prog (TB (K104 k)) := tc_cons h (by kernel_rfl) (c26 k h) (enter_of Tryz.func26 (by kernel_rfl) (by kernel_rfl))
noncomputable def b27 : Code := Tryz.f27.body.getD .skip
noncomputable def T27 (k : Nat) : Tab := { TB (K104 k) with loop := lookL (L27 k), join := (fun _ => []), np := false }
theorem l27_2 (k n : Nat) (x : HT [.int .i64, .int .i64, .sl (.pair .str (.pair (.int .i64) (.int .i64)))]) : laws_markVeneerS_2 k (n + 1) x = ev (T27 k) (findB (bodies b27) 2) (SF27_2.mk' [.int .i64, .int .i64, .sl (.pair .str (.pair (.int .i64) (.int .i64)))] x) (outA 0 SG27_2 [.int .i64, .sl (.pair .str (.pair (.int .i64) (.int .i64)))] SF27_2 [.int .i64, .int .i64, .sl (.pair .str (.pair (.int .i64) (.int .i64)))] (laws_markVeneerS_2 k n)) := by kernel_rfl
theorem e27 (k : Nat) (x : HT I27.cs) : laws_markVeneerS k x = I27.body (T27 k) Tryz.f27 b27 x := by kernel_rfl
noncomputable def K105 (k : Nat) : List (Nat × CallI) := (27, ⟨I27, laws_markVeneerS k⟩) :: K104 k
theorem c27 (k : Nat) (h : TabFn Tryz.prog (TB (K104 k))) : CallOK Tryz.prog 27 (I27.call (laws_markVeneerS k)) := fun_ok (T := T27 k) (ls := (L27 k)) mixed (tab_with h _ _ _) I27 (laws_markVeneerS k) Tryz.func27 (by kernel_rfl : Tryz.f27.body = some b27) (by kernel_rfl) (by decide) rfl (by kernel_rfl) ⟨rowA (f := SF27_2) (g := SG27_2) (cs := [.int .i64, .int .i64, .sl (.pair .str (.pair (.int .i64) (.int .i64)))]) (co := [.int .i64, .sl (.pair .str (.pair (.int .i64) (.int .i64)))]) (e := 0) k (laws_markVeneerS_2 k) ⟨by decide, by decide⟩ (fun _ => rfl) (l27_2 k), trivial⟩ (e27 k) (fun h => Bool.noConfusion h)
theorem t27 (k : Nat) (h : TabFn Tryz.prog (TB (K104 k))) : TabFn Tryz.prog (TB (K105 k)) := tc_cons h (by kernel_rfl) (c27 k h) (enter_of Tryz.func27 (by kernel_rfl) (by kernel_rfl))
noncomputable def b10 : Code := Tryz.f10.body.getD .skip
noncomputable def T10 (k : Nat) : Tab := { TB (K105 k) with loop := lookL [], join := (fun _ => []), np := false }
theorem e10 (k : Nat) (x : HT I10.cs) : laws_markPicture k x = I10.body (T10 k) Tryz.f10 b10 x := by kernel_rfl
noncomputable def K106 (k : Nat) : List (Nat × CallI) := (10, ⟨I10, laws_markPicture k⟩) :: K105 k
theorem c10 (k : Nat) (h : TabFn Tryz.prog (TB (K105 k))) : CallOK Tryz.prog 10 (I10.call (laws_markPicture k)) := fun_ok (T := T10 k) (ls := []) mixed (tab_with h _ _ _) I10 (laws_markPicture k) Tryz.func10 (by kernel_rfl : Tryz.f10.body = some b10) (by kernel_rfl) (by decide) rfl (by kernel_rfl) trivial (e10 k) (fun h => Bool.noConfusion h)
theorem t10 (k : Nat) (h : TabFn Tryz.prog (TB (K105 k))) : TabFn Tryz.prog (TB (K106 k)) := tc_cons h (by kernel_rfl) (c10 k h) (enter_of Tryz.func10 (by kernel_rfl) (by kernel_rfl))
noncomputable def b12 : Code := Tryz.f12.body.getD .skip
noncomputable def T12 (k : Nat) : Tab := { TB (K106 k) with loop := lookL (L12 k), join := (fun _ => []), np := false }
theorem l12_2 (k n : Nat) (x : HT [.sl (.int .i64), .int .i64, .int .i64]) : laws_heldInt64S_2 k (n + 1) x = ev (T12 k) (findB (bodies b12) 2) (SF12_2.mk' [.sl (.int .i64), .int .i64, .int .i64] x) (outB 0 SG12_2 [.int .i64] SH12_2 [.int .i64] SF12_2 [.sl (.int .i64), .int .i64, .int .i64] (laws_heldInt64S_2 k n)) := by kernel_rfl
theorem e12 (k : Nat) (x : HT I12.cs) : laws_heldInt64S k x = I12.body (T12 k) Tryz.f12 b12 x := by kernel_rfl
noncomputable def K107 (k : Nat) : List (Nat × CallI) := (12, ⟨I12, laws_heldInt64S k⟩) :: K106 k
theorem c12 (k : Nat) (h : TabFn Tryz.prog (TB (K106 k))) : CallOK Tryz.prog 12 (I12.call (laws_heldInt64S k)) := fun_ok (T := T12 k) (ls := (L12 k)) mixed (tab_with h _ _ _) I12 (laws_heldInt64S k) Tryz.func12 (by kernel_rfl : Tryz.f12.body = some b12) (by kernel_rfl) (by decide) rfl (by kernel_rfl) ⟨rowB (f := SF12_2) (g := SG12_2) (h := SH12_2) (cs := [.sl (.int .i64), .int .i64, .int .i64]) (co := [.int .i64]) (cr := [.int .i64]) (e := 0) k (laws_heldInt64S_2 k) ⟨by decide, by decide, by decide⟩ (fun _ => rfl) (l12_2 k), trivial⟩ (e12 k) (fun h => Bool.noConfusion h)
theorem t12 (k : Nat) (h : TabFn Tryz.prog (TB (K106 k))) : TabFn Tryz.prog (TB (K107 k)) := tc_cons h (by kernel_rfl) (c12 k h) (enter_of Tryz.func12 (by kernel_rfl) (by kernel_rfl))
noncomputable def b3 : Code := Tryz.f3.body.getD .skip
noncomputable def T3 (k : Nat) : Tab := { TB (K107 k) with loop := lookL [], join := J3, np := false }
theorem e3 (k : Nat) (x : HT I3.cs) : laws_FnExactPictureTurns k x = I3.body (T3 k) Tryz.f3 b3 x := by kernel_rfl
noncomputable def K108 (k : Nat) : List (Nat × CallI) := (3, ⟨I3, laws_FnExactPictureTurns k⟩) :: K107 k
theorem c3 (k : Nat) (h : TabFn Tryz.prog (TB (K107 k))) : CallOK Tryz.prog 3 (I3.call (laws_FnExactPictureTurns k)) := fun_ok (T := T3 k) (ls := []) mixed (tab_with h _ _ _) I3 (laws_FnExactPictureTurns k) Tryz.func3 (by kernel_rfl : Tryz.f3.body = some b3) (by kernel_rfl) (by decide) rfl (by kernel_rfl) trivial (e3 k) (fun h => Bool.noConfusion h)
theorem t3 (k : Nat) (h : TabFn Tryz.prog (TB (K107 k))) : TabFn Tryz.prog (TB (K108 k)) := tc_cons h (by kernel_rfl) (c3 k h) (enter_of Tryz.func3 (by kernel_rfl) (by kernel_rfl))
/-- the whole table -/
theorem tab_all (k : Nat) : TabFn Tryz.prog (TB (K107 k)) := by
  have h := t_nil k
  have h := t28 k h
  have h := t84 k h
  have h := t59 k h
  have h := t29 k h
  have h := t13 k h
  have h := t30 k h
  have h := t14 k h
  have h := t4 k h
  have h := t60 k h
  have h := t61 k h
  have h := t85 k h
  have h := t86 k h
  have h := t62 k h
  have h := t63 k h
  have h := t87 k h
  have h := t36 k h
  have h := t110 k h
  have h := t105 k h
  have h := t106 k h
  have h := t88 k h
  have h := t107 k h
  have h := t89 k h
  have h := t90 k h
  have h := t64 k h
  have h := t31 k h
  have h := t108 k h
  have h := t91 k h
  have h := t92 k h
  have h := t93 k h
  have h := t65 k h
  have h := t32 k h
  have h := t15 k h
  have h := t33 k h
  have h := t94 k h
  have h := t66 k h
  have h := t34 k h
  have h := t35 k h
  have h := t37 k h
  have h := t16 k h
  have h := t95 k h
  have h := t96 k h
  have h := t67 k h
  have h := t38 k h
  have h := t39 k h
  have h := t17 k h
  have h := t5 k h
  have h := t68 k h
  have h := t40 k h
  have h := t97 k h
  have h := t69 k h
  have h := t41 k h
  have h := t18 k h
  have h := t42 k h
  have h := t19 k h
  have h := t6 k h
  have h := t45 k h
  have h := t50 k h
  have h := t102 k h
  have h := t77 k h
  have h := t103 k h
  have h := t78 k h
  have h := t104 k h
  have h := t79 k h
  have h := t80 k h
  have h := t51 k h
  have h := t81 k h
  have h := t70 k h
  have h := t71 k h
  have h := t43 k h
  have h := t109 k h
  have h := t99 k h
  have h := t74 k h
  have h := t73 k h
  have h := t98 k h
  have h := t72 k h
  have h := t44 k h
  have h := t20 k h
  have h := t100 k h
  have h := t101 k h
  have h := t75 k h
  have h := t76 k h
  have h := t46 k h
  have h := t47 k h
  have h := t48 k h
  have h := t49 k h
  have h := t21 k h
  have h := t22 k h
  have h := t52 k h
  have h := t23 k h
  have h := t7 k h
  have h := t8 k h
  have h := t82 k h
  have h := t53 k h
  have h := t83 k h
  have h := t54 k h
  have h := t24 k h
  have h := t55 k h
  have h := t25 k h
  have h := t9 k h
  have h := t56 k h
  have h := t11 k h
  have h := t58 k h
  have h := t57 k h
  have h := t26 k h
  have h := t27 k h
  have h := t10 k h
  have h := t12 k h
  exact h
/-- the law's call -/
theorem law_call (k : Nat) : CallOK Tryz.prog 3 (I3.call (laws_FnExactPictureTurns k)) := c3 k (tab_all k)
end Go.Proofs.YtmklecafnhdnmaaGreatV

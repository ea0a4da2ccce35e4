/- Functions; no condition. -/
import Derived.Test.YtmklecafnhdnmaaGreatB04
import Derived.KernelRfl
set_option linter.all false
/- The functions' rows of the table: what the evaluator makes of their code is their pure function. -/
namespace Go.Proofs.YtmklecafnhdnmaaGreatV
open Go Go.RowKit Go.Proofs
set_option linter.unusedVariables false
noncomputable def b6 : Code := Tryz.f6.body.getD .skip
noncomputable def T6 (k : Nat) : Tab := { TB (K54 k) with loop := lookL [], join := (fun _ => []), np := false }
theorem e6 (k : Nat) (x : HT I6.cs) : laws_toPicture k x = I6.body (T6 k) Tryz.f6 b6 x := by kernel_rfl
noncomputable def K55 (k : Nat) : List (Nat × CallI) := (6, ⟨I6, laws_toPicture k⟩) :: K54 k
theorem c6 (k : Nat) (h : TabFn Tryz.prog (TB (K54 k))) : CallOK Tryz.prog 6 (I6.call (laws_toPicture k)) := fun_ok (T := T6 k) (ls := []) mixed (tab_with h _ _ _) I6 (laws_toPicture k) Tryz.func6 (by kernel_rfl : Tryz.f6.body = some b6) (by kernel_rfl) (by decide) rfl (by kernel_rfl) trivial (e6 k) (fun h => Bool.noConfusion h)
theorem t6 (k : Nat) (h : TabFn Tryz.prog (TB (K54 k))) : TabFn Tryz.prog (TB (K55 k)) := tc_cons h (by kernel_rfl) (c6 k h) (enter_of Tryz.func6 (by kernel_rfl) (by kernel_rfl))
noncomputable def b45 : Code := Tryz.f45.body.getD .skip
noncomputable def T45 (k : Nat) : Tab := { TB (K55 k) with loop := lookL [], join := (fun _ => []), np := false }
theorem e45 (k : Nat) (x : HT I45.cs) : impl_within k x = I45.body (T45 k) Tryz.f45 b45 x := by kernel_rfl
noncomputable def K56 (k : Nat) : List (Nat × CallI) := (45, ⟨I45, impl_within k⟩) :: K55 k
theorem c45 (k : Nat) (h : TabFn Tryz.prog (TB (K55 k))) : CallOK Tryz.prog 45 (I45.call (impl_within k)) := fun_ok (T := T45 k) (ls := []) mixed (tab_with h _ _ _) I45 (impl_within k) Tryz.func45 (by kernel_rfl : Tryz.f45.body = some b45) (by kernel_rfl) (by decide) rfl (by kernel_rfl) trivial (e45 k) (fun h => Bool.noConfusion h)
theorem t45 (k : Nat) (h : TabFn Tryz.prog (TB (K55 k))) : TabFn Tryz.prog (TB (K56 k)) := tc_cons h (by kernel_rfl) (c45 k h) (enter_of Tryz.func45 (by kernel_rfl) (by kernel_rfl))
noncomputable def b50 : Code := Tryz.f50.body.getD .skip
noncomputable def T50 (k : Nat) : Tab := { TB (K56 k) with loop := lookL (L50 k), join := (fun _ => []), np := false }
theorem l50_3 (k n : Nat) (x : HT [.sl (.pair (.int .i64) (.int .i64)), .sl (.int .i64), .int .i64, .int .i64, .sl (.pair (.int .i64) (.int .i64))]) : impl_ringPolygon_3 k (n + 1) x = ev (T50 k) (findB (bodies b50) 3) (SF50_3.mk' [.sl (.pair (.int .i64) (.int .i64)), .sl (.int .i64), .int .i64, .int .i64, .sl (.pair (.int .i64) (.int .i64))] x) (outB 0 SG50_3 [.sl (.pair (.int .i64) (.int .i64))] SH50_3 [.bool, .sl (.pair (.int .i64) (.int .i64))] SF50_3 [.sl (.pair (.int .i64) (.int .i64)), .sl (.int .i64), .int .i64, .int .i64, .sl (.pair (.int .i64) (.int .i64))] (impl_ringPolygon_3 k n)) := by kernel_rfl
theorem e50 (k : Nat) (x : HT I50.cs) : impl_ringPolygon k x = I50.body (T50 k) Tryz.f50 b50 x := by kernel_rfl
noncomputable def K57 (k : Nat) : List (Nat × CallI) := (50, ⟨I50, impl_ringPolygon k⟩) :: K56 k
theorem c50 (k : Nat) (h : TabFn Tryz.prog (TB (K56 k))) : CallOK Tryz.prog 50 (I50.call (impl_ringPolygon k)) := fun_ok (T := T50 k) (ls := (L50 k)) mixed (tab_with h _ _ _) I50 (impl_ringPolygon k) Tryz.func50 (by kernel_rfl : Tryz.f50.body = some b50) (by kernel_rfl) (by decide) rfl (by kernel_rfl) ⟨rowB (f := SF50_3) (g := SG50_3) (h := SH50_3) (cs := [.sl (.pair (.int .i64) (.int .i64)), .sl (.int .i64), .int .i64, .int .i64, .sl (.pair (.int .i64) (.int .i64))]) (co := [.sl (.pair (.int .i64) (.int .i64))]) (cr := [.bool, .sl (.pair (.int .i64) (.int .i64))]) (e := 0) k (impl_ringPolygon_3 k) ⟨by decide, by decide, by decide⟩ (fun _ => rfl) (l50_3 k), trivial⟩ (e50 k) (fun h => Bool.noConfusion h)
theorem t50 (k : Nat) (h : TabFn Tryz.prog (TB (K56 k))) : TabFn Tryz.prog (TB (K57 k)) := tc_cons h (by kernel_rfl) (c50 k h) (enter_of Tryz.func50 (by kernel_rfl) (by kernel_rfl))
noncomputable def b102 : Code := Tryz.f102.body.getD .skip
noncomputable def T102 (k : Nat) : Tab := { TB (K57 k) with loop := lookL [], join := (fun _ => []), np := false }
theorem e102 (k : Nat) (x : HT I102.cs) : impl_ValidPoint k x = I102.body (T102 k) Tryz.f102 b102 x := by kernel_rfl
noncomputable def K58 (k : Nat) : List (Nat × CallI) := (102, ⟨I102, impl_ValidPoint k⟩) :: K57 k
theorem c102 (k : Nat) (h : TabFn Tryz.prog (TB (K57 k))) : CallOK Tryz.prog 102 (I102.call (impl_ValidPoint k)) := fun_ok (T := T102 k) (ls := []) mixed (tab_with h _ _ _) I102 (impl_ValidPoint k) Tryz.func102 (by kernel_rfl : Tryz.f102.body = some b102) (by kernel_rfl) (by decide) rfl (by kernel_rfl) trivial (e102 k) (fun h => Bool.noConfusion h)
theorem t102 (k : Nat) (h : TabFn Tryz.prog (TB (K57 k))) : TabFn Tryz.prog (TB (K58 k)) := tc_cons h (by kernel_rfl) (c102 k h) (enter_of Tryz.func102 (by kernel_rfl) (by kernel_rfl))
noncomputable def b77 : Code := Tryz.f77.body.getD .skip
noncomputable def T77 (k : Nat) : Tab := { TB (K58 k) with loop := lookL (L77 k), join := (fun _ => []), np := false }
theorem l77_2 (k n : Nat) (x : HT [.sl (.pair (.int .i64) (.int .i64)), .int .i64, .int .i64]) : impl_validPoints_2 k (n + 1) x = ev (T77 k) (findB (bodies b77) 2) (SF77_2.mk' [.sl (.pair (.int .i64) (.int .i64)), .int .i64, .int .i64] x) (outB 0 SG77_2 [] SH77_2 [.bool] SF77_2 [.sl (.pair (.int .i64) (.int .i64)), .int .i64, .int .i64] (impl_validPoints_2 k n)) := by kernel_rfl
theorem e77 (k : Nat) (x : HT I77.cs) : impl_validPoints k x = I77.body (T77 k) Tryz.f77 b77 x := by kernel_rfl
noncomputable def K59 (k : Nat) : List (Nat × CallI) := (77, ⟨I77, impl_validPoints k⟩) :: K58 k
theorem c77 (k : Nat) (h : TabFn Tryz.prog (TB (K58 k))) : CallOK Tryz.prog 77 (I77.call (impl_validPoints k)) := fun_ok (T := T77 k) (ls := (L77 k)) mixed (tab_with h _ _ _) I77 (impl_validPoints k) Tryz.func77 (by kernel_rfl : Tryz.f77.body = some b77) (by kernel_rfl) (by decide) rfl (by kernel_rfl) ⟨rowB (f := SF77_2) (g := SG77_2) (h := SH77_2) (cs := [.sl (.pair (.int .i64) (.int .i64)), .int .i64, .int .i64]) (co := []) (cr := [.bool]) (e := 0) k (impl_validPoints_2 k) ⟨by decide, by decide, by decide⟩ (fun _ => rfl) (l77_2 k), trivial⟩ (e77 k) (fun h => Bool.noConfusion h)
theorem t77 (k : Nat) (h : TabFn Tryz.prog (TB (K58 k))) : TabFn Tryz.prog (TB (K59 k)) := tc_cons h (by kernel_rfl) (c77 k h) (enter_of Tryz.func77 (by kernel_rfl) (by kernel_rfl))
noncomputable def b103 : Code := Tryz.f103.body.getD .skip
noncomputable def T103 (k : Nat) : Tab := { TB (K59 k) with loop := lookL [], join := (fun _ => []), np := false }
theorem e103 (k : Nat) (x : HT I103.cs) : impl_side k x = I103.body (T103 k) Tryz.f103 b103 x := by kernel_rfl
noncomputable def K60 (k : Nat) : List (Nat × CallI) := (103, ⟨I103, impl_side k⟩) :: K59 k
theorem c103 (k : Nat) (h : TabFn Tryz.prog (TB (K59 k))) : CallOK Tryz.prog 103 (I103.call (impl_side k)) := fun_ok (T := T103 k) (ls := []) mixed (tab_with h _ _ _) I103 (impl_side k) Tryz.func103 (by kernel_rfl : Tryz.f103.body = some b103) (by kernel_rfl) (by decide) rfl (by kernel_rfl) trivial (e103 k) (fun h => Bool.noConfusion h)
theorem t103 (k : Nat) (h : TabFn Tryz.prog (TB (K59 k))) : TabFn Tryz.prog (TB (K60 k)) := tc_cons h (by kernel_rfl) (c103 k h) (enter_of Tryz.func103 (by kernel_rfl) (by kernel_rfl))
noncomputable def b78 : Code := Tryz.f78.body.getD .skip
noncomputable def T78 (k : Nat) : Tab := { TB (K60 k) with loop := lookL [], join := (fun _ => []), np := false }
theorem e78 (k : Nat) (x : HT I78.cs) : impl_on k x = I78.body (T78 k) Tryz.f78 b78 x := by kernel_rfl
noncomputable def K61 (k : Nat) : List (Nat × CallI) := (78, ⟨I78, impl_on k⟩) :: K60 k
theorem c78 (k : Nat) (h : TabFn Tryz.prog (TB (K60 k))) : CallOK Tryz.prog 78 (I78.call (impl_on k)) := fun_ok (T := T78 k) (ls := []) mixed (tab_with h _ _ _) I78 (impl_on k) Tryz.func78 (by kernel_rfl : Tryz.f78.body = some b78) (by kernel_rfl) (by decide) rfl (by kernel_rfl) trivial (e78 k) (fun h => Bool.noConfusion h)
theorem t78 (k : Nat) (h : TabFn Tryz.prog (TB (K60 k))) : TabFn Tryz.prog (TB (K61 k)) := tc_cons h (by kernel_rfl) (c78 k h) (enter_of Tryz.func78 (by kernel_rfl) (by kernel_rfl))
noncomputable def b104 : Code := Tryz.f104.body.getD .skip
noncomputable def T104 (k : Nat) : Tab := { TB (K61 k) with loop := lookL [], join := (fun _ => []), np := false }
theorem e104 (k : Nat) (x : HT I104.cs) : impl_crossing k x = I104.body (T104 k) Tryz.f104 b104 x := by kernel_rfl
noncomputable def K62 (k : Nat) : List (Nat × CallI) := (104, ⟨I104, impl_crossing k⟩) :: K61 k
theorem c104 (k : Nat) (h : TabFn Tryz.prog (TB (K61 k))) : CallOK Tryz.prog 104 (I104.call (impl_crossing k)) := fun_ok (T := T104 k) (ls := []) mixed (tab_with h _ _ _) I104 (impl_crossing k) Tryz.func104 (by kernel_rfl : Tryz.f104.body = some b104) (by kernel_rfl) (by decide) rfl (by kernel_rfl) trivial (e104 k) (fun h => Bool.noConfusion h)
theorem t104 (k : Nat) (h : TabFn Tryz.prog (TB (K61 k))) : TabFn Tryz.prog (TB (K62 k)) := tc_cons h (by kernel_rfl) (c104 k h) (enter_of Tryz.func104 (by kernel_rfl) (by kernel_rfl))
noncomputable def b79 : Code := Tryz.f79.body.getD .skip
noncomputable def T79 (k : Nat) : Tab := { TB (K62 k) with loop := lookL [], join := (fun _ => []), np := false }
theorem e79 (k : Nat) (x : HT I79.cs) : impl_touching k x = I79.body (T79 k) Tryz.f79 b79 x := by kernel_rfl
noncomputable def K63 (k : Nat) : List (Nat × CallI) := (79, ⟨I79, impl_touching k⟩) :: K62 k
theorem c79 (k : Nat) (h : TabFn Tryz.prog (TB (K62 k))) : CallOK Tryz.prog 79 (I79.call (impl_touching k)) := fun_ok (T := T79 k) (ls := []) mixed (tab_with h _ _ _) I79 (impl_touching k) Tryz.func79 (by kernel_rfl : Tryz.f79.body = some b79) (by kernel_rfl) (by decide) rfl (by kernel_rfl) trivial (e79 k) (fun h => Bool.noConfusion h)
theorem t79 (k : Nat) (h : TabFn Tryz.prog (TB (K62 k))) : TabFn Tryz.prog (TB (K63 k)) := tc_cons h (by kernel_rfl) (c79 k h) (enter_of Tryz.func79 (by kernel_rfl) (by kernel_rfl))
noncomputable def b80 : Code := Tryz.f80.body.getD .skip
noncomputable def T80 (k : Nat) : Tab := { TB (K63 k) with loop := lookL (L80 k), join := (fun _ => []), np := false }
theorem l80_3 (k n : Nat) (x : HT [.sl (.pair (.int .i64) (.int .i64)), .int .i64, .sl (.pair (.int .i64) (.int .i64)), .int .i64, .int .i64]) : impl_doubled_3 k (n + 1) x = ev (T80 k) (findB (bodies b80) 3) (SF80_3.mk' [.sl (.pair (.int .i64) (.int .i64)), .int .i64, .sl (.pair (.int .i64) (.int .i64)), .int .i64, .int .i64] x) (outA 0 SG80_3 [.int .i64] SF80_3 [.sl (.pair (.int .i64) (.int .i64)), .int .i64, .sl (.pair (.int .i64) (.int .i64)), .int .i64, .int .i64] (impl_doubled_3 k n)) := by kernel_rfl
theorem e80 (k : Nat) (x : HT I80.cs) : impl_doubled k x = I80.body (T80 k) Tryz.f80 b80 x := by kernel_rfl
noncomputable def K64 (k : Nat) : List (Nat × CallI) := (80, ⟨I80, impl_doubled k⟩) :: K63 k
theorem c80 (k : Nat) (h : TabFn Tryz.prog (TB (K63 k))) : CallOK Tryz.prog 80 (I80.call (impl_doubled k)) := fun_ok (T := T80 k) (ls := (L80 k)) mixed (tab_with h _ _ _) I80 (impl_doubled k) Tryz.func80 (by kernel_rfl : Tryz.f80.body = some b80) (by kernel_rfl) (by decide) rfl (by kernel_rfl) ⟨rowA (f := SF80_3) (g := SG80_3) (cs := [.sl (.pair (.int .i64) (.int .i64)), .int .i64, .sl (.pair (.int .i64) (.int .i64)), .int .i64, .int .i64]) (co := [.int .i64]) (e := 0) k (impl_doubled_3 k) ⟨by decide, by decide⟩ (fun _ => rfl) (l80_3 k), trivial⟩ (e80 k) (fun h => Bool.noConfusion h)
theorem t80 (k : Nat) (h : TabFn Tryz.prog (TB (K63 k))) : TabFn Tryz.prog (TB (K64 k)) := tc_cons h (by kernel_rfl) (c80 k h) (enter_of Tryz.func80 (by kernel_rfl) (by kernel_rfl))
noncomputable def b51 : Code := Tryz.f51.body.getD .skip
noncomputable def T51 (k : Nat) : Tab := { TB (K64 k) with loop := lookL (L51 k), join := J51, np := false }
theorem l51_11 (k n : Nat) (x : HT [.sl (.pair (.int .i64) (.int .i64)), .int .i64, .int .i64, .int .i64, .int .i64, .int .i64, .int .i64, .int .i64, .int .i64, .int .i64]) : impl_ValidPolygon_11 k (n + 1) x = ev (T51 k) (findB (bodies b51) 11) (SF51_11.mk' [.sl (.pair (.int .i64) (.int .i64)), .int .i64, .int .i64, .int .i64, .int .i64, .int .i64, .int .i64, .int .i64, .int .i64, .int .i64] x) (outB 2 SG51_11 [.sl (.pair (.int .i64) (.int .i64)), .int .i64, .int .i64, .int .i64] SH51_11 [.bool] SF51_11 [.sl (.pair (.int .i64) (.int .i64)), .int .i64, .int .i64, .int .i64, .int .i64, .int .i64, .int .i64, .int .i64, .int .i64, .int .i64] (impl_ValidPolygon_11 k n)) := by kernel_rfl
theorem l51_5 (k n : Nat) (x : HT [.sl (.pair (.int .i64) (.int .i64)), .int .i64, .int .i64, .int .i64]) : impl_ValidPolygon_5 k (n + 1) x = ev (T51 k) (findB (bodies b51) 5) (SF51_5.mk' [.sl (.pair (.int .i64) (.int .i64)), .int .i64, .int .i64, .int .i64] x) (outB 0 SG51_5 [.sl (.pair (.int .i64) (.int .i64))] SH51_5 [.bool] SF51_5 [.sl (.pair (.int .i64) (.int .i64)), .int .i64, .int .i64, .int .i64] (impl_ValidPolygon_5 k n)) := by kernel_rfl
theorem e51 (k : Nat) (x : HT I51.cs) : impl_ValidPolygon k x = I51.body (T51 k) Tryz.f51 b51 x := by kernel_rfl
noncomputable def K65 (k : Nat) : List (Nat × CallI) := (51, ⟨I51, impl_ValidPolygon k⟩) :: K64 k
theorem c51 (k : Nat) (h : TabFn Tryz.prog (TB (K64 k))) : CallOK Tryz.prog 51 (I51.call (impl_ValidPolygon k)) := fun_ok (T := T51 k) (ls := (L51 k)) mixed (tab_with h _ _ _) I51 (impl_ValidPolygon k) Tryz.func51 (by kernel_rfl : Tryz.f51.body = some b51) (by kernel_rfl) (by decide) rfl (by kernel_rfl) ⟨rowB (f := SF51_11) (g := SG51_11) (h := SH51_11) (cs := [.sl (.pair (.int .i64) (.int .i64)), .int .i64, .int .i64, .int .i64, .int .i64, .int .i64, .int .i64, .int .i64, .int .i64, .int .i64]) (co := [.sl (.pair (.int .i64) (.int .i64)), .int .i64, .int .i64, .int .i64]) (cr := [.bool]) (e := 2) k (impl_ValidPolygon_11 k) ⟨by decide, by decide, by decide⟩ (fun _ => rfl) (l51_11 k), rowB (f := SF51_5) (g := SG51_5) (h := SH51_5) (cs := [.sl (.pair (.int .i64) (.int .i64)), .int .i64, .int .i64, .int .i64]) (co := [.sl (.pair (.int .i64) (.int .i64))]) (cr := [.bool]) (e := 0) k (impl_ValidPolygon_5 k) ⟨by decide, by decide, by decide⟩ (fun _ => rfl) (l51_5 k), trivial⟩ (e51 k) (fun h => Bool.noConfusion h)
theorem t51 (k : Nat) (h : TabFn Tryz.prog (TB (K64 k))) : TabFn Tryz.prog (TB (K65 k)) := tc_cons h (by kernel_rfl) (c51 k h) (enter_of Tryz.func51 (by kernel_rfl) (by kernel_rfl))
noncomputable def b81 : Code := Tryz.f81.body.getD .skip
noncomputable def T81 (k : Nat) : Tab := { TB (K65 k) with loop := lookL (L81 k), join := (fun _ => []), np := false }
theorem l81_2 (k n : Nat) (x : HT [.sl (.pair (.int .i64) (.int .i64)), .int .i64, .int .i64, .int .i64, .int .i64]) : slices_Index_2 k (n + 1) x = ev (T81 k) (findB (bodies b81) 2) (SF81_2.mk' [.sl (.pair (.int .i64) (.int .i64)), .int .i64, .int .i64, .int .i64, .int .i64] x) (outB 0 SG81_2 [] SH81_2 [.int .i64] SF81_2 [.sl (.pair (.int .i64) (.int .i64)), .int .i64, .int .i64, .int .i64, .int .i64] (slices_Index_2 k n)) := by kernel_rfl
theorem e81 (k : Nat) (x : HT I81.cs) : slices_Index k x = I81.body (T81 k) Tryz.f81 b81 x := by kernel_rfl
noncomputable def K66 (k : Nat) : List (Nat × CallI) := (81, ⟨I81, slices_Index k⟩) :: K65 k
theorem c81 (k : Nat) (h : TabFn Tryz.prog (TB (K65 k))) : CallOK Tryz.prog 81 (I81.call (slices_Index k)) := fun_ok (T := T81 k) (ls := (L81 k)) mixed (tab_with h _ _ _) I81 (slices_Index k) Tryz.func81 (by kernel_rfl : Tryz.f81.body = some b81) (by kernel_rfl) (by decide) rfl (by kernel_rfl) ⟨rowB (f := SF81_2) (g := SG81_2) (h := SH81_2) (cs := [.sl (.pair (.int .i64) (.int .i64)), .int .i64, .int .i64, .int .i64, .int .i64]) (co := []) (cr := [.int .i64]) (e := 0) k (slices_Index_2 k) ⟨by decide, by decide, by decide⟩ (fun _ => rfl) (l81_2 k), trivial⟩ (e81 k) (fun h => Bool.noConfusion h)
theorem t81 (k : Nat) (h : TabFn Tryz.prog (TB (K65 k))) : TabFn Tryz.prog (TB (K66 k)) := tc_cons h (by kernel_rfl) (c81 k h) (enter_of Tryz.func81 (by kernel_rfl) (by kernel_rfl))
noncomputable def b70 : Code := Tryz.f70.body.getD .skip
noncomputable def T70 (k : Nat) : Tab := { TB (K66 k) with loop := lookL [], join := (fun _ => []), np := false }
theorem e70 (k : Nat) (x : HT I70.cs) : slices_Contains k x = I70.body (T70 k) Tryz.f70 b70 x := by kernel_rfl
noncomputable def K67 (k : Nat) : List (Nat × CallI) := (70, ⟨I70, slices_Contains k⟩) :: K66 k
theorem c70 (k : Nat) (h : TabFn Tryz.prog (TB (K66 k))) : CallOK Tryz.prog 70 (I70.call (slices_Contains k)) := fun_ok (T := T70 k) (ls := []) mixed (tab_with h _ _ _) I70 (slices_Contains k) Tryz.func70 (by kernel_rfl : Tryz.f70.body = some b70) (by kernel_rfl) (by decide) rfl (by kernel_rfl) trivial (e70 k) (fun h => Bool.noConfusion h)
theorem t70 (k : Nat) (h : TabFn Tryz.prog (TB (K66 k))) : TabFn Tryz.prog (TB (K67 k)) := tc_cons h (by kernel_rfl) (c70 k h) (enter_of Tryz.func70 (by kernel_rfl) (by kernel_rfl))
noncomputable def b71 : Code := Tryz.f71.body.getD .skip
noncomputable def T71 (k : Nat) : Tab := { TB (K67 k) with loop := lookL (L71 k), join := J71, np := false }
theorem l71_4 (k n : Nat) (x : HT [.str, .int .i64]) : impl_IsName_4 k (n + 1) x = ev (T71 k) (findB (bodies b71) 4) (SF71_4.mk' [.str, .int .i64] x) (outB 0 SG71_4 [] SH71_4 [.bool] SF71_4 [.str, .int .i64] (impl_IsName_4 k n)) := by kernel_rfl
theorem e71 (k : Nat) (x : HT I71.cs) : impl_IsName k x = I71.body (T71 k) Tryz.f71 b71 x := by kernel_rfl
noncomputable def K68 (k : Nat) : List (Nat × CallI) := (71, ⟨I71, impl_IsName k⟩) :: K67 k
theorem c71 (k : Nat) (h : TabFn Tryz.prog (TB (K67 k))) : CallOK Tryz.prog 71 (I71.call (impl_IsName k)) := fun_ok (T := T71 k) (ls := (L71 k)) mixed (tab_with h _ _ _) I71 (impl_IsName k) Tryz.func71 (by kernel_rfl : Tryz.f71.body = some b71) (by kernel_rfl) (by decide) rfl (by kernel_rfl) ⟨rowB (f := SF71_4) (g := SG71_4) (h := SH71_4) (cs := [.str, .int .i64]) (co := []) (cr := [.bool]) (e := 0) k (impl_IsName_4 k) ⟨by decide, by decide, by decide⟩ (fun _ => rfl) (l71_4 k), trivial⟩ (e71 k) (fun h => Bool.noConfusion h)
theorem t71 (k : Nat) (h : TabFn Tryz.prog (TB (K67 k))) : TabFn Tryz.prog (TB (K68 k)) := tc_cons h (by kernel_rfl) (c71 k h) (enter_of Tryz.func71 (by kernel_rfl) (by kernel_rfl))
noncomputable def b43 : Code := Tryz.f43.body.getD .skip
noncomputable def T43 (k : Nat) : Tab := { TB (K68 k) with loop := lookL (L43 k), join := J43, np := false }
theorem l43_4 (k n : Nat) (x : HT [.sl (.pair (.int .i64) (.int .i64)), .int .i64, .int .i64, .int .i64, .int .i64, .sl (.pair (.int .i64) (.int .i64)), .sl (.pair .str (.sl (.int .i64)))]) : impl_ValidDrawing_4 k (n + 1) x = ev (T43 k) (findB (bodies b43) 4) (SF43_4.mk' [.sl (.pair (.int .i64) (.int .i64)), .int .i64, .int .i64, .int .i64, .int .i64, .sl (.pair (.int .i64) (.int .i64)), .sl (.pair .str (.sl (.int .i64)))] x) (outB 0 SG43_4 [.int .i64, .int .i64, .sl (.pair (.int .i64) (.int .i64)), .sl (.pair .str (.sl (.int .i64)))] SH43_4 [.bool] SF43_4 [.sl (.pair (.int .i64) (.int .i64)), .int .i64, .int .i64, .int .i64, .int .i64, .sl (.pair (.int .i64) (.int .i64)), .sl (.pair .str (.sl (.int .i64)))] (impl_ValidDrawing_4 k n)) := by kernel_rfl
theorem l43_10 (k n : Nat) (x : HT [.sl (.pair .str (.sl (.int .i64))), .int .i64, .int .i64, .int .i64, .int .i64, .sl (.pair (.int .i64) (.int .i64)), .sl (.pair .str (.sl (.int .i64)))]) : impl_ValidDrawing_10 k (n + 1) x = ev (T43 k) (findB (bodies b43) 10) (SF43_10.mk' [.sl (.pair .str (.sl (.int .i64))), .int .i64, .int .i64, .int .i64, .int .i64, .sl (.pair (.int .i64) (.int .i64)), .sl (.pair .str (.sl (.int .i64)))] x) (outB 2 SG43_10 [] SH43_10 [.bool] SF43_10 [.sl (.pair .str (.sl (.int .i64))), .int .i64, .int .i64, .int .i64, .int .i64, .sl (.pair (.int .i64) (.int .i64)), .sl (.pair .str (.sl (.int .i64)))] (impl_ValidDrawing_10 k n)) := by kernel_rfl
theorem e43 (k : Nat) (x : HT I43.cs) : impl_ValidDrawing k x = I43.body (T43 k) Tryz.f43 b43 x := by kernel_rfl
noncomputable def K69 (k : Nat) : List (Nat × CallI) := (43, ⟨I43, impl_ValidDrawing k⟩) :: K68 k
theorem c43 (k : Nat) (h : TabFn Tryz.prog (TB (K68 k))) : CallOK Tryz.prog 43 (I43.call (impl_ValidDrawing k)) := fun_ok (T := T43 k) (ls := (L43 k)) mixed (tab_with h _ _ _) I43 (impl_ValidDrawing k) Tryz.func43 (by kernel_rfl : Tryz.f43.body = some b43) (by kernel_rfl) (by decide) rfl (by kernel_rfl) ⟨rowB (f := SF43_4) (g := SG43_4) (h := SH43_4) (cs := [.sl (.pair (.int .i64) (.int .i64)), .int .i64, .int .i64, .int .i64, .int .i64, .sl (.pair (.int .i64) (.int .i64)), .sl (.pair .str (.sl (.int .i64)))]) (co := [.int .i64, .int .i64, .sl (.pair (.int .i64) (.int .i64)), .sl (.pair .str (.sl (.int .i64)))]) (cr := [.bool]) (e := 0) k (impl_ValidDrawing_4 k) ⟨by decide, by decide, by decide⟩ (fun _ => rfl) (l43_4 k), rowB (f := SF43_10) (g := SG43_10) (h := SH43_10) (cs := [.sl (.pair .str (.sl (.int .i64))), .int .i64, .int .i64, .int .i64, .int .i64, .sl (.pair (.int .i64) (.int .i64)), .sl (.pair .str (.sl (.int .i64)))]) (co := []) (cr := [.bool]) (e := 2) k (impl_ValidDrawing_10 k) ⟨by decide, by decide, by decide⟩ (fun _ => rfl) (l43_10 k), trivial⟩ (e43 k) (fun h => Bool.noConfusion h)
theorem t43 (k : Nat) (h : TabFn Tryz.prog (TB (K68 k))) : TabFn Tryz.prog (TB (K69 k)) := tc_cons h (by kernel_rfl) (c43 k h) (enter_of Tryz.func43 (by kernel_rfl) (by kernel_rfl))
noncomputable def b109 : Code := Tryz.f109.body.getD .skip
noncomputable def T109 (k : Nat) : Tab := { TB (K69 k) with loop := lookL [], join := (fun _ => []), np := false }
theorem e109 (k : Nat) (x : HT I109.cs) : impl_SpeciesData k x = I109.body (T109 k) Tryz.f109 b109 x := by kernel_rfl
noncomputable def K70 (k : Nat) : List (Nat × CallI) := (109, ⟨I109, impl_SpeciesData k⟩) :: K69 k
theorem c109 (k : Nat) (h : TabFn Tryz.prog (TB (K69 k))) : CallOK Tryz.prog 109 (I109.call (impl_SpeciesData k)) := fun_ok (T := T109 k) (ls := []) mixed (tab_with h _ _ _) I109 (impl_SpeciesData k) Tryz.func109 (by kernel_rfl : Tryz.f109.body = some b109) (by kernel_rfl) (by decide) rfl (by kernel_rfl) trivial (e109 k) (fun h => Bool.noConfusion h)
theorem t109 (k : Nat) (h : TabFn Tryz.prog (TB (K69 k))) : TabFn Tryz.prog (TB (K70 k)) := tc_cons h (by kernel_rfl) (c109 k h) (enter_of Tryz.func109 (by kernel_rfl) (by kernel_rfl))
noncomputable def b99 : Code := Tryz.f99.body.getD .skip
noncomputable def T99 (k : Nat) : Tab := { TB (K70 k) with loop := lookL [], join := (fun _ => []), np := false }
theorem e99 (k : Nat) (x : HT I99.cs) : impl_speciesShade k x = I99.body (T99 k) Tryz.f99 b99 x := by kernel_rfl
noncomputable def K71 (k : Nat) : List (Nat × CallI) := (99, ⟨I99, impl_speciesShade k⟩) :: K70 k
theorem c99 (k : Nat) (h : TabFn Tryz.prog (TB (K70 k))) : CallOK Tryz.prog 99 (I99.call (impl_speciesShade k)) := fun_ok (T := T99 k) (ls := []) mixed (tab_with h _ _ _) I99 (impl_speciesShade k) Tryz.func99 (by kernel_rfl : Tryz.f99.body = some b99) (by kernel_rfl) (by decide) rfl (by kernel_rfl) trivial (e99 k) (fun h => Bool.noConfusion h)
theorem t99 (k : Nat) (h : TabFn Tryz.prog (TB (K70 k))) : TabFn Tryz.prog (TB (K71 k)) := tc_cons h (by kernel_rfl) (c99 k h) (enter_of Tryz.func99 (by kernel_rfl) (by kernel_rfl))
noncomputable def b74 : Code := Tryz.f74.body.getD .skip
noncomputable def T74 (k : Nat) : Tab := { TB (K71 k) with loop := lookL [], join := (fun _ => []), np := false }
theorem e74 (k : Nat) (x : HT I74.cs) : impl_ValidVeneer k x = I74.body (T74 k) Tryz.f74 b74 x := by kernel_rfl
noncomputable def K72 (k : Nat) : List (Nat × CallI) := (74, ⟨I74, impl_ValidVeneer k⟩) :: K71 k
theorem c74 (k : Nat) (h : TabFn Tryz.prog (TB (K71 k))) : CallOK Tryz.prog 74 (I74.call (impl_ValidVeneer k)) := fun_ok (T := T74 k) (ls := []) mixed (tab_with h _ _ _) I74 (impl_ValidVeneer k) Tryz.func74 (by kernel_rfl : Tryz.f74.body = some b74) (by kernel_rfl) (by decide) rfl (by kernel_rfl) trivial (e74 k) (fun h => Bool.noConfusion h)
theorem t74 (k : Nat) (h : TabFn Tryz.prog (TB (K71 k))) : TabFn Tryz.prog (TB (K72 k)) := tc_cons h (by kernel_rfl) (c74 k h) (enter_of Tryz.func74 (by kernel_rfl) (by kernel_rfl))
noncomputable def b73 : Code := Tryz.f73.body.getD .skip
noncomputable def T73 (k : Nat) : Tab := { TB (K72 k) with loop := lookL [], join := (fun _ => []), np := false }
theorem e73 (k : Nat) (x : HT I73.cs) : impl_validVeneers_1 k x = I73.body (T73 k) Tryz.f73 b73 x := by kernel_rfl
noncomputable def K73 (k : Nat) : List (Nat × CallI) := (73, ⟨I73, impl_validVeneers_1 k⟩) :: K72 k
theorem c73 (k : Nat) (h : TabFn Tryz.prog (TB (K72 k))) : CallOK Tryz.prog 73 (I73.call (impl_validVeneers_1 k)) := fun_ok (T := T73 k) (ls := []) mixed (tab_with h _ _ _) I73 (impl_validVeneers_1 k) Tryz.func73 (by kernel_rfl : Tryz.f73.body = some b73) (by kernel_rfl) (by decide) rfl (by kernel_rfl) trivial (e73 k) (fun h => Bool.noConfusion h)
theorem t73 (k : Nat) (h : TabFn Tryz.prog (TB (K72 k))) : TabFn Tryz.prog (TB (K73 k)) := tc_cons h (by kernel_rfl) (c73 k h) (enter_of Tryz.func73 (by kernel_rfl) (by kernel_rfl))
noncomputable def b98 : Code := Tryz.f98.body.getD .skip
noncomputable def T98 (k : Nat) : Tab := { TB (K73 k) with loop := lookL (L98 k), join := (fun _ => []), np := false }
theorem l98_2 (k n : Nat) (x : HT [.sl (.pair .str (.pair (.int .i64) (.int .i64))), .int .i64, .int .i64]) : slices_IndexFunc_2 k (n + 1) x = ev (T98 k) (findB (bodies b98) 2) (SF98_2.mk' [.sl (.pair .str (.pair (.int .i64) (.int .i64))), .int .i64, .int .i64] x) (outB 0 SG98_2 [] SH98_2 [.int .i64] SF98_2 [.sl (.pair .str (.pair (.int .i64) (.int .i64))), .int .i64, .int .i64] (slices_IndexFunc_2 k n)) := by kernel_rfl
theorem e98 (k : Nat) (x : HT I98.cs) : slices_IndexFunc k x = I98.body (T98 k) Tryz.f98 b98 x := by kernel_rfl
noncomputable def K74 (k : Nat) : List (Nat × CallI) := (98, ⟨I98, slices_IndexFunc k⟩) :: K73 k
theorem c98 (k : Nat) (h : TabFn Tryz.prog (TB (K73 k))) : CallOK Tryz.prog 98 (I98.call (slices_IndexFunc k)) := fun_ok (T := T98 k) (ls := (L98 k)) mixed (tab_with h _ _ _) I98 (slices_IndexFunc k) Tryz.func98 (by kernel_rfl : Tryz.f98.body = some b98) (by kernel_rfl) (by decide) rfl (by kernel_rfl) ⟨rowB (f := SF98_2) (g := SG98_2) (h := SH98_2) (cs := [.sl (.pair .str (.pair (.int .i64) (.int .i64))), .int .i64, .int .i64]) (co := []) (cr := [.int .i64]) (e := 0) k (slices_IndexFunc_2 k) ⟨by decide, by decide, by decide⟩ (fun _ => rfl) (l98_2 k), trivial⟩ (e98 k) (fun h => Bool.noConfusion h)
theorem t98 (k : Nat) (h : TabFn Tryz.prog (TB (K73 k))) : TabFn Tryz.prog (TB (K74 k)) := tc_cons h (by kernel_rfl) (c98 k h) (enter_of Tryz.func98 (by kernel_rfl) (by kernel_rfl))
noncomputable def b72 : Code := Tryz.f72.body.getD .skip
noncomputable def T72 (k : Nat) : Tab := { TB (K74 k) with loop := lookL [], join := (fun _ => []), np := false }
theorem e72 (k : Nat) (x : HT I72.cs) : slices_ContainsFunc k x = I72.body (T72 k) Tryz.f72 b72 x := by kernel_rfl
noncomputable def K75 (k : Nat) : List (Nat × CallI) := (72, ⟨I72, slices_ContainsFunc k⟩) :: K74 k
theorem c72 (k : Nat) (h : TabFn Tryz.prog (TB (K74 k))) : CallOK Tryz.prog 72 (I72.call (slices_ContainsFunc k)) := fun_ok (T := T72 k) (ls := []) mixed (tab_with h _ _ _) I72 (slices_ContainsFunc k) Tryz.func72 (by kernel_rfl : Tryz.f72.body = some b72) (by kernel_rfl) (by decide) rfl (by kernel_rfl) trivial (e72 k) (fun h => Bool.noConfusion h)
theorem t72 (k : Nat) (h : TabFn Tryz.prog (TB (K74 k))) : TabFn Tryz.prog (TB (K75 k)) := tc_cons h (by kernel_rfl) (c72 k h) (enter_of Tryz.func72 (by kernel_rfl) (by kernel_rfl))
noncomputable def b44 : Code := Tryz.f44.body.getD .skip
noncomputable def T44 (k : Nat) : Tab := { TB (K75 k) with loop := lookL [], join := (fun _ => []), np := false }
theorem e44 (k : Nat) (x : HT I44.cs) : impl_validVeneers k x = I44.body (T44 k) Tryz.f44 b44 x := by kernel_rfl
noncomputable def K76 (k : Nat) : List (Nat × CallI) := (44, ⟨I44, impl_validVeneers k⟩) :: K75 k
theorem c44 (k : Nat) (h : TabFn Tryz.prog (TB (K75 k))) : CallOK Tryz.prog 44 (I44.call (impl_validVeneers k)) := fun_ok (T := T44 k) (ls := []) mixed (tab_with h _ _ _) I44 (impl_validVeneers k) Tryz.func44 (by kernel_rfl : Tryz.f44.body = some b44) (by kernel_rfl) (by decide) rfl (by kernel_rfl) trivial (e44 k) (fun h => Bool.noConfusion h)
theorem t44 (k : Nat) (h : TabFn Tryz.prog (TB (K75 k))) : TabFn Tryz.prog (TB (K76 k)) := tc_cons h (by kernel_rfl) (c44 k h) (enter_of Tryz.func44 (by kernel_rfl) (by kernel_rfl))
noncomputable def b20 : Code := Tryz.f20.body.getD .skip
noncomputable def T20 (k : Nat) : Tab := { TB (K76 k) with loop := lookL [], join := (fun _ => []), np := false }
theorem e20 (k : Nat) (x : HT I20.cs) : impl_ValidPicture k x = I20.body (T20 k) Tryz.f20 b20 x := by kernel_rfl
noncomputable def K77 (k : Nat) : List (Nat × CallI) := (20, ⟨I20, impl_ValidPicture k⟩) :: K76 k
theorem c20 (k : Nat) (h : TabFn Tryz.prog (TB (K76 k))) : CallOK Tryz.prog 20 (I20.call (impl_ValidPicture k)) := fun_ok (T := T20 k) (ls := []) mixed (tab_with h _ _ _) I20 (impl_ValidPicture k) Tryz.func20 (by kernel_rfl : Tryz.f20.body = some b20) (by kernel_rfl) (by decide) rfl (by kernel_rfl) trivial (e20 k) (fun h => Bool.noConfusion h)
theorem t20 (k : Nat) (h : TabFn Tryz.prog (TB (K76 k))) : TabFn Tryz.prog (TB (K77 k)) := tc_cons h (by kernel_rfl) (c20 k h) (enter_of Tryz.func20 (by kernel_rfl) (by kernel_rfl))
noncomputable def K78 (k : Nat) : List (Nat × CallI) := (100, ⟨I100, slices_Clone k⟩) :: K77 k
theorem t100 (k : Nat) (h : TabFn Tryz.prog (TB (K77 k))) : TabFn Tryz.prog (TB (K78 k)) := tc_cons h (by kernel_rfl) (c100 k) (enter_of Tryz.func100 (by kernel_rfl) (by kernel_rfl))
noncomputable def K79 (k : Nat) : List (Nat × CallI) := (101, ⟨I101, slices_Clone_101 k⟩) :: K78 k
theorem t101 (k : Nat) (h : TabFn Tryz.prog (TB (K78 k))) : TabFn Tryz.prog (TB (K79 k)) := tc_cons h (by kernel_rfl) (c101 k) (enter_of Tryz.func101 (by kernel_rfl) (by kernel_rfl))
noncomputable def b75 : Code := Tryz.f75.body.getD .skip
noncomputable def T75 (k : Nat) : Tab := { TB (K79 k) with loop := lookL (L75 k), join := (fun _ => []), np := false }
theorem l75_3 (k n : Nat) (x : HT [.sl (.pair .str (.sl (.int .i64))), .int .i64, .int .i64, .int .i64, .int .i64, .int .i64, .int .i64, .sl (.pair (.int .i64) (.int .i64)), .sl (.pair .str (.sl (.int .i64))), .sl (.pair (.int .i64) (.int .i64)), .sl (.pair .str (.sl (.int .i64)))]) : impl_copyDrawing_3 k (n + 1) x = ev (T75 k) (findB (bodies b75) 3) (SF75_3.mk' [.sl (.pair .str (.sl (.int .i64))), .int .i64, .int .i64, .int .i64, .int .i64, .int .i64, .int .i64, .sl (.pair (.int .i64) (.int .i64)), .sl (.pair .str (.sl (.int .i64))), .sl (.pair (.int .i64) (.int .i64)), .sl (.pair .str (.sl (.int .i64)))] x) (outA 0 SG75_3 [.int .i64, .int .i64, .int .i64, .int .i64, .sl (.pair (.int .i64) (.int .i64)), .sl (.pair .str (.sl (.int .i64))), .sl (.pair (.int .i64) (.int .i64)), .sl (.pair .str (.sl (.int .i64)))] SF75_3 [.sl (.pair .str (.sl (.int .i64))), .int .i64, .int .i64, .int .i64, .int .i64, .int .i64, .int .i64, .sl (.pair (.int .i64) (.int .i64)), .sl (.pair .str (.sl (.int .i64))), .sl (.pair (.int .i64) (.int .i64)), .sl (.pair .str (.sl (.int .i64)))] (impl_copyDrawing_3 k n)) := by kernel_rfl
theorem e75 (k : Nat) (x : HT I75.cs) : impl_copyDrawing k x = I75.body (T75 k) Tryz.f75 b75 x := by kernel_rfl
noncomputable def K80 (k : Nat) : List (Nat × CallI) := (75, ⟨I75, impl_copyDrawing k⟩) :: K79 k
theorem c75 (k : Nat) (h : TabFn Tryz.prog (TB (K79 k))) : CallOK Tryz.prog 75 (I75.call (impl_copyDrawing k)) := fun_ok (T := T75 k) (ls := (L75 k)) mixed (tab_with h _ _ _) I75 (impl_copyDrawing k) Tryz.func75 (by kernel_rfl : Tryz.f75.body = some b75) (by kernel_rfl) (by decide) rfl (by kernel_rfl) ⟨rowA (f := SF75_3) (g := SG75_3) (cs := [.sl (.pair .str (.sl (.int .i64))), .int .i64, .int .i64, .int .i64, .int .i64, .int .i64, .int .i64, .sl (.pair (.int .i64) (.int .i64)), .sl (.pair .str (.sl (.int .i64))), .sl (.pair (.int .i64) (.int .i64)), .sl (.pair .str (.sl (.int .i64)))]) (co := [.int .i64, .int .i64, .int .i64, .int .i64, .sl (.pair (.int .i64) (.int .i64)), .sl (.pair .str (.sl (.int .i64))), .sl (.pair (.int .i64) (.int .i64)), .sl (.pair .str (.sl (.int .i64)))]) (e := 0) k (impl_copyDrawing_3 k) ⟨by decide, by decide⟩ (fun _ => rfl) (l75_3 k), trivial⟩ (e75 k) (fun h => Bool.noConfusion h)
theorem t75 (k : Nat) (h : TabFn Tryz.prog (TB (K79 k))) : TabFn Tryz.prog (TB (K80 k)) := tc_cons h (by kernel_rfl) (c75 k h) (enter_of Tryz.func75 (by kernel_rfl) (by kernel_rfl))
noncomputable def K81 (k : Nat) : List (Nat × CallI) := (76, ⟨I76, slices_Clone_76 k⟩) :: K80 k
theorem t76 (k : Nat) (h : TabFn Tryz.prog (TB (K80 k))) : TabFn Tryz.prog (TB (K81 k)) := tc_cons h (by kernel_rfl) (c76 k) (enter_of Tryz.func76 (by kernel_rfl) (by kernel_rfl))
end Go.Proofs.YtmklecafnhdnmaaGreatV

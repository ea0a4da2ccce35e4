/- Functions; no condition. -/
import Derived.Test.YtgcioclfplafkaaGreatB02
import Derived.KernelRfl
set_option linter.all false
set_option maxRecDepth 100000
section
namespace Go.Proofs.YtgcioclfplafkaaGreatV
open Go Go.RowKit Go.Proofs
set_option maxHeartbeats 4000000
theorem c5 (k : Nat) (h : TF (K10 k) (D0 k)) : CallOK Tryz.prog 5 (I5.call (laws_szLeafS k)) := fo (c := b5) (l := L5 k) (j := N) h I5 (laws_szLeafS k) ⟨rB SF5_5 SG5_5 SH5_5 CS5_5 CO5_5 CR5_5 k (laws_szLeafS_5 k), trivial⟩ Tryz.func5
theorem c80 (k : Nat) (h : TF (K18 k) (D0 k)) : CallOK Tryz.prog 80 (I80.call (spec_l00Max k)) := fo (c := b80) (l := []) (j := N) h I80 (spec_l00Max k) trivial Tryz.func80
theorem c113 (k : Nat) (h : TF (K35 k) (D0 k)) : CallOK Tryz.prog 113 (I113.call (spec_l09Box k)) := fo (c := b113) (l := []) (j := N) h I113 (spec_l09Box k) trivial Tryz.func113
theorem c46 (k : Nat) (h : TF (K38 k) (D0 k)) : CallOK Tryz.prog 46 (I46.call (spec_l11Rules k)) := fo (c := b46) (l := []) (j := N) h I46 (spec_l11Rules k) trivial Tryz.func46
theorem c114 (k : Nat) (h : TF (K51 k) (D0 k)) : CallOK Tryz.prog 114 (I114.call (spec_l04Triangles k)) := fo (c := b114) (l := L114 k) (j := J114) h I114 (spec_l04Triangles k) ⟨rA SF114_6 SG114_6 CS114_6 CO114_6 k (spec_l04Triangles_6 k), rA SF114_3 SG114_3 CS114_3 CO114_3 k (spec_l04Triangles_3 k), trivial⟩ Tryz.func114
theorem c115 (k : Nat) (h : TF (K52 k) (D0 k)) : CallOK Tryz.prog 115 (I115.call (spec_l04Parted k)) := fo (c := b115) (l := L115 k) (j := N) h I115 (spec_l04Parted k) ⟨rA SF115_6 SG115_6 CS115_6 CO115_6 k (spec_l04Parted_6 k), rB SF115_2 SG115_2 SH115_2 CS115_2 CO115_2 CR115_2 k (spec_l04Parted_2 k), trivial⟩ Tryz.func115
theorem c143 (k : Nat) (h : TF (K59 k) (D0 k)) : CallOK Tryz.prog 143 (I143.call (spec_l02Touches k)) := fo (c := b143) (l := []) (j := N) h I143 (spec_l02Touches k) trivial Tryz.func143
theorem c164 (k : Nat) (h : TF (K62 k) (D0 k)) : CallOK Tryz.prog 164 (I164.call (spec_l02Apart k)) := fo (c := b164) (l := []) (j := N) h I164 (spec_l02Apart k) trivial Tryz.func164
theorem c144 (k : Nat) (h : TF (K63 k) (D0 k)) : CallOK Tryz.prog 144 (I144.call (spec_l02Far k)) := fo (c := b144) (l := []) (j := N) h I144 (spec_l02Far k) trivial Tryz.func144
theorem c57 (k : Nat) (h : TF (K75 k) (D0 k)) : CallOK Tryz.prog 57 (I57.call (laws_toVeneer k)) := fo (c := b57) (l := []) (j := N) h I57 (laws_toVeneer k) trivial Tryz.func57
theorem c26 (k : Nat) (h : TF (K76 k) (D0 k)) : CallOK Tryz.prog 26 (I26.call (laws_toVeneerS k)) := fo (c := b26) (l := L26 k) (j := N) h I26 (laws_toVeneerS k) ⟨rA SF26_3 SG26_3 CS26_3 CO26_3 k (laws_toVeneerS_3 k), trivial⟩ Tryz.func26
theorem c58 (k : Nat) (h : TF (K79 k) (D0 k)) : CallOK Tryz.prog 58 (I58.call (laws_toBoxS k)) := fo (c := b58) (l := L58 k) (j := N) h I58 (laws_toBoxS k) ⟨rA SF58_3 SG58_3 CS58_3 CO58_3 k (laws_toBoxS_3 k), trivial⟩ Tryz.func58
theorem c122 (k : Nat) (h : TF (K102 k) (D0 k)) : CallOK Tryz.prog 122 (I122.call (slices_ContainsFunc k)) := fo (c := b122) (l := []) (j := N) h I122 (slices_ContainsFunc k) trivial Tryz.func122
theorem c169 (k : Nat) (h : TF (K119 k) (D4 k)) : CallOK Tryz.prog 169 (I169.call (impl_inTriangle k)) := fo (c := b169) (l := []) (j := N) h I169 (impl_inTriangle k) trivial Tryz.func169
theorem c174 (k : Nat) (h : TF (K130 k) (D5 k)) : CallOK Tryz.prog 174 (I174.call (bits_Div64 k)) := fo (c := b174) (l := []) (j := J174) h I174 (bits_Div64 k) trivial Tryz.func174
theorem e31 (k : Nat) (x : HT I31.cs) : impl_nest_put k x = I31.body (T31 k) Tryz.f31 b31 x := by kernel_rfl
theorem c31 (k : Nat) (h : TabFn Tryz.prog (TB (K136 k) (D5 k))) : ProcOK Tryz.prog 31 (I31.call (impl_nest_put k)) := proc_ok (T := T31 k) (ls := []) mixed (tab_with h _ _ false true (fun _ => rfl)) I31 (impl_nest_put k) Tryz.func31 (by kernel_rfl : Tryz.f31.body = some b31) rfl (by kernel_rfl) trivial (e31 k) rfl
theorem e30 (k : Nat) (x : HT I30.cs) : impl_GreedyNesting_1 k x = I30.body (T30 k) Tryz.f30 b30 x := by kernel_rfl
theorem c30 (k : Nat) (h : TabFn Tryz.prog (TB (K136 k) (D6 k))) : ProcOK Tryz.prog 30 (I30.call (impl_GreedyNesting_1 k)) := proc_ok (T := T30 k) (ls := []) mixed (tab_with h _ _ false true (fun _ => rfl)) I30 (impl_GreedyNesting_1 k) Tryz.func30 (by kernel_rfl : Tryz.f30.body = some b30) rfl (by kernel_rfl) trivial (e30 k) rfl
theorem c72 (k : Nat) (h : TF (K145 k) (D8 k)) : CallOK Tryz.prog 72 (I72.call (laws_eqVeneer k)) := fo (c := b72) (l := []) (j := N) h I72 (laws_eqVeneer k) trivial Tryz.func72
theorem c38 (k : Nat) (h : TF (K153 k) (D8 k)) : CallOK Tryz.prog 38 (I38.call (laws_markText k)) := fo (c := b38) (l := L38 k) (j := N) h I38 (laws_markText k) ⟨rA SF38_4 SG38_4 CS38_4 CO38_4 k (laws_markText_4 k), trivial⟩ Tryz.func38
theorem c37 (k : Nat) (h : TF (K157 k) (D8 k)) : CallOK Tryz.prog 37 (I37.call (laws_markVeneerS k)) := fo (c := b37) (l := L37 k) (j := N) h I37 (laws_markVeneerS k) ⟨rA SF37_2 SG37_2 CS37_2 CO37_2 k (laws_markVeneerS_2 k), trivial⟩ Tryz.func37
theorem c39 (k : Nat) (h : TF (K159 k) (D8 k)) : CallOK Tryz.prog 39 (I39.call (laws_markBoxS k)) := fo (c := b39) (l := L39 k) (j := N) h I39 (laws_markBoxS k) ⟨rA SF39_2 SG39_2 CS39_2 CO39_2 k (laws_markBoxS_2 k), trivial⟩ Tryz.func39
theorem c3 (k : Nat) (h : TF (K163 k) (D8 k)) : CallOK Tryz.prog 3 (I3.call (laws_FnExactGreedyNesting k)) := fo (c := b3) (l := []) (j := J3) h I3 (laws_FnExactGreedyNesting k) trivial Tryz.func3
end Go.Proofs.YtgcioclfplafkaaGreatV
end
section
namespace Go.Proofs.YtgcioclfplafkaaGreatV
open Go Go.RowKit Go.Proofs
set_option maxHeartbeats 4000000
theorem c47 (k : Nat) (h : TF (K11 k) (D0 k)) : CallOK Tryz.prog 47 (I47.call (spec_l00In k)) := fo (c := b47) (l := []) (j := N) h I47 (spec_l00In k) trivial Tryz.func47
theorem c109 (k : Nat) (h : TF (K13 k) (D0 k)) : CallOK Tryz.prog 109 (I109.call (spec_l05Points k)) := fo (c := b109) (l := L109 k) (j := J109) h I109 (spec_l05Points k) ⟨rB SF109_9 SG109_9 SH109_9 CS109_9 CO109_9 CR109_9 k (spec_l05Points_9 k), rB SF109_4 SG109_4 SH109_4 CS109_4 CO109_4 CR109_4 k (spec_l05Points_4 k), trivial⟩ Tryz.func109
theorem c83 (k : Nat) (h : TF (K19 k) (D0 k)) : CallOK Tryz.prog 83 (I83.call (spec_l00Min k)) := fo (c := b83) (l := []) (j := N) h I83 (spec_l00Min k) trivial Tryz.func83
theorem c135 (k : Nat) (h : TF (K22 k) (D0 k)) : CallOK Tryz.prog 135 (I135.call (spec_l02On k)) := fo (c := b135) (l := []) (j := N) h I135 (spec_l02On k) trivial Tryz.func135
theorem c44 (k : Nat) (h : TF (K34 k) (D0 k)) : CallOK Tryz.prog 44 (I44.call (spec_l08Ok k)) := fo (c := b44) (l := []) (j := N) h I44 (spec_l08Ok k) trivial Tryz.func44
theorem c84 (k : Nat) (h : TF (K45 k) (D0 k)) : CallOK Tryz.prog 84 (I84.call (spec_l02Turned k)) := fo (c := b84) (l := L84 k) (j := N) h I84 (spec_l02Turned k) ⟨rA SF84_4 SG84_4 CS84_4 CO84_4 k (spec_l02Turned_4 k), trivial⟩ Tryz.func84
theorem c85 (k : Nat) (h : TF (K46 k) (D0 k)) : CallOK Tryz.prog 85 (I85.call (spec_l03Shifted k)) := fo (c := b85) (l := L85 k) (j := N) h I85 (spec_l03Shifted k) ⟨rA SF85_3 SG85_3 CS85_3 CO85_3 k (spec_l03Shifted_3 k), trivial⟩ Tryz.func85
theorem c51 (k : Nat) (h : TF (K48 k) (D0 k)) : CallOK Tryz.prog 51 (I51.call (spec_l05Polygon k)) := fo (c := b51) (l := []) (j := N) h I51 (spec_l05Polygon k) trivial Tryz.func51
theorem c88 (k : Nat) (h : TF (K54 k) (D0 k)) : CallOK Tryz.prog 88 (I88.call (spec_l11Box k)) := fo (c := b88) (l := []) (j := N) h I88 (spec_l11Box k) trivial Tryz.func88
theorem c54 (k : Nat) (h : TF (K66 k) (D0 k)) : CallOK Tryz.prog 54 (I54.call (spec_l11Near k)) := fo (c := b54) (l := []) (j := J54) h I54 (spec_l11Near k) trivial Tryz.func54
theorem c120 (k : Nat) (h : TF (K87 k) (D0 k)) : CallOK Tryz.prog 120 (I120.call (impl_IsName k)) := fo (c := b120) (l := L120 k) (j := J120) h I120 (impl_IsName k) ⟨rB SF120_4 SG120_4 SH120_4 CS120_4 CO120_4 CR120_4 k (impl_IsName_4 k), trivial⟩ Tryz.func120
theorem c166 (k : Nat) (h : TF (K88 k) (D0 k)) : CallOK Tryz.prog 166 (I166.call (impl_ValidPoint k)) := fo (c := b166) (l := []) (j := N) h I166 (impl_ValidPoint k) trivial Tryz.func166
theorem c167 (k : Nat) (h : TF (K92 k) (D0 k)) : CallOK Tryz.prog 167 (I167.call (impl_crossing k)) := fo (c := b167) (l := []) (j := N) h I167 (impl_crossing k) trivial Tryz.func167
theorem c121 (k : Nat) (h : TF (K95 k) (D0 k)) : CallOK Tryz.prog 121 (I121.call (impl_ValidPolygon k)) := fo (c := b121) (l := L121 k) (j := J121) h I121 (impl_ValidPolygon k) ⟨rB SF121_11 SG121_11 SH121_11 CS121_11 CO121_11 CR121_11 k (impl_ValidPolygon_11 k), rB SF121_5 SG121_5 SH121_5 CS121_5 CO121_5 CR121_5 k (impl_ValidPolygon_5 k), trivial⟩ Tryz.func121
theorem c93 (k : Nat) (h : TF (K96 k) (D0 k)) : CallOK Tryz.prog 93 (I93.call (impl_ValidDrawing k)) := fo (c := b93) (l := L93 k) (j := J93) h I93 (impl_ValidDrawing k) ⟨rB SF93_4 SG93_4 SH93_4 CS93_4 CO93_4 CR93_4 k (impl_ValidDrawing_4 k), rB SF93_10 SG93_10 SH93_10 CS93_10 CO93_10 CR93_10 k (impl_ValidDrawing_10 k), trivial⟩ Tryz.func93
theorem c123 (k : Nat) (h : TF (K100 k) (D0 k)) : CallOK Tryz.prog 123 (I123.call (impl_validVeneers_1 k)) := fo (c := b123) (l := []) (j := N) h I123 (impl_validVeneers_1 k) trivial Tryz.func123
theorem c150 (k : Nat) (h : TF (K101 k) (D0 k)) : CallOK Tryz.prog 150 (I150.call (slices_IndexFunc k)) := fo (c := b150) (l := L150 k) (j := N) h I150 (slices_IndexFunc k) ⟨rB SF150_2 SG150_2 SH150_2 CS150_2 CO150_2 CR150_2 k (slices_IndexFunc_2 k), trivial⟩ Tryz.func150
theorem c60 (k : Nat) (h : TF (K107 k) (D3 k)) : CallOK Tryz.prog 60 (I60.call (impl_ValidLeaves k)) := fo (c := b60) (l := L60 k) (j := J60) h I60 (impl_ValidLeaves k) ⟨rB SF60_2 SG60_2 SH60_2 CS60_2 CO60_2 CR60_2 k (impl_ValidLeaves_2 k), trivial⟩ Tryz.func60
theorem c28 (k : Nat) (h : TF (K109 k) (D3 k)) : CallOK Tryz.prog 28 (I28.call (impl_nestCode k)) := fo (c := b28) (l := L28 k) (j := N) h I28 (impl_nestCode k) ⟨rB SF28_6 SG28_6 SH28_6 CS28_6 CO28_6 CR28_6 k (impl_nestCode_6 k), trivial⟩ Tryz.func28
theorem c66 (k : Nat) (h : TF (K114 k) (D3 k)) : CallOK Tryz.prog 66 (I66.call (impl_bounds k)) := fo (c := b66) (l := L66 k) (j := N) h I66 (impl_bounds k) ⟨rA SF66_3 SG66_3 CS66_3 CO66_3 k (impl_bounds_3 k), trivial⟩ Tryz.func66
theorem c157 (k : Nat) (h : TF (K126 k) (D5 k)) : CallOK Tryz.prog 157 (I157.call (impl_inside k)) := fo (c := b157) (l := L157 k) (j := N) h I157 (impl_inside k) ⟨rB SF157_3 SG157_3 SH157_3 CS157_3 CO157_3 CR157_3 k (impl_inside_3 k), trivial⟩ Tryz.func157
theorem c14 (k : Nat) (h : TF (K158 k) (D8 k)) : CallOK Tryz.prog 14 (I14.call (laws_markPicture k)) := fo (c := b14) (l := []) (j := N) h I14 (laws_markPicture k) trivial Tryz.func14
end Go.Proofs.YtgcioclfplafkaaGreatV
end

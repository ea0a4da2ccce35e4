/- Functions; no condition. -/
import Derived.Test.YtgcioclfplafkaaGreatB02
import Derived.KernelRfl
set_option linter.all false
set_option maxRecDepth 100000
section
namespace Go.Proofs.YtgcioclfplafkaaGreatV
open Go Go.RowKit Go.Proofs
set_option maxHeartbeats 4000000
theorem c108 (k : Nat) (h : TF (K1 k) (D0 k)) : CallOK Tryz.prog 108 (I108.call (laws_szInt64S k)) := fo (c := b108) (l := []) (j := N) h I108 (laws_szInt64S k) trivial Tryz.func108
theorem c4 (k : Nat) (h : TF (K7 k) (D0 k)) : CallOK Tryz.prog 4 (I4.call (laws_szPicture k)) := fo (c := b4) (l := []) (j := N) h I4 (laws_szPicture k) trivial Tryz.func4
theorem c86 (k : Nat) (h : TF (K12 k) (D0 k)) : CallOK Tryz.prog 86 (I86.call (spec_l05Ring k)) := fo (c := b86) (l := L86 k) (j := N) h I86 (spec_l05Ring k) ⟨rB SF86_3 SG86_3 SH86_3 CS86_3 CO86_3 CR86_3 k (spec_l05Ring_3 k), trivial⟩ Tryz.func86
theorem c162 (k : Nat) (h : TF (K20 k) (D0 k)) : CallOK Tryz.prog 162 (I162.call (spec_l02Cross k)) := fo (c := b162) (l := []) (j := N) h I162 (spec_l02Cross k) trivial Tryz.func162
theorem c138 (k : Nat) (h : TF (K29 k) (D0 k)) : CallOK Tryz.prog 138 (I138.call (spec_l07Find k)) := fo (c := b138) (l := L138 k) (j := N) h I138 (spec_l07Find k) ⟨rB SF138_3 SG138_3 SH138_3 CS138_3 CO138_3 CR138_3 k (spec_l07Find_3 k), trivial⟩ Tryz.func138
theorem c48 (k : Nat) (h : TF (K43 k) (D0 k)) : CallOK Tryz.prog 48 (I48.call (spec_l11Veneer k)) := fo (c := b48) (l := []) (j := N) h I48 (spec_l11Veneer k) trivial Tryz.func48
theorem c52 (k : Nat) (h : TF (K55 k) (D0 k)) : CallOK Tryz.prog 52 (I52.call (spec_l11Leaf k)) := fo (c := b52) (l := L52 k) (j := J52) h I52 (spec_l11Leaf k) ⟨rB SF52_5 SG52_5 SH52_5 CS52_5 CO52_5 CR52_5 k (spec_l11Leaf_5 k), trivial⟩ Tryz.func52
theorem c23 (k : Nat) (h : TF (K57 k) (D0 k)) : CallOK Tryz.prog 23 (I23.call (spec_l11Places k)) := fo (c := b23) (l := L23 k) (j := N) h I23 (spec_l11Places k) ⟨rA SF23_15 SG23_15 CS23_15 CO23_15 k (spec_l11Places_15 k), rA SF23_12 SG23_12 CS23_12 CO23_12 k (spec_l11Places_12 k), rA SF23_7 SG23_7 CS23_7 CO23_7 k (spec_l11Places_7 k), rA SF23_3 SG23_3 CS23_3 CO23_3 k (spec_l11Places_3 k), trivial⟩ Tryz.func23
theorem c116 (k : Nat) (h : TF (K58 k) (D0 k)) : CallOK Tryz.prog 116 (I116.call (spec_l03Inside k)) := fo (c := b116) (l := L116 k) (j := J116) h I116 (spec_l03Inside k) ⟨rB SF116_3 SG116_3 SH116_3 CS116_3 CO116_3 CR116_3 k (spec_l03Inside_3 k), trivial⟩ Tryz.func116
theorem c163 (k : Nat) (h : TF (K60 k) (D0 k)) : CallOK Tryz.prog 163 (I163.call (spec_l02Square k)) := fo (c := b163) (l := []) (j := N) h I163 (spec_l02Square k) trivial Tryz.func163
theorem c92 (k : Nat) (h : TF (K78 k) (D0 k)) : CallOK Tryz.prog 92 (I92.call (laws_toBox k)) := fo (c := b92) (l := []) (j := N) h I92 (laws_toBox k) trivial Tryz.func92
theorem c9 (k : Nat) (h : TF (K82 k) (D0 k)) : CallOK Tryz.prog 9 (I9.call (laws_toRules k)) := fo (c := b9) (l := []) (j := N) h I9 (laws_toRules k) trivial Tryz.func9
theorem c124 (k : Nat) (h : TF (K99 k) (D0 k)) : CallOK Tryz.prog 124 (I124.call (impl_ValidVeneer k)) := fo (c := b124) (l := []) (j := N) h I124 (impl_ValidVeneer k) trivial Tryz.func124
theorem c63 (k : Nat) (h : TF (K110 k) (D3 k)) : CallOK Tryz.prog 63 (I63.call (impl_facePolygon k)) := fo (c := b63) (l := []) (j := N) h I63 (impl_facePolygon k) trivial Tryz.func63
theorem c98 (k : Nat) (h : TF (K112 k) (D3 k)) : CallOK Tryz.prog 98 (I98.call (impl_GrainAngle k)) := fo (c := b98) (l := []) (j := J98) h I98 (impl_GrainAngle k) trivial Tryz.func98
theorem l100_1 (k n : Nat) (x : HT CS100_1) : slices_Reverse_1 k (n + 1) x = ev (T100 k) (findB (bodies b100) 1) (SF100_1.mk' CS100_1 x) (outA 0 SG100_1 CO100_1 SF100_1 CS100_1 (slices_Reverse_1 k n)) := by kernel_rfl
theorem e100 (k : Nat) (x : HT I100.cs) : slices_Reverse k x = I100.body (T100 k) Tryz.f100 b100 x := by kernel_rfl
theorem c100 (k : Nat) (h : TabFn Tryz.prog (TB (K117 k) (D3 k))) : ProcOK Tryz.prog 100 (I100.call (slices_Reverse k)) := proc_ok (T := T100 k) (ls := (L100 k)) mixed (tab_with h _ _ false true (fun _ => rfl)) I100 (slices_Reverse k) Tryz.func100 (by kernel_rfl : Tryz.f100.body = some b100) rfl (by kernel_rfl) ⟨rowA (f := SF100_1) (g := SG100_1) (cs := CS100_1) (co := CO100_1) (e := 0) k (slices_Reverse_1 k) ⟨by decide, by decide⟩ (fun _ => rfl) (l100_1 k), trivial⟩ (e100 k) rfl
theorem c11 (k : Nat) (h : TF (K138 k) (D8 k)) : CallOK Tryz.prog 11 (I11.call (laws_eqPlacementS k)) := fo (c := b11) (l := L11 k) (j := N) h I11 (laws_eqPlacementS k) ⟨rB SF11_4 SG11_4 SH11_4 CS11_4 CO11_4 CR11_4 k (laws_eqPlacementS_4 k), trivial⟩ Tryz.func11
theorem c131 (k : Nat) (h : TF (K141 k) (D8 k)) : CallOK Tryz.prog 131 (I131.call (laws_eqInt64S k)) := fo (c := b131) (l := L131 k) (j := N) h I131 (laws_eqInt64S k) ⟨rB SF131_4 SG131_4 SH131_4 CS131_4 CO131_4 CR131_4 k (laws_eqInt64S_4 k), trivial⟩ Tryz.func131
theorem c71 (k : Nat) (h : TF (K143 k) (D8 k)) : CallOK Tryz.prog 71 (I71.call (laws_eqFaceS k)) := fo (c := b71) (l := L71 k) (j := N) h I71 (laws_eqFaceS k) ⟨rB SF71_4 SG71_4 SH71_4 CS71_4 CO71_4 CR71_4 k (laws_eqFaceS_4 k), trivial⟩ Tryz.func71
theorem c33 (k : Nat) (h : TF (K144 k) (D8 k)) : CallOK Tryz.prog 33 (I33.call (laws_eqDrawing k)) := fo (c := b33) (l := []) (j := N) h I33 (laws_eqDrawing k) trivial Tryz.func33
theorem c34 (k : Nat) (h : TF (K146 k) (D8 k)) : CallOK Tryz.prog 34 (I34.call (laws_eqVeneerS k)) := fo (c := b34) (l := L34 k) (j := N) h I34 (laws_eqVeneerS k) ⟨rB SF34_4 SG34_4 SH34_4 CS34_4 CO34_4 CR34_4 k (laws_eqVeneerS_4 k), trivial⟩ Tryz.func34
end Go.Proofs.YtgcioclfplafkaaGreatV
end
section
namespace Go.Proofs.YtgcioclfplafkaaGreatV
open Go Go.RowKit Go.Proofs
set_option maxHeartbeats 4000000
theorem c76 (k : Nat) (h : TF (K2 k) (D0 k)) : CallOK Tryz.prog 76 (I76.call (laws_szFace k)) := fo (c := b76) (l := []) (j := N) h I76 (laws_szFace k) trivial Tryz.func76
theorem c42 (k : Nat) (h : TF (K5 k) (D0 k)) : CallOK Tryz.prog 42 (I42.call (laws_szVeneer k)) := fo (c := b42) (l := []) (j := N) h I42 (laws_szVeneer k) trivial Tryz.func42
theorem c159 (k : Nat) (h : TF (K23 k) (D0 k)) : CallOK Tryz.prog 159 (I159.call (spec_l02Crosses k)) := fo (c := b159) (l := []) (j := N) h I159 (spec_l02Crosses k) trivial Tryz.func159
theorem c137 (k : Nat) (h : TF (K25 k) (D0 k)) : CallOK Tryz.prog 137 (I137.call (spec_l03Area k)) := fo (c := b137) (l := L137 k) (j := N) h I137 (spec_l03Area k) ⟨rA SF137_3 SG137_3 CS137_3 CO137_3 k (spec_l03Area_3 k), trivial⟩ Tryz.func137
theorem c78 (k : Nat) (h : TF (K33 k) (D0 k)) : CallOK Tryz.prog 78 (I78.call (spec_l08Veneers k)) := fo (c := b78) (l := L78 k) (j := N) h I78 (spec_l08Veneers k) ⟨rB SF78_2 SG78_2 SH78_2 CS78_2 CO78_2 CR78_2 k (spec_l08Veneers_2 k), trivial⟩ Tryz.func78
theorem c21 (k : Nat) (h : TF (K39 k) (D0 k)) : CallOK Tryz.prog 21 (I21.call (spec_l11Ask k)) := fo (c := b21) (l := []) (j := J21) h I21 (spec_l11Ask k) trivial Tryz.func21
theorem c22 (k : Nat) (h : TF (K40 k) (D0 k)) : CallOK Tryz.prog 22 (I22.call (spec_l11Step k)) := fo (c := b22) (l := L22 k) (j := N) h I22 (spec_l11Step k) ⟨rB SF22_4 SG22_4 SH22_4 CS22_4 CO22_4 CR22_4 k (spec_l11Step_4 k), trivial⟩ Tryz.func22
theorem c161 (k : Nat) (h : TF (K49 k) (D0 k)) : CallOK Tryz.prog 161 (I161.call (spec_l04In k)) := fo (c := b161) (l := []) (j := N) h I161 (spec_l04In k) trivial Tryz.func161
theorem c87 (k : Nat) (h : TF (K53 k) (D0 k)) : CallOK Tryz.prog 87 (I87.call (spec_l04Disjoint k)) := fo (c := b87) (l := L87 k) (j := J87) h I87 (spec_l04Disjoint k) ⟨rB SF87_7 SG87_7 SH87_7 CS87_7 CO87_7 CR87_7 k (spec_l04Disjoint_7 k), rB SF87_4 SG87_4 SH87_4 CS87_4 CO87_4 CR87_4 k (spec_l04Disjoint_4 k), trivial⟩ Tryz.func87
theorem c6 (k : Nat) (h : TF (K68 k) (D0 k)) : CallOK Tryz.prog 6 (I6.call (spec_GreedyNesting k)) := fo (c := b6) (l := L6 k) (j := J6) h I6 (spec_GreedyNesting k) ⟨rA SF6_13 SG6_13 CS6_13 CO6_13 k (spec_GreedyNesting_13 k), rB SF6_8 SG6_8 SH6_8 CS6_8 CO6_8 CR6_8 k (spec_GreedyNesting_8 k), trivial⟩ Tryz.func6
theorem c91 (k : Nat) (h : TF (K72 k) (D0 k)) : CallOK Tryz.prog 91 (I91.call (laws_toFace k)) := fo (c := b91) (l := []) (j := N) h I91 (laws_toFace k) trivial Tryz.func91
theorem c25 (k : Nat) (h : TF (K74 k) (D0 k)) : CallOK Tryz.prog 25 (I25.call (laws_toDrawing k)) := fo (c := b25) (l := []) (j := N) h I25 (laws_toDrawing k) trivial Tryz.func25
theorem c119 (k : Nat) (h : TF (K86 k) (D0 k)) : CallOK Tryz.prog 119 (I119.call (slices_Contains k)) := fo (c := b119) (l := []) (j := N) h I119 (slices_Contains k) trivial Tryz.func119
theorem c149 (k : Nat) (h : TF (K94 k) (D0 k)) : CallOK Tryz.prog 149 (I149.call (impl_doubled k)) := fo (c := b149) (l := L149 k) (j := N) h I149 (impl_doubled k) ⟨rA SF149_3 SG149_3 CS149_3 CO149_3 k (impl_doubled_3 k), trivial⟩ Tryz.func149
theorem c59 (k : Nat) (h : TF (K104 k) (D0 k)) : CallOK Tryz.prog 59 (I59.call (impl_ValidPicture k)) := fo (c := b59) (l := []) (j := N) h I59 (impl_ValidPicture k) trivial Tryz.func59
theorem c64 (k : Nat) (h : TF (K113 k) (D3 k)) : CallOK Tryz.prog 64 (I64.call (impl_veneerFault k)) := fo (c := b64) (l := []) (j := N) h I64 (impl_veneerFault k) trivial Tryz.func64
theorem c154 (k : Nat) (h : TF (K120 k) (D4 k)) : CallOK Tryz.prog 154 (I154.call (impl_ear k)) := fo (c := b154) (l := L154 k) (j := J154) h I154 (impl_ear k) ⟨rB SF154_6 SG154_6 SH154_6 CS154_6 CO154_6 CR154_6 k (impl_ear_6 k), trivial⟩ Tryz.func154
theorem c128 (k : Nat) (h : TF (K121 k) (D5 k)) : CallOK Tryz.prog 128 (I128.call (impl_triangles k)) := fq (c := b128) (l := L128 k) (j := N) h I128 (impl_triangles k) ⟨rA SF128_5 SG128_5 CS128_5 CO128_5 k (impl_triangles_5 k), rB SF128_2 SG128_2 SH128_2 CS128_2 CO128_2 CR128_2 k (impl_triangles_2 k), trivial⟩ Tryz.func128
theorem c172 (k : Nat) (h : TF (K128 k) (D5 k)) : CallOK Tryz.prog 172 (I172.call (impl_RootOf k)) := fo (c := b172) (l := L172 k) (j := N) h I172 (impl_RootOf k) ⟨rA SF172_4 SG172_4 CS172_4 CO172_4 k (impl_RootOf_4 k), trivial⟩ Tryz.func172
theorem c69 (k : Nat) (h : TF (K135 k) (D5 k)) : CallOK Tryz.prog 69 (I69.call (impl_nest_free k)) := fo (c := b69) (l := L69 k) (j := J69) h I69 (impl_nest_free k) ⟨rB SF69_2 SG69_2 SH69_2 CS69_2 CO69_2 CR69_2 k (impl_nest_free_2 k), trivial⟩ Tryz.func69
theorem c75 (k : Nat) (h : TF (K155 k) (D8 k)) : CallOK Tryz.prog 75 (I75.call (laws_markFaceS k)) := fo (c := b75) (l := L75 k) (j := N) h I75 (laws_markFaceS k) ⟨rA SF75_2 SG75_2 CS75_2 CO75_2 k (laws_markFaceS_2 k), trivial⟩ Tryz.func75
end Go.Proofs.YtgcioclfplafkaaGreatV
end

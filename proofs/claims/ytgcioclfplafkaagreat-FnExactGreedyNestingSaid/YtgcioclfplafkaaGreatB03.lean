/- Functions; no condition. -/
import Derived.Test.YtgcioclfplafkaaGreatB02
import Derived.KernelRfl
set_option linter.all false
set_option maxRecDepth 100000
section
namespace Go.Proofs.YtgcioclfplafkaaGreatV
open Go Go.RowKit Go.Proofs
set_option maxHeartbeats 4000000
theorem c43 (k : Nat) (h : TF (K8 k) (D0 k)) : CallOK Tryz.prog 43 (I43.call (laws_szBoxS k)) := fo (c := b43) (l := []) (j := N) h I43 (laws_szBoxS k) trivial Tryz.func43
theorem c20 (k : Nat) (h : TF (K9 k) (D0 k)) : CallOK Tryz.prog 20 (I20.call (laws_szLeaf k)) := fo (c := b20) (l := []) (j := N) h I20 (laws_szLeaf k) trivial Tryz.func20
theorem c140 (k : Nat) (h : TF (K31 k) (D0 k)) : CallOK Tryz.prog 140 (I140.call (spec_l07Grain k)) := fo (c := b140) (l := []) (j := N) h I140 (spec_l07Grain k) trivial Tryz.func140
theorem c79 (k : Nat) (h : TF (K36 k) (D0 k)) : CallOK Tryz.prog 79 (I79.call (spec_l09One k)) := fo (c := b79) (l := L79 k) (j := J79) h I79 (spec_l09One k) ⟨rB SF79_6 SG79_6 SH79_6 CS79_6 CO79_6 CR79_6 k (spec_l09One_6 k), trivial⟩ Tryz.func79
theorem c82 (k : Nat) (h : TF (K42 k) (D0 k)) : CallOK Tryz.prog 82 (I82.call (spec_l07Turned k)) := fo (c := b82) (l := []) (j := N) h I82 (spec_l07Turned k) trivial Tryz.func82
theorem c53 (k : Nat) (h : TF (K56 k) (D0 k)) : CallOK Tryz.prog 53 (I53.call (spec_l11Polygon k)) := fo (c := b53) (l := []) (j := N) h I53 (spec_l11Polygon k) trivial Tryz.func53
theorem c55 (k : Nat) (h : TF (K70 k) (D0 k)) : CallOK Tryz.prog 55 (I55.call (laws_toPointS k)) := fo (c := b55) (l := L55 k) (j := N) h I55 (laws_toPointS k) ⟨rA SF55_3 SG55_3 CS55_3 CO55_3 k (laws_toPointS_3 k), trivial⟩ Tryz.func55
theorem c146 (k : Nat) (h : TF (K89 k) (D0 k)) : CallOK Tryz.prog 146 (I146.call (impl_validPoints k)) := fo (c := b146) (l := L146 k) (j := N) h I146 (impl_validPoints k) ⟨rB SF146_2 SG146_2 SH146_2 CS146_2 CO146_2 CR146_2 k (impl_validPoints_2 k), trivial⟩ Tryz.func146
theorem c94 (k : Nat) (h : TF (K103 k) (D0 k)) : CallOK Tryz.prog 94 (I94.call (impl_validVeneers k)) := fo (c := b94) (l := []) (j := N) h I94 (impl_validVeneers k) trivial Tryz.func94
theorem c127 (k : Nat) (h : TF (K105 k) (D0 k)) : CallOK Tryz.prog 127 (I127.call (impl_boxWithin k)) := fo (c := b127) (l := []) (j := N) h I127 (impl_boxWithin k) trivial Tryz.func127
theorem e125 (k : Nat) (x : HT I125.cs) : slices_ContainsFunc_125 k x = I125.body (T125 k) Tryz.f125 b125 x := by kernel_rfl
theorem c125 (k : Nat) (h : TabFn Tryz.prog (TB (K106 k) (D2 k))) : ProcOK Tryz.prog 125 (I125.call (slices_ContainsFunc_125 k)) := proc_ok (T := T125 k) (ls := []) mixed (tab_with h _ _ false true (fun _ => rfl)) I125 (slices_ContainsFunc_125 k) Tryz.func125 (by kernel_rfl : Tryz.f125.body = some b125) rfl (by kernel_rfl) trivial (e125 k) rfl
theorem c67 (k : Nat) (h : TF (K115 k) (D3 k)) : CallOK Tryz.prog 67 (I67.call (impl_shifted k)) := fo (c := b67) (l := L67 k) (j := N) h I67 (impl_shifted k) ⟨rA SF67_3 SG67_3 CS67_3 CO67_3 k (impl_shifted_3 k), trivial⟩ Tryz.func67
theorem c65 (k : Nat) (h : TF (K117 k) (D4 k)) : CallOK Tryz.prog 65 (I65.call (impl_turnPoints k)) := fq (c := b65) (l := L65 k) (j := N) h I65 (impl_turnPoints k) ⟨rA SF65_3 SG65_3 CS65_3 CO65_3 k (impl_turnPoints_3 k), trivial⟩ Tryz.func65
theorem c68 (k : Nat) (h : TF (K125 k) (D5 k)) : CallOK Tryz.prog 68 (I68.call (impl_leafFault k)) := fo (c := b68) (l := L68 k) (j := J68) h I68 (impl_leafFault k) ⟨rB SF68_5 SG68_5 SH68_5 CS68_5 CO68_5 CR68_5 k (impl_leafFault_5 k), trivial⟩ Tryz.func68
theorem c103 (k : Nat) (h : TF (K134 k) (D5 k)) : CallOK Tryz.prog 103 (I103.call (impl_tooNear k)) := fo (c := b103) (l := []) (j := N) h I103 (impl_tooNear k) trivial Tryz.func103
theorem l29_14 (k n : Nat) (x : HT CS29_14) : impl_nest_places_14 k (n + 1) x = ev (T29 k) (findB (bodies b29) 14) (SF29_14.mk' CS29_14 x) (outB 6 SG29_14 CO29_14 SH29_14 CR29_14 SF29_14 CS29_14 (impl_nest_places_14 k n)) := by kernel_rfl
theorem l29_11 (k n : Nat) (x : HT CS29_11) : impl_nest_places_11 k (n + 1) x = ev (T29 k) (findB (bodies b29) 11) (SF29_11.mk' CS29_11 x) (outB 4 SG29_11 CO29_11 SH29_11 CR29_11 SF29_11 CS29_11 (impl_nest_places_11 k n)) := by kernel_rfl
theorem l29_5 (k n : Nat) (x : HT CS29_5) : impl_nest_places_5 k (n + 1) x = ev (T29 k) (findB (bodies b29) 5) (SF29_5.mk' CS29_5 x) (outB 2 SG29_5 CO29_5 SH29_5 CR29_5 SF29_5 CS29_5 (impl_nest_places_5 k n)) := by kernel_rfl
theorem l29_2 (k n : Nat) (x : HT CS29_2) : impl_nest_places_2 k (n + 1) x = ev (T29 k) (findB (bodies b29) 2) (SF29_2.mk' CS29_2 x) (outB 0 SG29_2 CO29_2 SH29_2 CR29_2 SF29_2 CS29_2 (impl_nest_places_2 k n)) := by kernel_rfl
theorem e29 (k : Nat) (x : HT I29.cs) : impl_nest_places k x = I29.body (T29 k) Tryz.f29 b29 x := by kernel_rfl
theorem c29 (k : Nat) (h : TabFn Tryz.prog (TB (K136 k) (D7 k))) : ProcOK Tryz.prog 29 (I29.call (impl_nest_places k)) := proc_ok (T := T29 k) (ls := (L29 k)) mixed (tab_with h _ _ false true (fun _ => rfl)) I29 (impl_nest_places k) Tryz.func29 (by kernel_rfl : Tryz.f29.body = some b29) rfl (by kernel_rfl) ⟨rowB (f := SF29_14) (g := SG29_14) (h := SH29_14) (cs := CS29_14) (co := CO29_14) (cr := CR29_14) (e := 6) k (impl_nest_places_14 k) ⟨by decide, by decide, by decide⟩ (fun _ => rfl) (l29_14 k), rowB (f := SF29_11) (g := SG29_11) (h := SH29_11) (cs := CS29_11) (co := CO29_11) (cr := CR29_11) (e := 4) k (impl_nest_places_11 k) ⟨by decide, by decide, by decide⟩ (fun _ => rfl) (l29_11 k), rowB (f := SF29_5) (g := SG29_5) (h := SH29_5) (cs := CS29_5) (co := CO29_5) (cr := CR29_5) (e := 2) k (impl_nest_places_5 k) ⟨by decide, by decide, by decide⟩ (fun _ => rfl) (l29_5 k), rowB (f := SF29_2) (g := SG29_2) (h := SH29_2) (cs := CS29_2) (co := CO29_2) (cr := CR29_2) (e := 0) k (impl_nest_places_2 k) ⟨by decide, by decide, by decide⟩ (fun _ => rfl) (l29_2 k), trivial⟩ (e29 k) rfl
theorem c10 (k : Nat) (h : TF (K136 k) (D8 k)) : CallOK Tryz.prog 10 (I10.call (impl_GreedyNesting k)) := fq (c := b10) (l := L10 k) (j := N) h I10 (impl_GreedyNesting k) ⟨rB SF10_6 SG10_6 SH10_6 CS10_6 CO10_6 CR10_6 k (impl_GreedyNesting_6 k), trivial⟩ Tryz.func10
theorem c32 (k : Nat) (h : TF (K137 k) (D8 k)) : CallOK Tryz.prog 32 (I32.call (laws_eqPlacement k)) := fo (c := b32) (l := []) (j := N) h I32 (laws_eqPlacement k) trivial Tryz.func32
theorem c107 (k : Nat) (h : TF (K154 k) (D8 k)) : CallOK Tryz.prog 107 (I107.call (laws_markInt64S k)) := fo (c := b107) (l := L107 k) (j := N) h I107 (laws_markInt64S k) ⟨rA SF107_2 SG107_2 CS107_2 CO107_2 k (laws_markInt64S_2 k), trivial⟩ Tryz.func107
theorem c16 (k : Nat) (h : TF (K161 k) (D8 k)) : CallOK Tryz.prog 16 (I16.call (laws_markPlacementS k)) := fo (c := b16) (l := L16 k) (j := N) h I16 (laws_markPlacementS k) ⟨rA SF16_2 SG16_2 CS16_2 CO16_2 k (laws_markPlacementS_2 k), trivial⟩ Tryz.func16
end Go.Proofs.YtgcioclfplafkaaGreatV
end
section
namespace Go.Proofs.YtgcioclfplafkaaGreatV
open Go Go.RowKit Go.Proofs
set_option maxHeartbeats 4000000
theorem c40 (k : Nat) (h : TF (K0 k) (D0 k)) : CallOK Tryz.prog 40 (I40.call (laws_szPointS k)) := fo (c := b40) (l := []) (j := N) h I40 (laws_szPointS k) trivial Tryz.func40
theorem c133 (k : Nat) (h : TF (K15 k) (D0 k)) : CallOK Tryz.prog 133 (I133.call (spec_l01Digit k)) := fo (c := b133) (l := []) (j := N) h I133 (spec_l01Digit k) trivial Tryz.func133
theorem c134 (k : Nat) (h : TF (K17 k) (D0 k)) : CallOK Tryz.prog 134 (I134.call (spec_l02Ok k)) := fo (c := b134) (l := []) (j := N) h I134 (spec_l02Ok k) trivial Tryz.func134
theorem c136 (k : Nat) (h : TF (K24 k) (D0 k)) : CallOK Tryz.prog 136 (I136.call (spec_l03Meet k)) := fo (c := b136) (l := []) (j := N) h I136 (spec_l03Meet k) trivial Tryz.func136
theorem c77 (k : Nat) (h : TF (K27 k) (D0 k)) : CallOK Tryz.prog 77 (I77.call (spec_l05Ok k)) := fo (c := b77) (l := L77 k) (j := J77) h I77 (spec_l05Ok k) ⟨rB SF77_4 SG77_4 SH77_4 CS77_4 CO77_4 CR77_4 k (spec_l05Ok_4 k), trivial⟩ Tryz.func77
theorem c141 (k : Nat) (h : TF (K50 k) (D0 k)) : CallOK Tryz.prog 141 (I141.call (spec_l04Ear k)) := fo (c := b141) (l := L141 k) (j := J141) h I141 (spec_l04Ear k) ⟨rB SF141_8 SG141_8 SH141_8 CS141_8 CO141_8 CR141_8 k (spec_l04Ear_8 k), trivial⟩ Tryz.func141
theorem c165 (k : Nat) (h : TF (K61 k) (D0 k)) : CallOK Tryz.prog 165 (I165.call (spec_l01Root k)) := fo (c := b165) (l := L165 k) (j := N) h I165 (spec_l01Root k) ⟨rA SF165_3 SG165_3 CS165_3 CO165_3 k (spec_l01Root_3 k), trivial⟩ Tryz.func165
theorem c117 (k : Nat) (h : TF (K64 k) (D0 k)) : CallOK Tryz.prog 117 (I117.call (spec_l02Gap k)) := fo (c := b117) (l := []) (j := N) h I117 (spec_l02Gap k) trivial Tryz.func117
theorem c90 (k : Nat) (h : TF (K69 k) (D0 k)) : CallOK Tryz.prog 90 (I90.call (laws_toPoint k)) := fo (c := b90) (l := []) (j := N) h I90 (laws_toPoint k) trivial Tryz.func90
theorem c118 (k : Nat) (h : TF (K71 k) (D0 k)) : CallOK Tryz.prog 118 (I118.call (laws_toInt64S k)) := fo (c := b118) (l := L118 k) (j := N) h I118 (laws_toInt64S k) ⟨rA SF118_3 SG118_3 CS118_3 CO118_3 k (laws_toInt64S_3 k), trivial⟩ Tryz.func118
theorem c27 (k : Nat) (h : TF (K80 k) (D0 k)) : CallOK Tryz.prog 27 (I27.call (laws_toLeaf k)) := fo (c := b27) (l := []) (j := N) h I27 (laws_toLeaf k) trivial Tryz.func27
theorem c145 (k : Nat) (h : TF (K85 k) (D0 k)) : CallOK Tryz.prog 145 (I145.call (slices_Index k)) := fo (c := b145) (l := L145 k) (j := N) h I145 (slices_Index k) ⟨rB SF145_2 SG145_2 SH145_2 CS145_2 CO145_2 CR145_2 k (slices_Index_2 k), trivial⟩ Tryz.func145
theorem c156 (k : Nat) (h : TF (K90 k) (D0 k)) : CallOK Tryz.prog 156 (I156.call (impl_side k)) := fo (c := b156) (l := []) (j := N) h I156 (impl_side k) trivial Tryz.func156
theorem c168 (k : Nat) (h : TF (K97 k) (D0 k)) : CallOK Tryz.prog 168 (I168.call (impl_SpeciesData k)) := fo (c := b168) (l := []) (j := N) h I168 (impl_SpeciesData k) trivial Tryz.func168
theorem c97 (k : Nat) (h : TF (K111 k) (D3 k)) : CallOK Tryz.prog 97 (I97.call (impl_TurnGrain k)) := fo (c := b97) (l := []) (j := J97) h I97 (impl_TurnGrain k) trivial Tryz.func97
theorem c129 (k : Nat) (h : TF (K122 k) (D5 k)) : CallOK Tryz.prog 129 (I129.call (impl_beside k)) := fo (c := b129) (l := L129 k) (j := N) h I129 (impl_beside k) ⟨rA SF129_6 SG129_6 CS129_6 CO129_6 k (impl_beside_6 k), rB SF129_2 SG129_2 SH129_2 CS129_2 CO129_2 CR129_2 k (impl_beside_2 k), trivial⟩ Tryz.func129
theorem c102 (k : Nat) (h : TF (K124 k) (D5 k)) : CallOK Tryz.prog 102 (I102.call (impl_boxPolygon k)) := fo (c := b102) (l := []) (j := N) h I102 (impl_boxPolygon k) trivial Tryz.func102
theorem c73 (k : Nat) (h : TF (K149 k) (D8 k)) : CallOK Tryz.prog 73 (I73.call (laws_eqBoxS k)) := fo (c := b73) (l := L73 k) (j := N) h I73 (laws_eqBoxS k) ⟨rB SF73_4 SG73_4 SH73_4 CS73_4 CO73_4 CR73_4 k (laws_eqBoxS_4 k), trivial⟩ Tryz.func73
theorem c74 (k : Nat) (h : TF (K152 k) (D8 k)) : CallOK Tryz.prog 74 (I74.call (laws_markPointS k)) := fo (c := b74) (l := L74 k) (j := N) h I74 (laws_markPointS k) ⟨rA SF74_2 SG74_2 CS74_2 CO74_2 k (laws_markPointS_2 k), trivial⟩ Tryz.func74
theorem c36 (k : Nat) (h : TF (K156 k) (D8 k)) : CallOK Tryz.prog 36 (I36.call (laws_markDrawing k)) := fo (c := b36) (l := []) (j := N) h I36 (laws_markDrawing k) trivial Tryz.func36
theorem c15 (k : Nat) (h : TF (K160 k) (D8 k)) : CallOK Tryz.prog 15 (I15.call (laws_markLeafS k)) := fo (c := b15) (l := L15 k) (j := N) h I15 (laws_markLeafS k) ⟨rA SF15_2 SG15_2 CS15_2 CO15_2 k (laws_markLeafS_2 k), trivial⟩ Tryz.func15
end Go.Proofs.YtgcioclfplafkaaGreatV
end

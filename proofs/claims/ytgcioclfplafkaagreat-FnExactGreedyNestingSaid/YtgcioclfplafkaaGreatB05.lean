/- Functions; no condition. -/
import Derived.Test.YtgcioclfplafkaaGreatB02
import Derived.KernelRfl
set_option linter.all false
set_option maxRecDepth 100000
section
namespace Go.Proofs.YtgcioclfplafkaaGreatV
open Go Go.RowKit Go.Proofs
set_option maxHeartbeats 4000000
theorem c41 (k : Nat) (h : TF (K3 k) (D0 k)) : CallOK Tryz.prog 41 (I41.call (laws_szFaceS k)) := fo (c := b41) (l := L41 k) (j := N) h I41 (laws_szFaceS k) ⟨rB SF41_5 SG41_5 SH41_5 CS41_5 CO41_5 CR41_5 k (laws_szFaceS_5 k), trivial⟩ Tryz.func41
theorem c18 (k : Nat) (h : TF (K4 k) (D0 k)) : CallOK Tryz.prog 18 (I18.call (laws_szDrawing k)) := fo (c := b18) (l := []) (j := N) h I18 (laws_szDrawing k) trivial Tryz.func18
theorem c132 (k : Nat) (h : TF (K14 k) (D0 k)) : CallOK Tryz.prog 132 (I132.call (spec_l01Small k)) := fo (c := b132) (l := []) (j := N) h I132 (spec_l01Small k) trivial Tryz.func132
theorem c49 (k : Nat) (h : TF (K44 k) (D0 k)) : CallOK Tryz.prog 49 (I49.call (spec_l03Bounds k)) := fo (c := b49) (l := L49 k) (j := N) h I49 (spec_l03Bounds k) ⟨rA SF49_4 SG49_4 CS49_4 CO49_4 k (spec_l03Bounds_4 k), trivial⟩ Tryz.func49
theorem c89 (k : Nat) (h : TF (K65 k) (D0 k)) : CallOK Tryz.prog 89 (I89.call (spec_l04Distance k)) := fo (c := b89) (l := L89 k) (j := J89) h I89 (spec_l04Distance k) ⟨rA SF89_8 SG89_8 CS89_8 CO89_8 k (spec_l04Distance_8 k), rA SF89_5 SG89_5 CS89_5 CO89_5 k (spec_l04Distance_5 k), trivial⟩ Tryz.func89
theorem c24 (k : Nat) (h : TF (K67 k) (D0 k)) : CallOK Tryz.prog 24 (I24.call (spec_l11Free k)) := fo (c := b24) (l := L24 k) (j := J24) h I24 (spec_l11Free k) ⟨rB SF24_3 SG24_3 SH24_3 CS24_3 CO24_3 CR24_3 k (spec_l11Free_3 k), trivial⟩ Tryz.func24
theorem l56_3 (k n : Nat) (x : HT CS56_3) : laws_toFaceS_3 k (n + 1) x = ev (T56 k) (findB (bodies b56) 3) (SF56_3.mk' CS56_3 x) (outA 0 SG56_3 CO56_3 SF56_3 CS56_3 (laws_toFaceS_3 k n)) := by kernel_rfl
theorem e56 (k : Nat) (x : HT I56.cs) : laws_toFaceS k x = I56.body (T56 k) Tryz.f56 b56 x := by kernel_rfl
theorem c56 (k : Nat) (h : TabFn Tryz.prog (TB (K73 k) (D0 k))) : CallOK Tryz.prog 56 (I56.call (laws_toFaceS k)) := fun_ok (T := T56 k) (ls := (L56 k)) mixed (tab_with h _ _ true false (fun h => by first | rfl | cases h)) I56 (laws_toFaceS k) Tryz.func56 (by kernel_rfl : Tryz.f56.body = some b56) (by kernel_rfl) (by decide) rfl (by kernel_rfl) ⟨rowA (f := SF56_3) (g := SG56_3) (cs := CS56_3) (co := CO56_3) (e := 0) k (laws_toFaceS_3 k) ⟨by decide, by decide⟩ (fun _ => rfl) (l56_3 k), trivial⟩ (e56 k) (fun _ => rfl)
theorem l8_3 (k n : Nat) (x : HT CS8_3) : laws_toLeafS_3 k (n + 1) x = ev (T8 k) (findB (bodies b8) 3) (SF8_3.mk' CS8_3 x) (outA 0 SG8_3 CO8_3 SF8_3 CS8_3 (laws_toLeafS_3 k n)) := by kernel_rfl
theorem e8 (k : Nat) (x : HT I8.cs) : laws_toLeafS k x = I8.body (T8 k) Tryz.f8 b8 x := by kernel_rfl
theorem c8 (k : Nat) (h : TabFn Tryz.prog (TB (K81 k) (D0 k))) : CallOK Tryz.prog 8 (I8.call (laws_toLeafS k)) := fun_ok (T := T8 k) (ls := (L8 k)) mixed (tab_with h _ _ true false (fun h => by first | rfl | cases h)) I8 (laws_toLeafS k) Tryz.func8 (by kernel_rfl : Tryz.f8.body = some b8) (by kernel_rfl) (by decide) rfl (by kernel_rfl) ⟨rowA (f := SF8_3) (g := SG8_3) (cs := CS8_3) (co := CO8_3) (e := 0) k (laws_toLeafS_3 k) ⟨by decide, by decide⟩ (fun _ => rfl) (l8_3 k), trivial⟩ (e8 k) (fun _ => rfl)
theorem c96 (k : Nat) (h : TF (K84 k) (D0 k)) : CallOK Tryz.prog 96 (I96.call (impl_ringPolygon k)) := fo (c := b96) (l := L96 k) (j := N) h I96 (impl_ringPolygon k) ⟨rB SF96_3 SG96_3 SH96_3 CS96_3 CO96_3 CR96_3 k (impl_ringPolygon_3 k), trivial⟩ Tryz.func96
theorem c151 (k : Nat) (h : TF (K98 k) (D0 k)) : CallOK Tryz.prog 151 (I151.call (impl_speciesShade k)) := fo (c := b151) (l := []) (j := N) h I151 (impl_speciesShade k) trivial Tryz.func151
theorem e126 (k : Nat) (x : HT I126.cs) : impl_ValidLeaf_1 k x = I126.body (T126 k) Tryz.f126 b126 x := by kernel_rfl
theorem c126 (k : Nat) (h : TabFn Tryz.prog (TB (K106 k) (D0 k))) : ProcOK Tryz.prog 126 (I126.call (impl_ValidLeaf_1 k)) := proc_ok (T := T126 k) (ls := []) mixed (tab_with h _ _ false true (fun _ => rfl)) I126 (impl_ValidLeaf_1 k) Tryz.func126 (by kernel_rfl : Tryz.f126.body = some b126) rfl (by kernel_rfl) trivial (e126 k) rfl
theorem c95 (k : Nat) (h : TF (K106 k) (D3 k)) : CallOK Tryz.prog 95 (I95.call (impl_ValidLeaf k)) := fq (c := b95) (l := []) (j := J95) h I95 (impl_ValidLeaf k) trivial Tryz.func95
theorem c61 (k : Nat) (h : TF (K108 k) (D3 k)) : CallOK Tryz.prog 61 (I61.call (impl_ValidRules k)) := fo (c := b61) (l := []) (j := N) h I61 (impl_ValidRules k) trivial Tryz.func61
theorem c171 (k : Nat) (h : TF (K127 k) (D5 k)) : CallOK Tryz.prog 171 (I171.call (impl_squared k)) := fo (c := b171) (l := []) (j := N) h I171 (impl_squared k) trivial Tryz.func171
theorem c158 (k : Nat) (h : TF (K132 k) (D5 k)) : CallOK Tryz.prog 158 (I158.call (impl_betweenSegments k)) := fo (c := b158) (l := []) (j := N) h I158 (impl_betweenSegments k) trivial Tryz.func158
theorem c70 (k : Nat) (h : TF (K140 k) (D8 k)) : CallOK Tryz.prog 70 (I70.call (laws_eqPointS k)) := fo (c := b70) (l := L70 k) (j := N) h I70 (laws_eqPointS k) ⟨rB SF70_4 SG70_4 SH70_4 CS70_4 CO70_4 CR70_4 k (laws_eqPointS_4 k), trivial⟩ Tryz.func70
theorem c105 (k : Nat) (h : TF (K142 k) (D8 k)) : CallOK Tryz.prog 105 (I105.call (laws_eqFace k)) := fo (c := b105) (l := []) (j := N) h I105 (laws_eqFace k) trivial Tryz.func105
theorem c12 (k : Nat) (h : TF (K147 k) (D8 k)) : CallOK Tryz.prog 12 (I12.call (laws_eqPicture k)) := fo (c := b12) (l := []) (j := N) h I12 (laws_eqPicture k) trivial Tryz.func12
theorem c35 (k : Nat) (h : TF (K150 k) (D8 k)) : CallOK Tryz.prog 35 (I35.call (laws_eqLeaf k)) := fo (c := b35) (l := []) (j := N) h I35 (laws_eqLeaf k) trivial Tryz.func35
theorem c13 (k : Nat) (h : TF (K151 k) (D8 k)) : CallOK Tryz.prog 13 (I13.call (laws_eqLeafS k)) := fo (c := b13) (l := L13 k) (j := N) h I13 (laws_eqLeafS k) ⟨rB SF13_4 SG13_4 SH13_4 CS13_4 CO13_4 CR13_4 k (laws_eqLeafS_4 k), trivial⟩ Tryz.func13
theorem c17 (k : Nat) (h : TF (K162 k) (D8 k)) : CallOK Tryz.prog 17 (I17.call (laws_heldPlacementS k)) := fo (c := b17) (l := L17 k) (j := N) h I17 (laws_heldPlacementS k) ⟨rB SF17_2 SG17_2 SH17_2 CS17_2 CO17_2 CR17_2 k (laws_heldPlacementS_2 k), trivial⟩ Tryz.func17
end Go.Proofs.YtgcioclfplafkaaGreatV
end
section
namespace Go.Proofs.YtgcioclfplafkaaGreatV
open Go Go.RowKit Go.Proofs
set_option maxHeartbeats 4000000
theorem c19 (k : Nat) (h : TF (K6 k) (D0 k)) : CallOK Tryz.prog 19 (I19.call (laws_szVeneerS k)) := fo (c := b19) (l := L19 k) (j := N) h I19 (laws_szVeneerS k) ⟨rB SF19_5 SG19_5 SH19_5 CS19_5 CO19_5 CR19_5 k (laws_szVeneerS_5 k), trivial⟩ Tryz.func19
theorem c110 (k : Nat) (h : TF (K16 k) (D0 k)) : CallOK Tryz.prog 110 (I110.call (spec_l01Name k)) := fo (c := b110) (l := L110 k) (j := J110) h I110 (spec_l01Name k) ⟨rB SF110_4 SG110_4 SH110_4 CS110_4 CO110_4 CR110_4 k (spec_l01Name_4 k), trivial⟩ Tryz.func110
theorem c142 (k : Nat) (h : TF (K21 k) (D0 k)) : CallOK Tryz.prog 142 (I142.call (spec_l02Side k)) := fo (c := b142) (l := []) (j := N) h I142 (spec_l02Side k) trivial Tryz.func142
theorem c111 (k : Nat) (h : TF (K26 k) (D0 k)) : CallOK Tryz.prog 111 (I111.call (spec_l03Ok k)) := fo (c := b111) (l := L111 k) (j := J111) h I111 (spec_l03Ok k) ⟨rB SF111_5 SG111_5 SH111_5 CS111_5 CO111_5 CR111_5 k (spec_l03Ok_5 k), rB SF111_18 SG111_18 SH111_18 CS111_18 CO111_18 CR111_18 k (spec_l03Ok_18 k), rB SF111_10 SG111_10 SH111_10 CS111_10 CO111_10 CR111_10 k (spec_l03Ok_10 k), trivial⟩ Tryz.func111
theorem c160 (k : Nat) (h : TF (K28 k) (D0 k)) : CallOK Tryz.prog 160 (I160.call (spec_l07Names k)) := fo (c := b160) (l := []) (j := N) h I160 (spec_l07Names k) trivial Tryz.func160
theorem c139 (k : Nat) (h : TF (K30 k) (D0 k)) : CallOK Tryz.prog 139 (I139.call (spec_l07Table k)) := fo (c := b139) (l := []) (j := N) h I139 (spec_l07Table k) trivial Tryz.func139
theorem c112 (k : Nat) (h : TF (K32 k) (D0 k)) : CallOK Tryz.prog 112 (I112.call (spec_l07Ok k)) := fo (c := b112) (l := []) (j := J112) h I112 (spec_l07Ok k) trivial Tryz.func112
theorem c45 (k : Nat) (h : TF (K37 k) (D0 k)) : CallOK Tryz.prog 45 (I45.call (spec_l09Ok k)) := fo (c := b45) (l := L45 k) (j := J45) h I45 (spec_l09Ok k) ⟨rB SF45_2 SG45_2 SH45_2 CS45_2 CO45_2 CR45_2 k (spec_l09Ok_2 k), trivial⟩ Tryz.func45
theorem c81 (k : Nat) (h : TF (K41 k) (D0 k)) : CallOK Tryz.prog 81 (I81.call (spec_l07Angle k)) := fo (c := b81) (l := []) (j := N) h I81 (spec_l07Angle k) trivial Tryz.func81
theorem c50 (k : Nat) (h : TF (K47 k) (D0 k)) : CallOK Tryz.prog 50 (I50.call (spec_l03Turned k)) := fo (c := b50) (l := L50 k) (j := N) h I50 (spec_l03Turned k) ⟨rA SF50_3 SG50_3 CS50_3 CO50_3 k (spec_l03Turned_3 k), trivial⟩ Tryz.func50
theorem c7 (k : Nat) (h : TF (K77 k) (D0 k)) : CallOK Tryz.prog 7 (I7.call (laws_toPicture k)) := fo (c := b7) (l := []) (j := N) h I7 (laws_toPicture k) trivial Tryz.func7
theorem c62 (k : Nat) (h : TF (K83 k) (D0 k)) : CallOK Tryz.prog 62 (I62.call (impl_within k)) := fo (c := b62) (l := []) (j := N) h I62 (impl_within k) trivial Tryz.func62
theorem c147 (k : Nat) (h : TF (K91 k) (D0 k)) : CallOK Tryz.prog 147 (I147.call (impl_on k)) := fo (c := b147) (l := []) (j := N) h I147 (impl_on k) trivial Tryz.func147
theorem c148 (k : Nat) (h : TF (K93 k) (D0 k)) : CallOK Tryz.prog 148 (I148.call (impl_touching k)) := fo (c := b148) (l := []) (j := N) h I148 (impl_touching k) trivial Tryz.func148
theorem l152_2 (k n : Nat) (x : HT CS152_2) : slices_IndexFunc_152_2 k (n + 1) x = ev (T152 k) (findB (bodies b152) 2) (SF152_2.mk' CS152_2 x) (outB 0 SG152_2 CO152_2 SH152_2 CR152_2 SF152_2 CS152_2 (slices_IndexFunc_152_2 k n)) := by kernel_rfl
theorem e152 (k : Nat) (x : HT I152.cs) : slices_IndexFunc_152 k x = I152.body (T152 k) Tryz.f152 b152 x := by kernel_rfl
theorem c152 (k : Nat) (h : TabFn Tryz.prog (TB (K106 k) (D1 k))) : ProcOK Tryz.prog 152 (I152.call (slices_IndexFunc_152 k)) := proc_ok (T := T152 k) (ls := (L152 k)) mixed (tab_with h _ _ false true (fun _ => rfl)) I152 (slices_IndexFunc_152 k) Tryz.func152 (by kernel_rfl : Tryz.f152.body = some b152) rfl (by kernel_rfl) ⟨rowB (f := SF152_2) (g := SG152_2) (h := SH152_2) (cs := CS152_2) (co := CO152_2) (cr := CR152_2) (e := 0) k (slices_IndexFunc_152_2 k) ⟨by decide, by decide, by decide⟩ (fun _ => rfl) (l152_2 k), trivial⟩ (e152 k) rfl
theorem c99 (k : Nat) (h : TF (K116 k) (D3 k)) : CallOK Tryz.prog 99 (I99.call (impl_Turned k)) := fo (c := b99) (l := L99 k) (j := J99) h I99 (impl_Turned k) ⟨rA SF99_6 SG99_6 CS99_6 CO99_6 k (impl_Turned_6 k), trivial⟩ Tryz.func99
theorem c101 (k : Nat) (h : TF (K123 k) (D5 k)) : CallOK Tryz.prog 101 (I101.call (impl_apart k)) := fo (c := b101) (l := L101 k) (j := J101) h I101 (impl_apart k) ⟨rB SF101_10 SG101_10 SH101_10 CS101_10 CO101_10 CR101_10 k (impl_apart_10 k), rB SF101_7 SG101_7 SH101_7 CS101_7 CO101_7 CR101_7 k (impl_apart_7 k), trivial⟩ Tryz.func101
theorem c170 (k : Nat) (h : TF (K131 k) (D5 k)) : CallOK Tryz.prog 170 (I170.call (impl_toSegment k)) := fo (c := b170) (l := []) (j := N) h I170 (impl_toSegment k) trivial Tryz.func170
theorem c130 (k : Nat) (h : TF (K133 k) (D5 k)) : CallOK Tryz.prog 130 (I130.call (impl_gap k)) := fo (c := b130) (l := L130 k) (j := J130) h I130 (impl_gap k) ⟨rA SF130_8 SG130_8 CS130_8 CO130_8 k (impl_gap_8 k), rA SF130_5 SG130_5 CS130_5 CO130_5 k (impl_gap_5 k), trivial⟩ Tryz.func130
theorem c104 (k : Nat) (h : TF (K139 k) (D8 k)) : CallOK Tryz.prog 104 (I104.call (laws_eqPoint k)) := fo (c := b104) (l := []) (j := N) h I104 (laws_eqPoint k) trivial Tryz.func104
theorem c106 (k : Nat) (h : TF (K148 k) (D8 k)) : CallOK Tryz.prog 106 (I106.call (laws_eqBox k)) := fo (c := b106) (l := []) (j := N) h I106 (laws_eqBox k) trivial Tryz.func106
end Go.Proofs.YtgcioclfplafkaaGreatV
end

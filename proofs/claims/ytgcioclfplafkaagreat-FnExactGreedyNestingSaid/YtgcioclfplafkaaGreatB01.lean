/- The functions, as plain Lean; no condition. -/
import Derived.Test.YtgcioclfplafkaaGreatA10
set_option linter.all false
set_option maxRecDepth 100000
namespace Go.Proofs.YtgcioclfplafkaaGreatV
open Go
abbrev cP : CT := .pair (.int .i64) (.int .i64)
abbrev cB : CT := .pair (.int .i64) (.pair (.int .i64) (.pair (.int .i64) (.int .i64)))
abbrev cQ : CT := .pair (.int .i64) (.pair (.int .i64) (.pair (.int .i64) (.pair (.int .i64) (.int .i64))))
abbrev cV : CT := .pair .str (.pair (.int .i64) (.int .i64))
abbrev cF : CT := .pair .str (.sl (.int .i64))
abbrev cL : CT := .pair .str (.pair .str (.pair (.int .i64) (.pair .str (.pair (.int .i64) (.pair (.int .i64) (.pair (.int .i64) (.pair (.int .i64) (.sl (.pair (.int .i64) (.pair (.int .i64) (.pair (.int .i64) (.int .i64))))))))))))
abbrev LLf := List (ByteArray × ByteArray × Int × ByteArray × Int × Int × Int × Int × List (Int × Int × Int × Int))
abbrev LPl := List (Int × Int × Int × Int × Int)
abbrev LBx := List (Int × Int × Int × Int)
abbrev LPP := List (List (Int × Int))
abbrev LFc := List (ByteArray × List (Int))
abbrev LVn := List (ByteArray × Int × Int)
abbrev LPt := List (Int × Int)
def laws_szPointS (k : Nat) : LPt × Int → Option (Int) := fun (a0, a1) => (bif (decide ((w64 (a1 - (a0.length : Int))) < 0)) then some (-1) else some (w64 (a1 - (a0.length : Int))))
def laws_szInt64S (k : Nat) : List (Int) × Int → Option (Int) := fun (a0, a1) => (bif (decide ((w64 (a1 - (a0.length : Int))) < 0)) then some (-1) else some (w64 (a1 - (a0.length : Int))))
def laws_szFace (k : Nat) : ByteArray × List (Int) × Int → Option (Int) := fun (a0, a1, a2) => (bif (decide ((w64 (a2 - (a0.size : Int))) < 0)) then some (-1) else ((laws_szInt64S k (a1, (w64 (a2 - (a0.size : Int))))).bind fun y0 => (bif (decide (y0 < 0)) then some (-1) else some y0)))
def laws_szFaceS_5 (k : Nat) : Nat → LFc × Int × Int → Option ((Int) ⊕ (Int))
 | 0, _ => none
 | g + 1, (x0, x1, x2) => (bif (decide (x2 < (x0.length : Int))) then (bif (decide (0 ≤ x2)) then (bif (decide (x2 < (x0.length : Int))) then ((laws_szFace k ((rd cF x0 x2).1, (rd cF x0 x2).2, x1)).bind fun y0 => (bif (decide (y0 < 0)) then some (.inr (-1)) else laws_szFaceS_5 k g (x0, y0, (w64 (x2 + 1))))) else none) else none) else some (.inl x1))
def laws_szFaceS (k : Nat) : LFc × Int → Option (Int) := fun (a0, a1) => (bif (decide ((w64 (a1 - (a0.length : Int))) < 0)) then some (-1) else ((laws_szFaceS_5 k k (a0, (w64 (a1 - (a0.length : Int))), 0)).bind fun r => match r with | .inl z1 => some z1 | .inr z2 => some z2))
def laws_szDrawing (k : Nat) : Int × Int × LPt × LFc × Int → Option (Int) := fun (a0, a1, a2, a3, a4) => ((laws_szPointS k (a2, a4)).bind fun y0 => (bif (decide (y0 < 0)) then some (-1) else ((laws_szFaceS k (a3, y0)).bind fun y1 => (bif (decide (y1 < 0)) then some (-1) else some y1))))
def laws_szVeneer (k : Nat) : ByteArray × Int × Int × Int → Option (Int) := fun (a0, a1, a2, a3) => (bif (decide ((w64 (a3 - (a0.size : Int))) < 0)) then some (-1) else some (w64 (a3 - (a0.size : Int))))
def laws_szVeneerS_5 (k : Nat) : Nat → LVn × Int × Int → Option ((Int) ⊕ (Int))
 | 0, _ => none
 | g + 1, (x0, x1, x2) => (bif (decide (x2 < (x0.length : Int))) then (bif (decide (0 ≤ x2)) then (bif (decide (x2 < (x0.length : Int))) then ((laws_szVeneer k ((rd cV x0 x2).1, (rd cV x0 x2).2.1, (rd cV x0 x2).2.2, x1)).bind fun y0 => (bif (decide (y0 < 0)) then some (.inr (-1)) else laws_szVeneerS_5 k g (x0, y0, (w64 (x2 + 1))))) else none) else none) else some (.inl x1))
def laws_szVeneerS (k : Nat) : LVn × Int → Option (Int) := fun (a0, a1) => (bif (decide ((w64 (a1 - (a0.length : Int))) < 0)) then some (-1) else ((laws_szVeneerS_5 k k (a0, (w64 (a1 - (a0.length : Int))), 0)).bind fun r => match r with | .inl z1 => some z1 | .inr z2 => some z2))
def laws_szPicture (k : Nat) : Int × Int × LPt × LFc × LVn × Int → Option (Int) := fun (a0, a1, a2, a3, a4, a5) => ((laws_szDrawing k (a0, a1, a2, a3, a5)).bind fun y0 => (bif (decide (y0 < 0)) then some (-1) else ((laws_szVeneerS k (a4, y0)).bind fun y1 => (bif (decide (y1 < 0)) then some (-1) else some y1))))
def laws_szBoxS (k : Nat) : LBx × Int → Option (Int) := fun (a0, a1) => (bif (decide ((w64 (a1 - (a0.length : Int))) < 0)) then some (-1) else some (w64 (a1 - (a0.length : Int))))
def laws_szLeaf (k : Nat) : ByteArray × ByteArray × Int × ByteArray × Int × Int × Int × Int × LBx × Int → Option (Int) := fun (a0, a1, a2, a3, a4, a5, a6, a7, a8, a9) => (bif (decide ((w64 (a9 - (a0.size : Int))) < 0)) then some (-1) else (bif (decide ((w64 ((w64 (a9 - (a0.size : Int))) - (a1.size : Int))) < 0)) then some (-1) else ((laws_szVeneer k (a3, a4, a5, (w64 ((w64 (a9 - (a0.size : Int))) - (a1.size : Int))))).bind fun y0 => (bif (decide (y0 < 0)) then some (-1) else ((laws_szBoxS k (a8, y0)).bind fun y1 => (bif (decide (y1 < 0)) then some (-1) else some y1))))))
def laws_szLeafS_5 (k : Nat) : Nat → LLf × Int × Int → Option ((Int) ⊕ (Int))
 | 0, _ => none
 | g + 1, (x0, x1, x2) => (bif (decide (x2 < (x0.length : Int))) then (bif (decide (0 ≤ x2)) then (bif (decide (x2 < (x0.length : Int))) then ((laws_szLeaf k ((rd cL x0 x2).1, (rd cL x0 x2).2.1, (rd cL x0 x2).2.2.1, (rd cL x0 x2).2.2.2.1, (rd cL x0 x2).2.2.2.2.1, (rd cL x0 x2).2.2.2.2.2.1, (rd cL x0 x2).2.2.2.2.2.2.1, (rd cL x0 x2).2.2.2.2.2.2.2.1, (rd cL x0 x2).2.2.2.2.2.2.2.2, x1)).bind fun y0 => (bif (decide (y0 < 0)) then some (.inr (-1)) else laws_szLeafS_5 k g (x0, y0, (w64 (x2 + 1))))) else none) else none) else some (.inl x1))
def laws_szLeafS (k : Nat) : LLf × Int → Option (Int) := fun (a0, a1) => (bif (decide ((w64 (a1 - (a0.length : Int))) < 0)) then some (-1) else ((laws_szLeafS_5 k k (a0, (w64 (a1 - (a0.length : Int))), 0)).bind fun r => match r with | .inl z1 => some z1 | .inr z2 => some z2))
def spec_l00In (k : Nat) : Int × Int × Int → Option (Bool) := fun (a0, a1, a2) => (bif (decide (a0 ≥ a1)) then some (decide (a0 ≤ a2)) else some false)
def spec_l05Ring_3 (k : Nat) : Nat → Int × Int × LPt × LFc × List (Int) × Int × LPt → Option ((LPt) ⊕ (Bool × LPt))
 | 0, _ => none
 | g + 1, (x0, x1, x2, x3, x4, x5, x6) => (bif (decide (x5 < (x4.length : Int))) then (bif (decide (0 ≤ x5)) then (bif (decide (x5 < (x4.length : Int))) then ((spec_l00In k ((rd (.int .i64) x4 x5), 0, (w64 ((x2.length : Int) - 1)))).bind fun y0 => (bif (!y0) then some (.inr (false, [])) else (bif (decide (0 ≤ x5)) then (bif (decide (x5 < (x4.length : Int))) then (bif (decide (0 ≤ (rd (.int .i64) x4 x5))) then (bif (decide ((rd (.int .i64) x4 x5) < (x2.length : Int))) then (bif (decide (((x6.length + (((rd cP x2 (rd (.int .i64) x4 x5)).1, (rd cP x2 (rd (.int .i64) x4 x5)).2) :: []).length) * 16) ≤ 140737488355328)) then spec_l05Ring_3 k g (x0, x1, x2, x3, x4, (w64 (x5 + 1)), (x6 ++ (((rd cP x2 (rd (.int .i64) x4 x5)).1, (rd cP x2 (rd (.int .i64) x4 x5)).2) :: []))) else none) else none) else none) else none) else none))) else none) else none) else some (.inl x6))
def spec_l05Ring (k : Nat) : Int × Int × LPt × LFc × List (Int) → Option (LPt × Bool) := fun (a0, a1, a2, a3, a4) => ((spec_l05Ring_3 k k (a0, a1, a2, a3, a4, 0, [])).bind fun r => match r with | .inl z1 => some (z1, true) | .inr (z2, z3) => some (z3, z2))
def spec_l05Points_9 (k : Nat) : Nat → Int × Int × LPt × LFc × Int × Int → Option ((Int × Int × LPt × LFc × Int) ⊕ (Bool))
 | 0, _ => none
 | g + 1, (x0, x1, x2, x3, x4, x5) => (bif (decide (x5 < x4)) then (bif (decide (0 ≤ x4)) then (bif (decide (x4 < (x2.length : Int))) then (bif (decide (0 ≤ x5)) then (bif (decide (x5 < (x2.length : Int))) then (bif (((rd cP x2 x4).1 == (rd cP x2 x5).1) && (((rd cP x2 x4).2 == (rd cP x2 x5).2) && true)) then some (.inr false) else spec_l05Points_9 k g (x0, x1, x2, x3, x4, (w64 (x5 + 1)))) else none) else none) else none) else none) else some (.inl (x0, x1, x2, x3, x4)))
def spec_l05Points_4 (k : Nat) : Nat → Int × Int × LPt × LFc × Int → Option ((Unit) ⊕ (Bool))
 | 0, _ => none
 | g + 1, (x0, x1, x2, x3, x4) => (bif (decide (x4 < (x2.length : Int))) then (((bif (decide (0 ≤ x4)) then (bif (decide (x4 < (x2.length : Int))) then ((spec_l00In k ((rd cP x2 x4).1, 0, x0)).bind fun y0 => (bif (!y0) then some true else (bif (decide (0 ≤ x4)) then (bif (decide (x4 < (x2.length : Int))) then ((spec_l00In k ((rd cP x2 x4).2, 0, x1)).bind fun y1 => some (!y1)) else none) else none))) else none) else none) : Option (Bool)).bind fun b2 => (bif b2 then some (.inr false) else ((spec_l05Points_9 k k (x0, x1, x2, x3, x4, 0)).bind fun r => match r with | .inl (z3, z4, z5, z6, z7) => spec_l05Points_4 k g (z3, z4, z5, z6, (w64 (z7 + 1))) | .inr z8 => some (.inr z8)))) else some (.inl ()))
def spec_l05Points (k : Nat) : Int × Int × LPt × LFc → Option (Bool) := fun (a0, a1, a2, a3) => (bif (decide ((a2.length : Int) > 48)) then some false else ((spec_l05Points_4 k k (a0, a1, a2, a3, 0)).bind fun r => match r with | .inl _ => some true | .inr z9 => some z9))
def spec_l01Small (k : Nat) : Int → Option (Bool) := fun a0 => (bif (decide (a0 ≥ 97)) then some (decide (a0 ≤ 122)) else some false)
def spec_l01Digit (k : Nat) : Int → Option (Bool) := fun a0 => (bif (decide (a0 ≥ 48)) then some (decide (a0 ≤ 57)) else some false)
def spec_l01Name_4 (k : Nat) : Nat → ByteArray × Int → Option ((Unit) ⊕ (Bool))
 | 0, _ => none
 | g + 1, (x0, x1) => (bif (decide (x1 < (x0.size : Int))) then (((bif (decide (0 ≤ x1)) then (bif (decide (x1 < (x0.size : Int))) then ((spec_l01Small k (bt x0 x1)).bind fun y0 => (bif (!y0) then (bif (decide (0 ≤ x1)) then (bif (decide (x1 < (x0.size : Int))) then ((spec_l01Digit k (bt x0 x1)).bind fun y1 => some (!y1)) else none) else none) else some false)) else none) else none) : Option (Bool)).bind fun b2 => (bif b2 then some (.inr false) else spec_l01Name_4 k g (x0, (w64 (x1 + 1))))) else some (.inl ()))
def spec_l01Name (k : Nat) : ByteArray → Option (Bool) := fun a0 => (((bif (a0.toList == (ByteArray.mk (List.toArray [])).toList) then some true else (bif (decide ((a0.size : Int) > 10)) then some true else (bif (decide (0 < (a0.size : Int))) then ((spec_l01Small k (bt a0 0)).bind fun y0 => some (!y0)) else none))) : Option (Bool)).bind fun b1 => (bif b1 then some false else ((spec_l01Name_4 k k (a0, 0)).bind fun r => match r with | .inl _ => some true | .inr z5 => some z5)))
def spec_l02Ok (k : Nat) : Int × Int → Option (Bool) := fun (a0, a1) => ((spec_l00In k (a0, 0, 20000)).bind fun y0 => (bif y0 then ((spec_l00In k (a1, 0, 20000)).bind fun y1 => some y1) else some false))
def spec_l00Max (k : Nat) : Int × Int → Option (Int) := fun (a0, a1) => (bif (decide (a0 > a1)) then some a0 else some a1)
def spec_l00Min (k : Nat) : Int × Int → Option (Int) := fun (a0, a1) => (bif (decide (a0 < a1)) then some a0 else some a1)
def spec_l02Cross (k : Nat) : Int × Int × Int × Int × Int × Int → Option (Int) := fun (a0, a1, a2, a3, a4, a5) => some (w64 ((w64 ((w64 (a2 - a0)) * (w64 (a5 - a1)))) - (w64 ((w64 (a3 - a1)) * (w64 (a4 - a0))))))
def spec_l02Side (k : Nat) : Int × Int × Int × Int × Int × Int → Option (Int) := fun (a0, a1, a2, a3, a4, a5) => ((spec_l02Cross k (a0, a1, a2, a3, a4, a5)).bind fun y0 => (bif (decide (y0 > 0)) then some 1 else (bif (decide (y0 < 0)) then some (-1) else some 0)))
def spec_l02On (k : Nat) : Int × Int × Int × Int × Int × Int → Option (Bool) := fun (a0, a1, a2, a3, a4, a5) => ((spec_l02Side k (a0, a1, a2, a3, a4, a5)).bind fun y0 => (bif (y0 == 0) then ((spec_l00Min k (a0, a2)).bind fun y1 => ((spec_l00Max k (a0, a2)).bind fun y2 => ((spec_l00In k (a4, y1, y2)).bind fun y3 => (bif y3 then ((spec_l00Min k (a1, a3)).bind fun y4 => ((spec_l00Max k (a1, a3)).bind fun y5 => ((spec_l00In k (a5, y4, y5)).bind fun y6 => some y6))) else some false)))) else some false))
def spec_l02Crosses (k : Nat) : Int × Int × Int × Int × Int × Int × Int × Int → Option (Bool) := fun (a0, a1, a2, a3, a4, a5, a6, a7) => ((spec_l02Side k (a0, a1, a2, a3, a4, a5)).bind fun y0 => ((spec_l02Side k (a0, a1, a2, a3, a6, a7)).bind fun y1 => (bif (decide ((w64 (y0 * y1)) < 0)) then ((spec_l02Side k (a4, a5, a6, a7, a0, a1)).bind fun y2 => ((spec_l02Side k (a4, a5, a6, a7, a2, a3)).bind fun y3 => some (decide ((w64 (y2 * y3)) < 0)))) else some false)))
def spec_l03Meet (k : Nat) : Int × Int × Int × Int × Int × Int × Int × Int → Option (Bool) := fun (a0, a1, a2, a3, a4, a5, a6, a7) => ((spec_l02Crosses k (a0, a1, a2, a3, a4, a5, a6, a7)).bind fun y0 => (bif y0 then some true else ((spec_l02On k (a0, a1, a2, a3, a4, a5)).bind fun y1 => (bif y1 then some true else ((spec_l02On k (a0, a1, a2, a3, a6, a7)).bind fun y2 => (bif y2 then some true else ((spec_l02On k (a4, a5, a6, a7, a0, a1)).bind fun y3 => (bif y3 then some true else ((spec_l02On k (a4, a5, a6, a7, a2, a3)).bind fun y4 => some y4)))))))))
def spec_l03Area_3 (k : Nat) : Nat → LPt × Int × Int → Option (Int)
 | 0, _ => none
 | g + 1, (x0, x1, x2) => (bif (decide (x2 < (x0.length : Int))) then (bif (decide ((x0.length : Int) = 0)) then none else (bif (decide (0 ≤ (Int.tmod (w64 (x2 + 1)) (x0.length : Int)))) then (bif (decide ((Int.tmod (w64 (x2 + 1)) (x0.length : Int)) < (x0.length : Int))) then (bif (decide (0 ≤ x2)) then (bif (decide (x2 < (x0.length : Int))) then (bif (decide (0 ≤ x2)) then (bif (decide (x2 < (x0.length : Int))) then spec_l03Area_3 k g (x0, (w64 (x1 + (w64 ((w64 ((rd cP x0 x2).1 * (rd cP x0 (Int.tmod (w64 (x2 + 1)) (x0.length : Int))).2)) - (w64 ((rd cP x0 x2).2 * (rd cP x0 (Int.tmod (w64 (x2 + 1)) (x0.length : Int))).1)))))), (w64 (x2 + 1))) else none) else none) else none) else none) else none) else none)) else some x1)
def spec_l03Area (k : Nat) : LPt → Option (Int) := fun a0 => ((spec_l03Area_3 k k (a0, 0, 0)).bind fun z0 => some z0)
def spec_l03Ok_5 (k : Nat) : Nat → LPt × Int × Int → Option ((LPt × Int) ⊕ (Bool))
 | 0, _ => none
 | g + 1, (x0, x1, x2) => (bif (decide (x2 < x1)) then (bif (decide (0 ≤ x2)) then (bif (decide (x2 < (x0.length : Int))) then ((spec_l02Ok k ((rd cP x0 x2).1, (rd cP x0 x2).2)).bind fun y0 => (bif (!y0) then some (.inr false) else spec_l03Ok_5 k g (x0, x1, (w64 (x2 + 1))))) else none) else none) else some (.inl (x0, x1)))
def spec_l03Ok_18 (k : Nat) : Nat → LPt × Int × Int × Int × Int × Int × Int × Int → Option ((LPt × Int × Int) ⊕ (Bool))
 | 0, _ => none
 | g + 1, (x0, x1, x2, x3, x4, x5, x6, x7) => (bif (decide (x3 < x1)) then (((bif (decide (x1 = 0)) then none else (bif ((Int.tmod (w64 (x3 + 1)) x1) != x2) then (bif (decide (0 ≤ x3)) then (bif (decide (x3 < (x0.length : Int))) then (bif (decide (x1 = 0)) then none else (bif (decide (0 ≤ (Int.tmod (w64 (x3 + 1)) x1))) then (bif (decide ((Int.tmod (w64 (x3 + 1)) x1) < (x0.length : Int))) then ((spec_l03Meet k (x4, x5, x6, x7, (rd cP x0 x3).1, (rd cP x0 x3).2, (rd cP x0 (Int.tmod (w64 (x3 + 1)) x1)).1, (rd cP x0 (Int.tmod (w64 (x3 + 1)) x1)).2)).bind fun y0 => some y0) else none) else none)) else none) else none) else some false)) : Option (Bool)).bind fun b1 => (bif b1 then some (.inr false) else spec_l03Ok_18 k g (x0, x1, x2, (w64 (x3 + 1)), x4, x5, x6, x7))) else some (.inl (x0, x1, x2)))
def spec_l03Ok_10 (k : Nat) : Nat → LPt × Int × Int → Option ((LPt) ⊕ (Bool))
 | 0, _ => none
 | g + 1, (x0, x1, x2) => (bif (decide (x2 < x1)) then (bif (decide (0 ≤ x2)) then (bif (decide (x2 < (x0.length : Int))) then (bif (decide (x1 = 0)) then none else (bif (decide (0 ≤ (Int.tmod (w64 (x2 + 1)) x1))) then (bif (decide ((Int.tmod (w64 (x2 + 1)) x1) < (x0.length : Int))) then (bif (decide (x1 = 0)) then none else (bif (decide (0 ≤ (Int.tmod (w64 (x2 + 2)) x1))) then (bif (decide ((Int.tmod (w64 (x2 + 2)) x1) < (x0.length : Int))) then (((bif (((rd cP x0 x2).1 == (rd cP x0 (Int.tmod (w64 (x2 + 1)) x1)).1) && (((rd cP x0 x2).2 == (rd cP x0 (Int.tmod (w64 (x2 + 1)) x1)).2) && true)) then some true else ((spec_l02On k ((rd cP x0 x2).1, (rd cP x0 x2).2, (rd cP x0 (Int.tmod (w64 (x2 + 1)) x1)).1, (rd cP x0 (Int.tmod (w64 (x2 + 1)) x1)).2, (rd cP x0 (Int.tmod (w64 (x2 + 2)) x1)).1, (rd cP x0 (Int.tmod (w64 (x2 + 2)) x1)).2)).bind fun y0 => (bif y0 then some true else ((spec_l02On k ((rd cP x0 (Int.tmod (w64 (x2 + 1)) x1)).1, (rd cP x0 (Int.tmod (w64 (x2 + 1)) x1)).2, (rd cP x0 (Int.tmod (w64 (x2 + 2)) x1)).1, (rd cP x0 (Int.tmod (w64 (x2 + 2)) x1)).2, (rd cP x0 x2).1, (rd cP x0 x2).2)).bind fun y1 => some y1)))) : Option (Bool)).bind fun b2 => (bif b2 then some (.inr false) else ((spec_l03Ok_18 k k (x0, x1, x2, (w64 (x2 + 2)), (rd cP x0 x2).1, (rd cP x0 x2).2, (rd cP x0 (Int.tmod (w64 (x2 + 1)) x1)).1, (rd cP x0 (Int.tmod (w64 (x2 + 1)) x1)).2)).bind fun r => match r with | .inl (z3, z4, z5) => spec_l03Ok_10 k g (z3, z4, (w64 (z5 + 1))) | .inr z6 => some (.inr z6)))) else none) else none)) else none) else none)) else none) else none) else some (.inl x0))
def spec_l03Ok (k : Nat) : LPt → Option (Bool) := fun a0 => (((bif (decide ((a0.length : Int) < 3)) then some true else some (decide ((a0.length : Int) > 24))) : Option (Bool)).bind fun b0 => (bif b0 then some false else ((spec_l03Ok_5 k k (a0, (a0.length : Int), 0)).bind fun r => match r with | .inl (z2, z3) => ((spec_l03Ok_10 k k (z2, z3, 0)).bind fun r => match r with | .inl z13 => ((spec_l03Area k z13).bind fun y14 => some (decide (y14 > 0))) | .inr z15 => some z15) | .inr z16 => some z16)))
def spec_l05Ok_4 (k : Nat) : Nat → Int × Int × LPt × LFc × Int → Option ((Unit) ⊕ (Bool))
 | 0, _ => none
 | g + 1, (x0, x1, x2, x3, x4) => (bif (decide (x4 < (x3.length : Int))) then (((bif (decide (0 ≤ x4)) then (bif (decide (x4 < (x3.length : Int))) then ((spec_l01Name k (rd cF x3 x4).1).bind fun y0 => (bif (!y0) then some true else (bif (decide (x4 > 0)) then (bif (decide (0 ≤ (w64 (x4 - 1)))) then (bif (decide ((w64 (x4 - 1)) < (x3.length : Int))) then (bif (decide (0 ≤ x4)) then (bif (decide (x4 < (x3.length : Int))) then some (!(Op.bytesLess (rd cF x3 (w64 (x4 - 1))).1.toList (rd cF x3 x4).1.toList)) else none) else none) else none) else none) else some false))) else none) else none) : Option (Bool)).bind fun b1 => (bif b1 then some (.inr false) else (bif (decide (0 ≤ x4)) then (bif (decide (x4 < (x3.length : Int))) then ((spec_l05Ring k (x0, x1, x2, x3, (rd cF x3 x4).2)).bind fun (y2, y3) => (((bif (!y3) then some true else ((spec_l03Ok k y2).bind fun y4 => some (!y4))) : Option (Bool)).bind fun b5 => (bif b5 then some (.inr false) else spec_l05Ok_4 k g (x0, x1, x2, x3, (w64 (x4 + 1)))))) else none) else none))) else some (.inl ()))
def spec_l05Ok (k : Nat) : Int × Int × LPt × LFc → Option (Bool) := fun (a0, a1, a2, a3) => ((((spec_l00In k (a0, 10, 20000)).bind fun y0 => (bif (!y0) then some true else ((spec_l00In k (a1, 10, 20000)).bind fun y1 => (bif (!y1) then some true else ((spec_l05Points k (a0, a1, a2, a3)).bind fun y2 => (bif (!y2) then some true else some (decide ((a3.length : Int) > 24)))))))) : Option (Bool)).bind fun b3 => (bif b3 then some false else ((spec_l05Ok_4 k k (a0, a1, a2, a3, 0)).bind fun r => match r with | .inl _ => some true | .inr z10 => some z10)))
def spec_l07Names (k : Nat) : Unit → Option (List (ByteArray)) := fun _ => some ((ByteArray.mk (List.toArray (97 :: (115 :: (104 :: []))))) :: ((ByteArray.mk (List.toArray (98 :: (101 :: (101 :: (99 :: (104 :: []))))))) :: ((ByteArray.mk (List.toArray (98 :: (105 :: (114 :: (99 :: (104 :: []))))))) :: ((ByteArray.mk (List.toArray (99 :: (104 :: (101 :: (114 :: (114 :: (121 :: [])))))))) :: ((ByteArray.mk (List.toArray (101 :: (98 :: (111 :: (110 :: (121 :: []))))))) :: ((ByteArray.mk (List.toArray (104 :: (111 :: (108 :: (108 :: (121 :: []))))))) :: ((ByteArray.mk (List.toArray (109 :: (97 :: (112 :: (108 :: (101 :: []))))))) :: ((ByteArray.mk (List.toArray (111 :: (97 :: (107 :: []))))) :: ((ByteArray.mk (List.toArray (114 :: (111 :: (115 :: (101 :: (119 :: (111 :: (111 :: (100 :: [])))))))))) :: ((ByteArray.mk (List.toArray (119 :: (97 :: (108 :: (110 :: (117 :: (116 :: [])))))))) :: []))))))))))
def spec_l07Find_3 (k : Nat) : Nat → ByteArray × Int × List (ByteArray) → Option ((Unit) ⊕ (Int))
 | 0, _ => none
 | g + 1, (x0, x1, x2) => (bif (decide (x1 < (x2.length : Int))) then (bif (decide (0 ≤ x1)) then (bif (decide (x1 < (x2.length : Int))) then (bif ((List.getD x2 (Int.toNat x1) (dflt .str)).toList == x0.toList) then some (.inr x1) else spec_l07Find_3 k g (x0, (w64 (x1 + 1)), x2)) else none) else none) else some (.inl ()))
def spec_l07Find (k : Nat) : ByteArray → Option (Int) := fun a0 => ((spec_l07Names k ()).bind fun y0 => ((spec_l07Find_3 k k (a0, 0, y0)).bind fun r => match r with | .inl _ => some (-1) | .inr z1 => some z1))
def spec_l07Table (k : Nat) : Unit → Option (List (List (Int))) := fun _ => some ((20 :: (40 :: (310 :: []))) :: ((35 :: (45 :: (410 :: []))) :: ((15 :: (33 :: (280 :: []))) :: ((50 :: (36 :: (240 :: []))) :: ((95 :: (85 :: (270 :: []))) :: ((5 :: (35 :: (370 :: []))) :: ((10 :: (42 :: (290 :: []))) :: ((40 :: (40 :: (330 :: []))) :: ((80 :: (60 :: (220 :: []))) :: ((70 :: (38 :: (260 :: []))) :: []))))))))))
def spec_l07Grain (k : Nat) : Int → Option (Bool) := fun a0 => ((spec_l00In k (a0, 0, 179)).bind fun y0 => some y0)
def spec_l07Ok (k : Nat) : ByteArray × Int × Int → Option (Bool) := fun (a0, a1, a2) => ((spec_l07Find k a0).bind fun y0 => (((bif (decide (y0 < 0)) then some true else ((spec_l00In k (a1, 0, 100)).bind fun y1 => some (!y1))) : Option (Bool)).bind fun b2 => (bif b2 then some false else ((spec_l07Table k ()).bind fun y3 => (bif (decide (0 ≤ y0)) then (bif (decide (y0 < (y3.length : Int))) then (bif (decide (0 < ((rd (.sl (.int .i64)) y3 y0).length : Int))) then ((spec_l00In k (a1, (w64 ((rd (.int .i64) (rd (.sl (.int .i64)) y3 y0) 0) - 15)), (w64 ((rd (.int .i64) (rd (.sl (.int .i64)) y3 y0) 0) + 15)))).bind fun y4 => (bif y4 then ((spec_l07Grain k a2).bind fun y5 => some y5) else some false)) else none) else none) else none)))))
def spec_l08Veneers_2 (k : Nat) : Nat → LVn × Int → Option ((Unit) ⊕ (Bool))
 | 0, _ => none
 | g + 1, (x0, x1) => (bif (decide (x1 < (x0.length : Int))) then (bif (decide (0 ≤ x1)) then (bif (decide (x1 < (x0.length : Int))) then ((spec_l07Ok k ((rd cV x0 x1).1, (rd cV x0 x1).2.1, (rd cV x0 x1).2.2)).bind fun y0 => (bif (!y0) then some (.inr false) else spec_l08Veneers_2 k g (x0, (w64 (x1 + 1))))) else none) else none) else some (.inl ()))
def spec_l08Veneers (k : Nat) : LVn → Option (Bool) := fun a0 => ((spec_l08Veneers_2 k k (a0, 0)).bind fun r => match r with | .inl _ => some true | .inr z1 => some z1)
def spec_l08Ok (k : Nat) : Int × Int × LPt × LFc × LVn → Option (Bool) := fun (a0, a1, a2, a3, a4) => ((spec_l05Ok k (a0, a1, a2, a3)).bind fun y0 => (bif y0 then ((spec_l08Veneers k a4).bind fun y1 => (bif y1 then some ((a4.length : Int) == (a3.length : Int)) else some false)) else some false))
def spec_l09Box (k : Nat) : Int × Int × Int × Int × Int × Int → Option (Bool) := fun (a0, a1, a2, a3, a4, a5) => ((spec_l00In k (a0, 0, a4)).bind fun y0 => (bif y0 then ((spec_l00In k (a1, 0, a5)).bind fun y1 => (bif y1 then ((spec_l00In k (a2, 1, (w64 (a4 - a0)))).bind fun y2 => (bif y2 then ((spec_l00In k (a3, 1, (w64 (a5 - a1)))).bind fun y3 => some y3) else some false)) else some false)) else some false))
def spec_l09One_6 (k : Nat) : Nat → ByteArray × ByteArray × Int × ByteArray × Int × Int × Int × Int × LBx × Int → Option ((Unit) ⊕ (Bool))
 | 0, _ => none
 | g + 1, (x0, x1, x2, x3, x4, x5, x6, x7, x8, x9) => (bif (decide (x9 < (x8.length : Int))) then (bif (decide (0 ≤ x9)) then (bif (decide (x9 < (x8.length : Int))) then ((spec_l09Box k ((rd cB x8 x9).1, (rd cB x8 x9).2.1, (rd cB x8 x9).2.2.1, (rd cB x8 x9).2.2.2, x6, x7)).bind fun y0 => (bif (!y0) then some (.inr false) else spec_l09One_6 k g (x0, x1, x2, x3, x4, x5, x6, x7, x8, (w64 (x9 + 1))))) else none) else none) else some (.inl ()))
def spec_l09One (k : Nat) : ByteArray × ByteArray × Int × ByteArray × Int × Int × Int × Int × LBx → Option (Bool) := fun (a0, a1, a2, a3, a4, a5, a6, a7, a8) => ((((spec_l01Name k a0).bind fun y0 => (bif (!y0) then some true else ((spec_l01Name k a1).bind fun y1 => (bif (!y1) then some true else ((spec_l00In k (a2, 0, 999)).bind fun y2 => (bif (!y2) then some true else ((spec_l07Ok k (a3, a4, a5)).bind fun y3 => some (!y3)))))))) : Option (Bool)).bind fun b4 => (bif b4 then some false else ((((spec_l00In k (a6, 10, 20000)).bind fun y5 => (bif (!y5) then some true else ((spec_l00In k (a7, 10, 20000)).bind fun y6 => (bif (!y6) then some true else some (decide ((a8.length : Int) > 6)))))) : Option (Bool)).bind fun b7 => (bif b7 then some false else ((spec_l09One_6 k k (a0, a1, a2, a3, a4, a5, a6, a7, a8, 0)).bind fun r => match r with | .inl _ => some true | .inr z9 => some z9)))))
def spec_l09Ok_2 (k : Nat) : Nat → LLf × Int → Option ((LLf) ⊕ (Bool))
 | 0, _ => none
 | g + 1, (x0, x1) => (bif (decide (x1 < (x0.length : Int))) then (((bif (decide (0 ≤ x1)) then (bif (decide (x1 < (x0.length : Int))) then ((spec_l09One k ((rd cL x0 x1).1, (rd cL x0 x1).2.1, (rd cL x0 x1).2.2.1, (rd cL x0 x1).2.2.2.1, (rd cL x0 x1).2.2.2.2.1, (rd cL x0 x1).2.2.2.2.2.1, (rd cL x0 x1).2.2.2.2.2.2.1, (rd cL x0 x1).2.2.2.2.2.2.2.1, (rd cL x0 x1).2.2.2.2.2.2.2.2)).bind fun y0 => (bif (!y0) then some true else (bif (decide (x1 > 0)) then (bif (decide (0 ≤ (w64 (x1 - 1)))) then (bif (decide ((w64 (x1 - 1)) < (x0.length : Int))) then (bif (decide (0 ≤ x1)) then (bif (decide (x1 < (x0.length : Int))) then some (!(Op.bytesLess (rd cL x0 (w64 (x1 - 1))).1.toList (rd cL x0 x1).1.toList)) else none) else none) else none) else none) else some false))) else none) else none) : Option (Bool)).bind fun b1 => (bif b1 then some (.inr false) else spec_l09Ok_2 k g (x0, (w64 (x1 + 1))))) else some (.inl x0))
def spec_l09Ok (k : Nat) : LLf → Option (Bool) := fun a0 => ((spec_l09Ok_2 k k (a0, 0)).bind fun r => match r with | .inl z2 => some (decide ((z2.length : Int) ≤ 16)) | .inr z3 => some z3)
def spec_l11Rules (k : Nat) : Int × Int × Int × Int → Option (Bool) := fun (a0, a1, a2, a3) => ((spec_l00In k (a0, 0, 500)).bind fun y0 => (bif y0 then ((spec_l00In k (a1, 0, 500)).bind fun y1 => (bif y1 then ((spec_l00In k (a2, 0, 90)).bind fun y2 => (bif y2 then ((spec_l00In k (a3, 0, 100)).bind fun y3 => some y3) else some false)) else some false)) else some false))
def spec_l11Ask (k : Nat) : Int × Int × LPt × LFc × LVn × LLf × Int × Int × Int × Int → Option (Int) := fun (a0, a1, a2, a3, a4, a5, a6, a7, a8, a9) => ((((spec_l08Ok k (a0, a1, a2, a3, a4)).bind fun y0 => (bif (!y0) then some true else ((spec_l09Ok k a5).bind fun y1 => (bif (!y1) then some true else ((spec_l11Rules k (a6, a7, a8, a9)).bind fun y2 => some (!y2)))))) : Option (Bool)).bind fun b3 => (bif b3 then some 1 else some 0))
def spec_l11Step_4 (k : Nat) : Nat → LLf × Int × Int → Option ((Unit) ⊕ (Int))
 | 0, _ => none
 | g + 1, (x0, x1, x2) => (bif (decide (x2 < (x0.length : Int))) then (bif (decide (0 ≤ x2)) then (bif (decide (x2 < (x0.length : Int))) then (bif (decide (x1 = 0)) then none else (bif (decide (0 ≤ x2)) then (bif (decide (x2 < (x0.length : Int))) then (bif (decide (x1 = 0)) then none else (bif (decide ((w64 ((w64 ((w64 (Int.tdiv (rd cL x0 x2).2.2.2.2.2.2.1 x1)) + 1)) * (w64 ((w64 (Int.tdiv (rd cL x0 x2).2.2.2.2.2.2.2.1 x1)) + 1)))) > 400)) then some (.inr 5) else spec_l11Step_4 k g (x0, x1, (w64 (x2 + 1))))) else none) else none)) else none) else none) else some (.inl ()))
def spec_l11Step (k : Nat) : LLf × Int → Option (Int) := fun (a0, a1) => ((spec_l00In k (a1, 1, 20000)).bind fun y0 => (bif (!y0) then some 2 else ((spec_l11Step_4 k k (a0, a1, 0)).bind fun r => match r with | .inl _ => some 0 | .inr z1 => some z1)))
def spec_l07Angle (k : Nat) : Int × Int → Option (Int) := fun (a0, a1) => ((spec_l00Max k ((w64 (a0 - a1)), (w64 (a1 - a0)))).bind fun y0 => ((spec_l00Min k (y0, (w64 (180 - y0)))).bind fun y1 => some y1))
def spec_l07Turned (k : Nat) : Int × Int → Option (Int) := fun (a0, a1) => (bif (decide (a1 ≥ 4)) then some (Int.tmod (w64 ((w64 (180 - a0)) + (w64 (90 * a1)))) 180) else some (Int.tmod (w64 (a0 + (w64 (90 * a1)))) 180))
def spec_l11Veneer (k : Nat) : ByteArray × Int × Int × ByteArray × ByteArray × Int × ByteArray × Int × Int × Int × Int × LBx × Int × Int × Int × Int × Int → Option (Int) := fun (a0, a1, a2, a3, a4, a5, a6, a7, a8, a9, a10, a11, a12, a13, a14, a15, a16) => (bif (!(a0.toList == a6.toList)) then some 2 else ((spec_l00Max k ((w64 (a1 - a7)), (w64 (a7 - a1)))).bind fun y0 => (bif (decide (y0 > a16)) then some 3 else ((spec_l07Turned k (a8, a12)).bind fun y1 => ((spec_l07Angle k (y1, a2)).bind fun y2 => (bif (decide (y2 > a15)) then some 4 else some 0))))))
def spec_l03Bounds_4 (k : Nat) : Nat → LPt × Int × Int × Int × Int × Int × Int × Int × Int × Int → Option (Int × Int × Int × Int × Int × Int × Int × Int)
 | 0, _ => none
 | g + 1, (x0, x1, x2, x3, x4, x5, x6, x7, x8, x9) => (bif (decide (x1 < (x0.length : Int))) then (bif (decide (0 ≤ x1)) then (bif (decide (x1 < (x0.length : Int))) then ((spec_l00Min k (x6, (rd cP x0 x1).1)).bind fun y0 => (bif (decide (0 ≤ x1)) then (bif (decide (x1 < (x0.length : Int))) then ((spec_l00Min k (x7, (rd cP x0 x1).2)).bind fun y1 => (bif (decide (0 ≤ x1)) then (bif (decide (x1 < (x0.length : Int))) then ((spec_l00Max k (x8, (rd cP x0 x1).1)).bind fun y2 => (bif (decide (0 ≤ x1)) then (bif (decide (x1 < (x0.length : Int))) then ((spec_l00Max k (x9, (rd cP x0 x1).2)).bind fun y3 => spec_l03Bounds_4 k g (x0, (w64 (x1 + 1)), x2, x3, x4, x5, y0, y1, y2, y3)) else none) else none)) else none) else none)) else none) else none)) else none) else none) else some (x2, x3, x4, x5, x6, x7, x8, x9))
def spec_l03Bounds (k : Nat) : LPt → Option (Int × Int × Int × Int) := fun a0 => (bif (decide (0 < (a0.length : Int))) then (bif (decide (0 < (a0.length : Int))) then ((spec_l03Bounds_4 k k (a0, 1, 0, 0, 0, 0, (rd cP a0 0).1, (rd cP a0 0).2, (rd cP a0 0).1, (rd cP a0 0).2)).bind fun (z4, z5, z6, z7, z8, z9, z10, z11) => some (z8, (z9, (z10, z11)))) else none) else none)
def spec_l02Turned_4 (k : Nat) : Nat → Int × Int × Int × Int × Int → Option (Int × Int × Int × Int)
 | 0, _ => none
 | g + 1, (x0, x1, x2, x3, x4) => (bif (decide (x0 > 0)) then spec_l02Turned_4 k g ((w64 (x0 - 1)), (w64 (0 - x2)), x1, x3, x4) else some (x1, x2, x3, x4))
def spec_l02Turned (k : Nat) : Int × Int × Int → Option (Int × Int) := fun (a0, a1, a2) => (bif (decide (a2 ≥ 4)) then ((spec_l02Turned_4 k k ((Int.tmod a2 4), (w64 (0 - a0)), a1, 0, 0)).bind fun (z0, z1, z2, z3) => some (z0, z1)) else ((spec_l02Turned_4 k k ((Int.tmod a2 4), a0, a1, 0, 0)).bind fun (z4, z5, z6, z7) => some (z4, z5)))
def spec_l03Shifted_3 (k : Nat) : Nat → LPt × Int × Int × Int × LPt → Option (LPt)
 | 0, _ => none
 | g + 1, (x0, x1, x2, x3, x4) => (bif (decide (x3 < (x0.length : Int))) then (bif (decide (0 ≤ x3)) then (bif (decide (x3 < (x0.length : Int))) then (bif (decide (0 ≤ x3)) then (bif (decide (x3 < (x0.length : Int))) then (bif (decide (((x4.length + (((w64 ((rd cP x0 x3).1 + x1)), (w64 ((rd cP x0 x3).2 + x2))) :: []).length) * 16) ≤ 140737488355328)) then spec_l03Shifted_3 k g (x0, x1, x2, (w64 (x3 + 1)), (x4 ++ (((w64 ((rd cP x0 x3).1 + x1)), (w64 ((rd cP x0 x3).2 + x2))) :: []))) else none) else none) else none) else none) else none) else some x4)
def spec_l03Shifted (k : Nat) : LPt × Int × Int → Option (LPt) := fun (a0, a1, a2) => ((spec_l03Shifted_3 k k (a0, a1, a2, 0, [])).bind fun z0 => some z0)
def spec_l03Turned_3 (k : Nat) : Nat → LPt × Int × Int × LPt → Option (LPt)
 | 0, _ => none
 | g + 1, (x0, x1, x2, x3) => (bif (decide (x2 < (x0.length : Int))) then (bif (decide (x1 ≥ 4)) then (bif (decide ((x0.length : Int) = 0)) then none else (bif (decide (0 ≤ (Int.tmod (w64 ((x0.length : Int) - x2)) (x0.length : Int)))) then (bif (decide ((Int.tmod (w64 ((x0.length : Int) - x2)) (x0.length : Int)) < (x0.length : Int))) then ((spec_l02Turned k ((rd cP x0 (Int.tmod (w64 ((x0.length : Int) - x2)) (x0.length : Int))).1, (rd cP x0 (Int.tmod (w64 ((x0.length : Int) - x2)) (x0.length : Int))).2, x1)).bind fun (y0, y1) => (bif (decide (((x3.length + ((y0, y1) :: []).length) * 16) ≤ 140737488355328)) then spec_l03Turned_3 k g (x0, x1, (w64 (x2 + 1)), (x3 ++ ((y0, y1) :: []))) else none)) else none) else none)) else (bif (decide (0 ≤ x2)) then (bif (decide (x2 < (x0.length : Int))) then ((spec_l02Turned k ((rd cP x0 x2).1, (rd cP x0 x2).2, x1)).bind fun (y2, y3) => (bif (decide (((x3.length + ((y2, y3) :: []).length) * 16) ≤ 140737488355328)) then spec_l03Turned_3 k g (x0, x1, (w64 (x2 + 1)), (x3 ++ ((y2, y3) :: []))) else none)) else none) else none)) else some x3)
def spec_l03Turned (k : Nat) : LPt × Int → Option (LPt) := fun (a0, a1) => ((spec_l03Turned_3 k k (a0, a1, 0, [])).bind fun z4 => ((spec_l03Bounds k z4).bind fun (y5, y6, y7, y8) => ((spec_l03Shifted k (z4, (w64 (0 - y5)), (w64 (0 - y6)))).bind fun y9 => some y9)))
def spec_l05Polygon (k : Nat) : Int × Int × LPt × LFc × Int → Option (LPt) := fun (a0, a1, a2, a3, a4) => (bif (decide (0 ≤ a4)) then (bif (decide (a4 < (a3.length : Int))) then ((spec_l05Ring k (a0, a1, a2, a3, (rd cF a3 a4).2)).bind fun (y0, y1) => some y0) else none) else none)
def spec_l04In (k : Nat) : Int × Int × Int × Int × Int × Int × Int × Int → Option (Bool) := fun (a0, a1, a2, a3, a4, a5, a6, a7) => ((spec_l02Side k (a0, a1, a2, a3, a6, a7)).bind fun y0 => (bif (decide (y0 ≥ 0)) then ((spec_l02Side k (a2, a3, a4, a5, a6, a7)).bind fun y1 => (bif (decide (y1 ≥ 0)) then ((spec_l02Side k (a4, a5, a0, a1, a6, a7)).bind fun y2 => some (decide (y2 ≥ 0))) else some false)) else some false))
def spec_l04Ear_8 (k : Nat) : Nat → LPt × Int × Int × Int × Int × Int × Int × Int × Int × Int → Option ((Unit) ⊕ (Bool))
 | 0, _ => none
 | g + 1, (x0, x1, x2, x3, x4, x5, x6, x7, x8, x9) => (bif (decide (x3 < x2)) then (((bif (x3 != x1) then (bif (decide (x2 = 0)) then none else (bif (x3 != (Int.tmod (w64 ((w64 (x1 + x2)) - 1)) x2)) then (bif (decide (x2 = 0)) then none else (bif (x3 != (Int.tmod (w64 (x1 + 1)) x2)) then (bif (decide (0 ≤ x3)) then (bif (decide (x3 < (x0.length : Int))) then ((spec_l04In k (x4, x5, x6, x7, x8, x9, (rd cP x0 x3).1, (rd cP x0 x3).2)).bind fun y0 => some y0) else none) else none) else some false)) else some false)) else some false) : Option (Bool)).bind fun b1 => (bif b1 then some (.inr false) else spec_l04Ear_8 k g (x0, x1, x2, (w64 (x3 + 1)), x4, x5, x6, x7, x8, x9))) else some (.inl ()))
def spec_l04Ear (k : Nat) : LPt × Int → Option (Bool) := fun (a0, a1) => (bif (decide ((a0.length : Int) = 0)) then none else (bif (decide (0 ≤ (Int.tmod (w64 ((w64 (a1 + (a0.length : Int))) - 1)) (a0.length : Int)))) then (bif (decide ((Int.tmod (w64 ((w64 (a1 + (a0.length : Int))) - 1)) (a0.length : Int)) < (a0.length : Int))) then (bif (decide (0 ≤ a1)) then (bif (decide (a1 < (a0.length : Int))) then (bif (decide ((a0.length : Int) = 0)) then none else (bif (decide (0 ≤ (Int.tmod (w64 (a1 + 1)) (a0.length : Int)))) then (bif (decide ((Int.tmod (w64 (a1 + 1)) (a0.length : Int)) < (a0.length : Int))) then ((spec_l02Side k ((rd cP a0 (Int.tmod (w64 ((w64 (a1 + (a0.length : Int))) - 1)) (a0.length : Int))).1, (rd cP a0 (Int.tmod (w64 ((w64 (a1 + (a0.length : Int))) - 1)) (a0.length : Int))).2, (rd cP a0 a1).1, (rd cP a0 a1).2, (rd cP a0 (Int.tmod (w64 (a1 + 1)) (a0.length : Int))).1, (rd cP a0 (Int.tmod (w64 (a1 + 1)) (a0.length : Int))).2)).bind fun y0 => (bif (y0 != 1) then some false else ((spec_l04Ear_8 k k (a0, a1, (a0.length : Int), 0, (rd cP a0 (Int.tmod (w64 ((w64 (a1 + (a0.length : Int))) - 1)) (a0.length : Int))).1, (rd cP a0 (Int.tmod (w64 ((w64 (a1 + (a0.length : Int))) - 1)) (a0.length : Int))).2, (rd cP a0 a1).1, (rd cP a0 a1).2, (rd cP a0 (Int.tmod (w64 (a1 + 1)) (a0.length : Int))).1, (rd cP a0 (Int.tmod (w64 (a1 + 1)) (a0.length : Int))).2)).bind fun r => match r with | .inl _ => some true | .inr z3 => some z3))) else none) else none)) else none) else none) else none) else none))
def spec_l04Triangles_6 (k : Nat) : Nat → Int × Int × LPt × LPP → Option (Int × Int × LPt × LPP)
 | 0, _ => none
 | g + 1, (x0, x1, x2, x3) => (((bif (decide (x1 < (w64 (x0 - 1)))) then ((spec_l04Ear k (x2, x1)).bind fun y0 => some (!y0)) else some false) : Option (Bool)).bind fun b1 => (bif b1 then spec_l04Triangles_6 k g (x0, (w64 (x1 + 1)), x2, x3) else some (x0, x1, x2, x3)))
def spec_l04Triangles_3 (k : Nat) : Nat → LPt × LPP → Option (LPt × LPP)
 | 0, _ => none
 | g + 1, (x0, x1) => (bif (decide ((x0.length : Int) > 3)) then ((spec_l04Triangles_6 k k ((x0.length : Int), 0, x0, x1)).bind fun (z0, z1, z2, z3) => (bif (decide (z0 = 0)) then none else (bif (decide (0 ≤ (Int.tmod (w64 ((w64 (z1 + z0)) - 1)) z0))) then (bif (decide ((Int.tmod (w64 ((w64 (z1 + z0)) - 1)) z0) < (z2.length : Int))) then (bif (decide (0 ≤ z1)) then (bif (decide (z1 < (z2.length : Int))) then (bif (decide (z0 = 0)) then none else (bif (decide (0 ≤ (Int.tmod (w64 (z1 + 1)) z0))) then (bif (decide ((Int.tmod (w64 (z1 + 1)) z0) < (z2.length : Int))) then (bif (decide (((z3.length + ((((List.getD z2 (Int.toNat (Int.tmod (w64 ((w64 (z1 + z0)) - 1)) z0)) (dflt cP)).1, (List.getD z2 (Int.toNat (Int.tmod (w64 ((w64 (z1 + z0)) - 1)) z0)) (dflt cP)).2) :: (((List.getD z2 (Int.toNat z1) (dflt cP)).1, (List.getD z2 (Int.toNat z1) (dflt cP)).2) :: (((List.getD z2 (Int.toNat (Int.tmod (w64 (z1 + 1)) z0)) (dflt cP)).1, (List.getD z2 (Int.toNat (Int.tmod (w64 (z1 + 1)) z0)) (dflt cP)).2) :: []))) :: []).length) * 24) ≤ 140737488355328)) then (bif (decide (0 ≤ z1)) then (bif (decide (z1 ≤ (z2.length : Int))) then (bif (decide ((((0 : Nat) + (win z2 (Int.toNat 0) (Int.toNat z1)).length) * 16) ≤ 140737488355328)) then (bif (decide (0 ≤ (w64 (z1 + 1)))) then (bif (decide ((w64 (z1 + 1)) ≤ (z2.length : Int))) then (bif (decide (((([] ++ (win z2 (Int.toNat 0) (Int.toNat z1))).length + (win z2 (Int.toNat (w64 (z1 + 1))) z2.length).length) * 16) ≤ 140737488355328)) then spec_l04Triangles_3 k g ((([] ++ (win z2 (Int.toNat 0) (Int.toNat z1))) ++ (win z2 (Int.toNat (w64 (z1 + 1))) z2.length)), (z3 ++ ((((List.getD z2 (Int.toNat (Int.tmod (w64 ((w64 (z1 + z0)) - 1)) z0)) (dflt cP)).1, (List.getD z2 (Int.toNat (Int.tmod (w64 ((w64 (z1 + z0)) - 1)) z0)) (dflt cP)).2) :: (((List.getD z2 (Int.toNat z1) (dflt cP)).1, (List.getD z2 (Int.toNat z1) (dflt cP)).2) :: (((List.getD z2 (Int.toNat (Int.tmod (w64 (z1 + 1)) z0)) (dflt cP)).1, (List.getD z2 (Int.toNat (Int.tmod (w64 (z1 + 1)) z0)) (dflt cP)).2) :: []))) :: []))) else none) else none) else none) else none) else none) else none) else none) else none) else none)) else none) else none) else none) else none))) else some (x0, x1))
def spec_l04Triangles (k : Nat) : LPt → Option (LPP) := fun a0 => (bif (decide ((((0 : Nat) + a0.length) * 16) ≤ 140737488355328)) then ((spec_l04Triangles_3 k k (([] ++ a0), [])).bind fun (z6, z7) => (bif (decide ((((0 : Nat) + z6.length) * 16) ≤ 140737488355328)) then (bif (decide (((z7.length + (([] ++ z6) :: []).length) * 24) ≤ 140737488355328)) then some (z7 ++ (([] ++ z6) :: [])) else none) else none)) else none)
def spec_l04Parted_6 (k : Nat) : Nat → LPt × LPt × Int × Bool × Int → Option (LPt × LPt × Int × Bool)
 | 0, _ => none
 | g + 1, (x0, x1, x2, x3, x4) => (bif (decide (x4 < 3)) then (bif x3 then (bif (decide (0 ≤ x2)) then (bif (decide (x2 < (x0.length : Int))) then (bif (decide (0 ≤ (Int.tmod (w64 (x2 + 1)) 3))) then (bif (decide ((Int.tmod (w64 (x2 + 1)) 3) < (x0.length : Int))) then (bif (decide (0 ≤ x4)) then (bif (decide (x4 < (x1.length : Int))) then ((spec_l02Side k ((rd cP x0 x2).1, (rd cP x0 x2).2, (rd cP x0 (Int.tmod (w64 (x2 + 1)) 3)).1, (rd cP x0 (Int.tmod (w64 (x2 + 1)) 3)).2, (rd cP x1 x4).1, (rd cP x1 x4).2)).bind fun y0 => spec_l04Parted_6 k g (x0, x1, x2, (decide (y0 ≤ 0)), (w64 (x4 + 1)))) else none) else none) else none) else none) else none) else none) else spec_l04Parted_6 k g (x0, x1, x2, false, (w64 (x4 + 1)))) else some (x0, x1, x2, x3))
def spec_l04Parted_2 (k : Nat) : Nat → LPt × LPt × Int → Option ((Unit) ⊕ (Bool))
 | 0, _ => none
 | g + 1, (x0, x1, x2) => (bif (decide (x2 < 3)) then ((spec_l04Parted_6 k k (x0, x1, x2, true, 0)).bind fun (z0, z1, z2, z3) => (bif z3 then some (.inr true) else spec_l04Parted_2 k g (z0, z1, (w64 (z2 + 1))))) else some (.inl ()))
def spec_l04Parted (k : Nat) : LPt × LPt → Option (Bool) := fun (a0, a1) => ((spec_l04Parted_2 k k (a0, a1, 0)).bind fun r => match r with | .inl _ => some false | .inr z5 => some z5)
def spec_l04Disjoint_7 (k : Nat) : Nat → Int × Int × LPP × LPP → Option ((Int × LPP × LPP) ⊕ (Bool))
 | 0, _ => none
 | g + 1, (x0, x1, x2, x3) => (bif (decide (x1 < (x3.length : Int))) then (((bif (decide (0 ≤ x0)) then (bif (decide (x0 < (x2.length : Int))) then (bif (decide (0 ≤ x1)) then (bif (decide (x1 < (x3.length : Int))) then ((spec_l04Parted k ((List.getD x2 (Int.toNat x0) (dflt (.sl cP))), (List.getD x3 (Int.toNat x1) (dflt (.sl cP))))).bind fun y0 => (bif (!y0) then (bif (decide (0 ≤ x1)) then (bif (decide (x1 < (x3.length : Int))) then (bif (decide (0 ≤ x0)) then (bif (decide (x0 < (x2.length : Int))) then ((spec_l04Parted k ((List.getD x3 (Int.toNat x1) (dflt (.sl cP))), (List.getD x2 (Int.toNat x0) (dflt (.sl cP))))).bind fun y1 => some (!y1)) else none) else none) else none) else none) else some false)) else none) else none) else none) else none) : Option (Bool)).bind fun b2 => (bif b2 then some (.inr false) else spec_l04Disjoint_7 k g (x0, (w64 (x1 + 1)), x2, x3))) else some (.inl (x0, x2, x3)))
def spec_l04Disjoint_4 (k : Nat) : Nat → Int × LPP × LPP → Option ((Unit) ⊕ (Bool))
 | 0, _ => none
 | g + 1, (x0, x1, x2) => (bif (decide (x0 < (x1.length : Int))) then ((spec_l04Disjoint_7 k k (x0, 0, x1, x2)).bind fun r => match r with | .inl (z0, z1, z2) => spec_l04Disjoint_4 k g ((w64 (z0 + 1)), z1, z2) | .inr z3 => some (.inr z3)) else some (.inl ()))
def spec_l04Disjoint (k : Nat) : LPt × LPt → Option (Bool) := fun (a0, a1) => ((spec_l04Triangles k a0).bind fun y0 => ((spec_l04Triangles k a1).bind fun y1 => ((spec_l04Disjoint_4 k k (0, y0, y1)).bind fun r => match r with | .inl _ => some true | .inr z9 => some z9)))
def spec_l11Box (k : Nat) : Int × Int × Int × Int → Option (LPt) := fun (a0, a1, a2, a3) => some ((a0, a1) :: (((w64 (a0 + a2)), a1) :: (((w64 (a0 + a2)), (w64 (a1 + a3))) :: ((a0, (w64 (a1 + a3))) :: []))))
def spec_l11Leaf_5 (k : Nat) : Nat → LPt × ByteArray × ByteArray × Int × ByteArray × Int × Int × Int × Int × LBx × Int × Int × Int × Int × Int → Option ((Unit) ⊕ (Int))
 | 0, _ => none
 | g + 1, (x0, x1, x2, x3, x4, x5, x6, x7, x8, x9, x10, x11, x12, x13, x14) => (bif (decide (x10 < (x9.length : Int))) then (bif (decide (0 ≤ x10)) then (bif (decide (x10 < (x9.length : Int))) then (((bif (decide ((rd cB x9 x10).1 < x13)) then (bif (decide (x11 < (w64 ((rd cB x9 x10).1 + (rd cB x9 x10).2.2.1)))) then (bif (decide ((rd cB x9 x10).2.1 < x14)) then (bif (decide (x12 < (w64 ((rd cB x9 x10).2.1 + (rd cB x9 x10).2.2.2)))) then ((spec_l11Box k ((rd cB x9 x10).1, (rd cB x9 x10).2.1, (rd cB x9 x10).2.2.1, (rd cB x9 x10).2.2.2)).bind fun y0 => ((spec_l04Disjoint k (x0, y0)).bind fun y1 => some (!y1))) else some false) else some false) else some false) else some false) : Option (Bool)).bind fun b2 => (bif b2 then some (.inr 6) else spec_l11Leaf_5 k g (x0, x1, x2, x3, x4, x5, x6, x7, x8, x9, (w64 (x10 + 1)), x11, x12, x13, x14))) else none) else none) else some (.inl ()))
def spec_l11Leaf (k : Nat) : LPt × ByteArray × ByteArray × Int × ByteArray × Int × Int × Int × Int × LBx × Int × Int × Int × Int → Option (Int) := fun (a0, a1, a2, a3, a4, a5, a6, a7, a8, a9, a10, a11, a12, a13) => ((spec_l03Bounds k a0).bind fun (y0, y1, y2, y3) => (((bif (decide (y0 < a11)) then some true else (bif (decide (y1 < a11)) then some true else (bif (decide (y2 > (w64 (a7 - a11)))) then some true else some (decide (y3 > (w64 (a8 - a11))))))) : Option (Bool)).bind fun b4 => (bif b4 then some 5 else ((spec_l11Leaf_5 k k (a0, a1, a2, a3, a4, a5, a6, a7, a8, a9, 0, y0, y1, y2, y3)).bind fun r => match r with | .inl _ => some 0 | .inr z8 => some z8))))
def spec_l11Polygon (k : Nat) : Int × Int × LPt × LFc × LVn × Int × Int × Int × Int × Int → Option (LPt) := fun (a0, a1, a2, a3, a4, a5, a6, a7, a8, a9) => ((spec_l05Polygon k (a0, a1, a2, a3, a5)).bind fun y0 => ((spec_l03Turned k (y0, a9)).bind fun y1 => ((spec_l03Shifted k (y1, a7, a8)).bind fun y2 => some y2)))
def spec_l11Places_15 (k : Nat) : Nat → Int × Int × LPt × LFc × LVn × LLf × Int × Int × Int × Int × Int × Int × Int × ByteArray × ByteArray × Int × ByteArray × Int × Int × Int × Int × LBx × Int × Int × Int × LPl × Int × Int → Option (Int × Int × LPt × LFc × LVn × LLf × Int × Int × Int × Int × Int × Int × Int × ByteArray × ByteArray × Int × ByteArray × Int × Int × Int × Int × LBx × Int × Int × LPl × Int × Int)
 | 0, _ => none
 | g + 1, (x0, x1, x2, x3, x4, x5, x6, x7, x8, x9, x10, x11, x12, x13, x14, x15, x16, x17, x18, x19, x20, x21, x22, x23, x24, x25, x26, x27) => (bif (decide ((w64 (x24 + x26)) ≤ (w64 (x19 - x8)))) then ((spec_l11Polygon k (x0, x1, x2, x3, x4, x6, x12, x24, x23, x22)).bind fun y0 => ((spec_l11Leaf k (y0, x13, x14, x15, x16, x17, x18, x19, x20, x21, x7, x8, x9, x10)).bind fun y1 => (bif (y1 == 0) then (bif (decide (((x25.length + ((x6, (x12, (x24, (x23, x22)))) :: []).length) * 40) ≤ 140737488355328)) then spec_l11Places_15 k g (x0, x1, x2, x3, x4, x5, x6, x7, x8, x9, x10, x11, x12, x13, x14, x15, x16, x17, x18, x19, x20, x21, x22, x23, (w64 (x24 + x11)), (x25 ++ ((x6, (x12, (x24, (x23, x22)))) :: [])), x26, x27) else none) else spec_l11Places_15 k g (x0, x1, x2, x3, x4, x5, x6, x7, x8, x9, x10, x11, x12, x13, x14, x15, x16, x17, x18, x19, x20, x21, x22, x23, (w64 (x24 + x11)), x25, x26, x27)))) else some (x0, x1, x2, x3, x4, x5, x6, x7, x8, x9, x10, x11, x12, x13, x14, x15, x16, x17, x18, x19, x20, x21, x22, x23, x25, x26, x27))
def spec_l11Places_12 (k : Nat) : Nat → Int × Int × LPt × LFc × LVn × LLf × Int × Int × Int × Int × Int × Int × Int × ByteArray × ByteArray × Int × ByteArray × Int × Int × Int × Int × LBx × Int × Int × LPl × Int × Int → Option (Int × Int × LPt × LFc × LVn × LLf × Int × Int × Int × Int × Int × Int × Int × ByteArray × ByteArray × Int × ByteArray × Int × Int × Int × Int × LBx × Int × LPl)
 | 0, _ => none
 | g + 1, (x0, x1, x2, x3, x4, x5, x6, x7, x8, x9, x10, x11, x12, x13, x14, x15, x16, x17, x18, x19, x20, x21, x22, x23, x24, x25, x26) => (bif (decide ((w64 (x23 + x26)) ≤ (w64 (x20 - x8)))) then ((spec_l11Places_15 k k (x0, x1, x2, x3, x4, x5, x6, x7, x8, x9, x10, x11, x12, x13, x14, x15, x16, x17, x18, x19, x20, x21, x22, x23, x8, x24, x25, x26)).bind fun (z0, z1, z2, z3, z4, z5, z6, z7, z8, z9, z10, z11, z12, z13, z14, z15, z16, z17, z18, z19, z20, z21, z22, z23, z24, z25, z26) => spec_l11Places_12 k g (z0, z1, z2, z3, z4, z5, z6, z7, z8, z9, z10, z11, z12, z13, z14, z15, z16, z17, z18, z19, z20, z21, z22, (w64 (z23 + z11)), z24, z25, z26)) else some (x0, x1, x2, x3, x4, x5, x6, x7, x8, x9, x10, x11, x12, x13, x14, x15, x16, x17, x18, x19, x20, x21, x22, x24))
def spec_l11Places_7 (k : Nat) : Nat → Int × Int × LPt × LFc × LVn × LLf × Int × Int × Int × Int × Int × Int × Int × ByteArray × ByteArray × Int × ByteArray × Int × Int × Int × Int × LBx × Int × LPl → Option (Int × Int × LPt × LFc × LVn × LLf × Int × Int × Int × Int × Int × Int × Int × LPl)
 | 0, _ => none
 | g + 1, (x0, x1, x2, x3, x4, x5, x6, x7, x8, x9, x10, x11, x12, x13, x14, x15, x16, x17, x18, x19, x20, x21, x22, x23) => (bif (decide (x22 < 8)) then (bif (decide (0 ≤ x6)) then (bif (decide (x6 < (x4.length : Int))) then ((spec_l11Veneer k ((rd cV x4 x6).1, (rd cV x4 x6).2.1, (rd cV x4 x6).2.2, x13, x14, x15, x16, x17, x18, x19, x20, x21, x22, x7, x8, x9, x10)).bind fun y0 => (bif (y0 != 0) then spec_l11Places_7 k g (x0, x1, x2, x3, x4, x5, x6, x7, x8, x9, x10, x11, x12, x13, x14, x15, x16, x17, x18, x19, x20, x21, (w64 (x22 + 1)), x23) else ((spec_l05Polygon k (x0, x1, x2, x3, x6)).bind fun y1 => ((spec_l03Turned k (y1, x22)).bind fun y2 => ((spec_l03Bounds k y2).bind fun (y3, y4, y5, y6) => ((spec_l11Places_12 k k (x0, x1, x2, x3, x4, x5, x6, x7, x8, x9, x10, x11, x12, x13, x14, x15, x16, x17, x18, x19, x20, x21, x22, x8, x23, y5, y6)).bind fun (z7, z8, z9, z10, z11, z12, z13, z14, z15, z16, z17, z18, z19, z20, z21, z22, z23, z24, z25, z26, z27, z28, z29, z30) => spec_l11Places_7 k g (z7, z8, z9, z10, z11, z12, z13, z14, z15, z16, z17, z18, z19, z20, z21, z22, z23, z24, z25, z26, z27, z28, (w64 (z29 + 1)), z30))))))) else none) else none) else some (x0, x1, x2, x3, x4, x5, x6, x7, x8, x9, x10, x11, x12, x23))
def spec_l11Places_3 (k : Nat) : Nat → Int × Int × LPt × LFc × LVn × LLf × Int × Int × Int × Int × Int × Int × Int × LPl → Option (LPl)
 | 0, _ => none
 | g + 1, (x0, x1, x2, x3, x4, x5, x6, x7, x8, x9, x10, x11, x12, x13) => (bif (decide (x12 < (x5.length : Int))) then (bif (decide (0 ≤ x12)) then (bif (decide (x12 < (x5.length : Int))) then ((spec_l11Places_7 k k (x0, x1, x2, x3, x4, x5, x6, x7, x8, x9, x10, x11, x12, (rd cL x5 x12).1, (rd cL x5 x12).2.1, (rd cL x5 x12).2.2.1, (rd cL x5 x12).2.2.2.1, (rd cL x5 x12).2.2.2.2.1, (rd cL x5 x12).2.2.2.2.2.1, (rd cL x5 x12).2.2.2.2.2.2.1, (rd cL x5 x12).2.2.2.2.2.2.2.1, (rd cL x5 x12).2.2.2.2.2.2.2.2, 0, x13)).bind fun (z0, z1, z2, z3, z4, z5, z6, z7, z8, z9, z10, z11, z12, z13) => spec_l11Places_3 k g (z0, z1, z2, z3, z4, z5, z6, z7, z8, z9, z10, z11, (w64 (z12 + 1)), z13)) else none) else none) else some x13)
def spec_l11Places (k : Nat) : Int × Int × LPt × LFc × LVn × LLf × Int × Int × Int × Int × Int × Int → Option (LPl) := fun (a0, a1, a2, a3, a4, a5, a6, a7, a8, a9, a10, a11) => ((spec_l11Places_3 k k (a0, a1, a2, a3, a4, a5, a6, a7, a8, a9, a10, a11, 0, [])).bind fun z74 => some z74)
def spec_l03Inside_3 (k : Nat) : Nat → LPt × Int × Int × Int × Int → Option ((Int) ⊕ (Int))
 | 0, _ => none
 | g + 1, (x0, x1, x2, x3, x4) => (bif (decide (x2 < (x0.length : Int))) then (bif (decide (0 ≤ x2)) then (bif (decide (x2 < (x0.length : Int))) then (bif (decide ((x0.length : Int) = 0)) then none else (bif (decide (0 ≤ (Int.tmod (w64 (x2 + 1)) (x0.length : Int)))) then (bif (decide ((Int.tmod (w64 (x2 + 1)) (x0.length : Int)) < (x0.length : Int))) then ((spec_l02On k ((rd cP x0 x2).1, (rd cP x0 x2).2, (rd cP x0 (Int.tmod (w64 (x2 + 1)) (x0.length : Int))).1, (rd cP x0 (Int.tmod (w64 (x2 + 1)) (x0.length : Int))).2, x3, x4)).bind fun y0 => (bif y0 then some (.inr 0) else (((bif (decide ((rd cP x0 x2).2 ≤ x4)) then (bif (decide ((rd cP x0 (Int.tmod (w64 (x2 + 1)) (x0.length : Int))).2 > x4)) then ((spec_l02Side k ((rd cP x0 x2).1, (rd cP x0 x2).2, (rd cP x0 (Int.tmod (w64 (x2 + 1)) (x0.length : Int))).1, (rd cP x0 (Int.tmod (w64 (x2 + 1)) (x0.length : Int))).2, x3, x4)).bind fun y1 => (bif (decide (y1 > 0)) then some true else (bif (decide ((rd cP x0 (Int.tmod (w64 (x2 + 1)) (x0.length : Int))).2 ≤ x4)) then (bif (decide ((rd cP x0 x2).2 > x4)) then ((spec_l02Side k ((rd cP x0 x2).1, (rd cP x0 x2).2, (rd cP x0 (Int.tmod (w64 (x2 + 1)) (x0.length : Int))).1, (rd cP x0 (Int.tmod (w64 (x2 + 1)) (x0.length : Int))).2, x3, x4)).bind fun y2 => some (decide (y2 < 0))) else some false) else some false))) else (bif (decide ((rd cP x0 (Int.tmod (w64 (x2 + 1)) (x0.length : Int))).2 ≤ x4)) then (bif (decide ((rd cP x0 x2).2 > x4)) then ((spec_l02Side k ((rd cP x0 x2).1, (rd cP x0 x2).2, (rd cP x0 (Int.tmod (w64 (x2 + 1)) (x0.length : Int))).1, (rd cP x0 (Int.tmod (w64 (x2 + 1)) (x0.length : Int))).2, x3, x4)).bind fun y3 => some (decide (y3 < 0))) else some false) else some false)) else (bif (decide ((rd cP x0 (Int.tmod (w64 (x2 + 1)) (x0.length : Int))).2 ≤ x4)) then (bif (decide ((rd cP x0 x2).2 > x4)) then ((spec_l02Side k ((rd cP x0 x2).1, (rd cP x0 x2).2, (rd cP x0 (Int.tmod (w64 (x2 + 1)) (x0.length : Int))).1, (rd cP x0 (Int.tmod (w64 (x2 + 1)) (x0.length : Int))).2, x3, x4)).bind fun y4 => some (decide (y4 < 0))) else some false) else some false)) : Option (Bool)).bind fun b5 => (bif b5 then spec_l03Inside_3 k g (x0, (w64 (0 - x1)), (w64 (x2 + 1)), x3, x4) else spec_l03Inside_3 k g (x0, x1, (w64 (x2 + 1)), x3, x4))))) else none) else none)) else none) else none) else some (.inl x1))
def spec_l03Inside (k : Nat) : LPt × Int × Int → Option (Int) := fun (a0, a1, a2) => ((spec_l03Inside_3 k k (a0, (-1), 0, a1, a2)).bind fun r => match r with | .inl z6 => some z6 | .inr z7 => some z7)
def spec_l02Touches (k : Nat) : Int × Int × Int × Int × Int × Int × Int × Int → Option (Bool) := fun (a0, a1, a2, a3, a4, a5, a6, a7) => ((spec_l02Crosses k (a0, a1, a2, a3, a4, a5, a6, a7)).bind fun y0 => (bif y0 then some true else ((spec_l02On k (a0, a1, a2, a3, a4, a5)).bind fun y1 => (bif y1 then some true else ((spec_l02On k (a0, a1, a2, a3, a6, a7)).bind fun y2 => (bif y2 then some true else ((spec_l02On k (a4, a5, a6, a7, a0, a1)).bind fun y3 => (bif y3 then some true else ((spec_l02On k (a4, a5, a6, a7, a2, a3)).bind fun y4 => some y4)))))))))
def spec_l02Square (k : Nat) : Int × Int × Int × Int → Option (Int) := fun (a0, a1, a2, a3) => some (w64 ((w64 ((w64 (a0 - a2)) * (w64 (a0 - a2)))) + (w64 ((w64 (a1 - a3)) * (w64 (a1 - a3))))))
def spec_l01Root_3 (k : Nat) : Nat → Int × Int × Int → Option (Int)
 | 0, _ => none
 | g + 1, (x0, x1, x2) => (bif (decide (x1 < x2)) then (bif (decide ((w64 ((w64 (Int.tdiv (w64 ((w64 (x1 + x2)) + 1)) 2)) * (w64 (Int.tdiv (w64 ((w64 (x1 + x2)) + 1)) 2)))) ≤ x0)) then spec_l01Root_3 k g (x0, (w64 (Int.tdiv (w64 ((w64 (x1 + x2)) + 1)) 2)), x2) else spec_l01Root_3 k g (x0, x1, (w64 ((w64 (Int.tdiv (w64 ((w64 (x1 + x2)) + 1)) 2)) - 1)))) else some x1)
def spec_l01Root (k : Nat) : Int → Option (Int) := fun a0 => ((spec_l01Root_3 k k (a0, 0, 3037000499)).bind fun z0 => some z0)
def spec_l02Apart (k : Nat) : Int × Int × Int × Int → Option (Int) := fun (a0, a1, a2, a3) => ((spec_l02Square k (a0, a1, a2, a3)).bind fun y0 => ((spec_l01Root k y0).bind fun y1 => some y1))
def spec_l02Far (k : Nat) : Int × Int × Int × Int × Int × Int → Option (Int) := fun (a0, a1, a2, a3, a4, a5) => ((spec_l02Square k (a0, a1, a2, a3)).bind fun y0 => (bif (decide ((w64 ((w64 ((w64 (a2 - a0)) * (w64 (a4 - a0)))) + (w64 ((w64 (a3 - a1)) * (w64 (a5 - a1)))))) ≤ 0)) then ((spec_l02Apart k (a0, a1, a4, a5)).bind fun y1 => some y1) else (bif (decide ((w64 ((w64 ((w64 (a2 - a0)) * (w64 (a4 - a0)))) + (w64 ((w64 (a3 - a1)) * (w64 (a5 - a1)))))) ≥ y0)) then ((spec_l02Apart k (a2, a3, a4, a5)).bind fun y2 => some y2) else ((spec_l02Cross k (a0, a1, a2, a3, a4, a5)).bind fun y3 => (bif (decide (y0 = 0)) then none else ((spec_l01Root k (w64 (Int.tdiv (w64 (y3 * y3)) y0))).bind fun y4 => some y4))))))
def spec_l02Gap (k : Nat) : Int × Int × Int × Int × Int × Int × Int × Int → Option (Int) := fun (a0, a1, a2, a3, a4, a5, a6, a7) => ((spec_l02Touches k (a0, a1, a2, a3, a4, a5, a6, a7)).bind fun y0 => (bif y0 then some 0 else ((spec_l02Far k (a0, a1, a2, a3, a4, a5)).bind fun y1 => ((spec_l02Far k (a0, a1, a2, a3, a6, a7)).bind fun y2 => ((spec_l00Min k (y1, y2)).bind fun y3 => ((spec_l02Far k (a4, a5, a6, a7, a0, a1)).bind fun y4 => ((spec_l02Far k (a4, a5, a6, a7, a2, a3)).bind fun y5 => ((spec_l00Min k (y4, y5)).bind fun y6 => ((spec_l00Min k (y3, y6)).bind fun y7 => some y7)))))))))
def spec_l04Distance_8 (k : Nat) : Nat → LPt × LPt × Int × Int × Int → Option (LPt × LPt × Int × Int)
 | 0, _ => none
 | g + 1, (x0, x1, x2, x3, x4) => (bif (decide (x4 < (x1.length : Int))) then (bif (decide (0 ≤ x3)) then (bif (decide (x3 < (x0.length : Int))) then (bif (decide ((x0.length : Int) = 0)) then none else (bif (decide (0 ≤ (Int.tmod (w64 (x3 + 1)) (x0.length : Int)))) then (bif (decide ((Int.tmod (w64 (x3 + 1)) (x0.length : Int)) < (x0.length : Int))) then (bif (decide (0 ≤ x4)) then (bif (decide (x4 < (x1.length : Int))) then (bif (decide ((x1.length : Int) = 0)) then none else (bif (decide (0 ≤ (Int.tmod (w64 (x4 + 1)) (x1.length : Int)))) then (bif (decide ((Int.tmod (w64 (x4 + 1)) (x1.length : Int)) < (x1.length : Int))) then ((spec_l02Gap k ((rd cP x0 x3).1, (rd cP x0 x3).2, (rd cP x0 (Int.tmod (w64 (x3 + 1)) (x0.length : Int))).1, (rd cP x0 (Int.tmod (w64 (x3 + 1)) (x0.length : Int))).2, (rd cP x1 x4).1, (rd cP x1 x4).2, (rd cP x1 (Int.tmod (w64 (x4 + 1)) (x1.length : Int))).1, (rd cP x1 (Int.tmod (w64 (x4 + 1)) (x1.length : Int))).2)).bind fun y0 => (((bif (decide (x2 < 0)) then some true else some (decide (y0 < x2))) : Option (Bool)).bind fun b1 => (bif b1 then spec_l04Distance_8 k g (x0, x1, y0, x3, (w64 (x4 + 1))) else spec_l04Distance_8 k g (x0, x1, x2, x3, (w64 (x4 + 1)))))) else none) else none)) else none) else none) else none) else none)) else none) else none) else some (x0, x1, x2, x3))
def spec_l04Distance_5 (k : Nat) : Nat → LPt × LPt × Int × Int → Option (Int)
 | 0, _ => none
 | g + 1, (x0, x1, x2, x3) => (bif (decide (x3 < (x0.length : Int))) then ((spec_l04Distance_8 k k (x0, x1, x2, x3, 0)).bind fun (z0, z1, z2, z3) => spec_l04Distance_5 k g (z0, z1, z2, (w64 (z3 + 1)))) else some x2)
def spec_l04Distance (k : Nat) : LPt × LPt → Option (Int) := fun (a0, a1) => (((bif (decide (0 < (a1.length : Int))) then ((spec_l03Inside k (a0, (rd cP a1 0).1, (rd cP a1 0).2)).bind fun y0 => (bif (decide (y0 ≥ 0)) then some true else (bif (decide (0 < (a0.length : Int))) then ((spec_l03Inside k (a1, (rd cP a0 0).1, (rd cP a0 0).2)).bind fun y1 => some (decide (y1 ≥ 0))) else none))) else none) : Option (Bool)).bind fun b2 => (bif b2 then some 0 else ((spec_l04Distance_5 k k (a0, a1, (-1), 0)).bind fun z9 => some z9)))
def spec_l11Near (k : Nat) : LPt × LPt × Int → Option (Bool) := fun (a0, a1, a2) => ((spec_l03Bounds k a0).bind fun (y0, y1, y2, y3) => ((spec_l03Bounds k a1).bind fun (y4, y5, y6, y7) => ((((spec_l00Max k (1, a2)).bind fun y8 => (bif (decide ((w64 (y4 - y2)) ≥ y8)) then some true else ((spec_l00Max k (1, a2)).bind fun y9 => (bif (decide ((w64 (y0 - y6)) ≥ y9)) then some true else ((spec_l00Max k (1, a2)).bind fun y10 => (bif (decide ((w64 (y5 - y3)) ≥ y10)) then some true else ((spec_l00Max k (1, a2)).bind fun y11 => some (decide ((w64 (y1 - y7)) ≥ y11))))))))) : Option (Bool)).bind fun b12 => (bif b12 then some false else ((spec_l04Disjoint k (a0, a1)).bind fun y13 => (bif (!y13) then some true else ((spec_l04Distance k (a0, a1)).bind fun y14 => some (decide (y14 < a2)))))))))
def spec_l11Free_3 (k : Nat) : Nat → Int × Int × LPt × LFc × LVn × LPl × Int × Int × Int × Int × Int × Int × Int × Int × Int × Int × LPt → Option ((Unit) ⊕ (Bool))
 | 0, _ => none
 | g + 1, (x0, x1, x2, x3, x4, x5, x6, x7, x8, x9, x10, x11, x12, x13, x14, x15, x16) => (bif (decide (x15 < (x5.length : Int))) then (((bif (decide (0 ≤ x15)) then (bif (decide (x15 < (x5.length : Int))) then (bif ((rd cQ x5 x15).2.1 == x7) then (bif (decide (0 ≤ x15)) then (bif (decide (x15 < (x5.length : Int))) then ((spec_l11Polygon k (x0, x1, x2, x3, x4, (rd cQ x5 x15).1, (rd cQ x5 x15).2.1, (rd cQ x5 x15).2.2.1, (rd cQ x5 x15).2.2.2.1, (rd cQ x5 x15).2.2.2.2)).bind fun y0 => ((spec_l11Near k (y0, x16, x11)).bind fun y1 => some y1)) else none) else none) else some false) else none) else none) : Option (Bool)).bind fun b2 => (bif b2 then some (.inr false) else spec_l11Free_3 k g (x0, x1, x2, x3, x4, x5, x6, x7, x8, x9, x10, x11, x12, x13, x14, (w64 (x15 + 1)), x16))) else some (.inl ()))
def spec_l11Free (k : Nat) : Int × Int × LPt × LFc × LVn × LPl × Int × Int × Int × Int × Int × Int × Int × Int × Int → Option (Bool) := fun (a0, a1, a2, a3, a4, a5, a6, a7, a8, a9, a10, a11, a12, a13, a14) => ((spec_l11Polygon k (a0, a1, a2, a3, a4, a6, a7, a8, a9, a10)).bind fun y0 => ((spec_l11Free_3 k k (a0, a1, a2, a3, a4, a5, a6, a7, a8, a9, a10, a11, a12, a13, a14, 0, y0)).bind fun r => match r with | .inl _ => some true | .inr z4 => some z4))
def spec_GreedyNesting_13 (k : Nat) : Nat → LLf × Int × Int × Bool × Int × Int × Int × LPt × LFc × LVn × Int × Int × Int × Int × LPl × LPl → Option (LLf × Int × Int × Bool × Int × Int × LPt × LFc × LVn × Int × Int × Int × Int × LPl)
 | 0, _ => none
 | g + 1, (x0, x1, x2, x3, x4, x5, x6, x7, x8, x9, x10, x11, x12, x13, x14, x15) => (((bif (decide (x4 < (x15.length : Int))) then some (!x3) else some false) : Option (Bool)).bind fun b0 => (bif b0 then (bif (decide (0 ≤ x4)) then (bif (decide (x4 < (x15.length : Int))) then ((spec_l11Free k (x5, x6, x7, x8, x9, x14, (List.getD x15 (Int.toNat x4) (dflt cQ)).1, (List.getD x15 (Int.toNat x4) (dflt cQ)).2.1, (List.getD x15 (Int.toNat x4) (dflt cQ)).2.2.1, (List.getD x15 (Int.toNat x4) (dflt cQ)).2.2.2.1, (List.getD x15 (Int.toNat x4) (dflt cQ)).2.2.2.2, x10, x11, x12, x13)).bind fun y1 => (bif y1 then (bif (decide (0 ≤ x4)) then (bif (decide (x4 < (x15.length : Int))) then (bif (decide (((x14.length + (((List.getD x15 (Int.toNat x4) (dflt cQ)).1, ((List.getD x15 (Int.toNat x4) (dflt cQ)).2.1, ((List.getD x15 (Int.toNat x4) (dflt cQ)).2.2.1, ((List.getD x15 (Int.toNat x4) (dflt cQ)).2.2.2.1, (List.getD x15 (Int.toNat x4) (dflt cQ)).2.2.2.2)))) :: []).length) * 40) ≤ 140737488355328)) then spec_GreedyNesting_13 k g (x0, x1, x2, true, (w64 (x4 + 1)), x5, x6, x7, x8, x9, x10, x11, x12, x13, (x14 ++ (((List.getD x15 (Int.toNat x4) (dflt cQ)).1, ((List.getD x15 (Int.toNat x4) (dflt cQ)).2.1, ((List.getD x15 (Int.toNat x4) (dflt cQ)).2.2.1, ((List.getD x15 (Int.toNat x4) (dflt cQ)).2.2.2.1, (List.getD x15 (Int.toNat x4) (dflt cQ)).2.2.2.2)))) :: [])), x15) else none) else none) else none) else spec_GreedyNesting_13 k g (x0, x1, x2, x3, (w64 (x4 + 1)), x5, x6, x7, x8, x9, x10, x11, x12, x13, x14, x15))) else none) else none) else some (x0, x1, x2, x3, x5, x6, x7, x8, x9, x10, x11, x12, x13, x14)))
def spec_GreedyNesting_8 (k : Nat) : Nat → LLf × Int × Int × Int × Int × LPt × LFc × LVn × Int × Int × Int × Int × LPl → Option ((LPl) ⊕ (Int × LPl))
 | 0, _ => none
 | g + 1, (x0, x1, x2, x3, x4, x5, x6, x7, x8, x9, x10, x11, x12) => (bif (decide (x2 < (x6.length : Int))) then ((spec_l11Places k (x3, x4, x5, x6, x7, x0, x2, x8, x9, x10, x11, x1)).bind fun y0 => ((spec_GreedyNesting_13 k k (x0, x1, x2, false, 0, x3, x4, x5, x6, x7, x8, x9, x10, x11, x12, y0)).bind fun (z1, z2, z3, z4, z5, z6, z7, z8, z9, z10, z11, z12, z13, z14) => (bif (!z4) then some (.inr (3, [])) else spec_GreedyNesting_8 k g (z1, z2, (w64 (z3 + 1)), z5, z6, z7, z8, z9, z10, z11, z12, z13, z14)))) else some (.inl x12))
def spec_GreedyNesting (k : Nat) : Int × Int × LPt × LFc × LVn × LLf × Int × Int × Int × Int × Int → Option (LPl × Int) := fun (a0, a1, a2, a3, a4, a5, a6, a7, a8, a9, a10) => ((spec_l11Ask k (a0, a1, a2, a3, a4, a5, a6, a7, a8, a9)).bind fun y0 => (bif (y0 == 0) then ((spec_l11Step k (a5, a10)).bind fun y1 => (bif (y1 != 0) then some ([], y1) else ((spec_GreedyNesting_8 k k (a5, a10, 0, a0, a1, a2, a3, a4, a6, a7, a8, a9, [])).bind fun r => match r with | .inl z19 => some (z19, 0) | .inr (z20, z21) => some (z21, z20)))) else (bif (y0 != 0) then some ([], y0) else ((spec_GreedyNesting_8 k k (a5, a10, 0, a0, a1, a2, a3, a4, a6, a7, a8, a9, [])).bind fun r => match r with | .inl z22 => some (z22, 0) | .inr (z23, z24) => some (z24, z23)))))
def laws_toPoint (k : Nat) : Int × Int → Option (Int × Int) := fun (a0, a1) => some (a0, a1)
def laws_toPointS_3 (k : Nat) : Nat → LPt × Int × LPt → Option (LPt)
 | 0, _ => none
 | g + 1, (x0, x1, x2) => (bif (decide (x1 < (x0.length : Int))) then (bif (decide (0 ≤ x1)) then (bif (decide (x1 < (x0.length : Int))) then ((laws_toPoint k ((rd cP x0 x1).1, (rd cP x0 x1).2)).bind fun (y0, y1) => (bif (decide (0 ≤ x1)) then (bif (decide (x1 < (x2.length : Int))) then laws_toPointS_3 k g (x0, (w64 (x1 + 1)), (List.set x2 (Int.toNat x1) (y0, y1))) else none) else none)) else none) else none) else some x2)
def laws_toPointS (k : Nat) : LPt → Option (LPt) := fun a0 => (bif (decide ((a0.length : Int) ≤ (a0.length : Int))) then (bif (decide ((16 * (Int.toNat (a0.length : Int))) ≤ 140737488355328)) then (bif (decide ((Int.toNat (a0.length : Int)) < 4398046511104)) then ((laws_toPointS_3 k k (a0, 0, (List.replicate (Int.toNat (a0.length : Int)) (dflt cP)))).bind fun z2 => some z2) else none) else none) else none)
def laws_toInt64S_3 (k : Nat) : Nat → List (Int) × Int × List (Int) → Option (List (Int))
 | 0, _ => none
 | g + 1, (x0, x1, x2) => (bif (decide (x1 < (x0.length : Int))) then (bif (decide (0 ≤ x1)) then (bif (decide (x1 < (x0.length : Int))) then (bif (decide (0 ≤ x1)) then (bif (decide (x1 < (x2.length : Int))) then laws_toInt64S_3 k g (x0, (w64 (x1 + 1)), (List.set x2 (Int.toNat x1) (rd (.int .i64) x0 x1))) else none) else none) else none) else none) else some x2)
def laws_toInt64S (k : Nat) : List (Int) → Option (List (Int)) := fun a0 => (bif (decide ((a0.length : Int) ≤ (a0.length : Int))) then (bif (decide ((8 * (Int.toNat (a0.length : Int))) ≤ 140737488355328)) then (bif (decide ((Int.toNat (a0.length : Int)) < 4398046511104)) then ((laws_toInt64S_3 k k (a0, 0, (List.replicate (Int.toNat (a0.length : Int)) (dflt (.int .i64))))).bind fun z0 => some z0) else none) else none) else none)
def laws_toFace (k : Nat) : ByteArray × List (Int) → Option (ByteArray × List (Int)) := fun (a0, a1) => ((laws_toInt64S k a1).bind fun y0 => some (a0, y0))
def laws_toFaceS_3 (k : Nat) : Nat → LFc × Int × LFc → Option (LFc)
 | 0, _ => none
 | g + 1, (x0, x1, x2) => (bif (decide (x1 < (x0.length : Int))) then (bif (decide (0 ≤ x1)) then (bif (decide (x1 < (x0.length : Int))) then ((laws_toFace k ((rd cF x0 x1).1, (rd cF x0 x1).2)).bind fun (y0, y1) => (bif (decide (0 ≤ x1)) then (bif (decide (x1 < (x2.length : Int))) then laws_toFaceS_3 k g (x0, (w64 (x1 + 1)), (List.set x2 (Int.toNat x1) (y0, y1))) else none) else none)) else none) else none) else some x2)
def laws_toFaceS (k : Nat) : LFc → Option (LFc) := fun a0 => (bif (decide ((a0.length : Int) ≤ (a0.length : Int))) then (bif (decide ((40 * (Int.toNat (a0.length : Int))) ≤ 140737488355328)) then (bif (decide ((Int.toNat (a0.length : Int)) < 4398046511104)) then ((laws_toFaceS_3 k k (a0, 0, (List.replicate (Int.toNat (a0.length : Int)) (dflt cF)))).bind fun z2 => some z2) else none) else none) else none)
def laws_toDrawing (k : Nat) : Int × Int × LPt × LFc → Option (Int × Int × LPt × LFc) := fun (a0, a1, a2, a3) => ((laws_toPointS k a2).bind fun y0 => ((laws_toFaceS k a3).bind fun y1 => some (a0, (a1, (y0, y1)))))
def laws_toVeneer (k : Nat) : ByteArray × Int × Int → Option (ByteArray × Int × Int) := fun (a0, a1, a2) => some (a0, (a1, a2))
def laws_toVeneerS_3 (k : Nat) : Nat → LVn × Int × LVn → Option (LVn)
 | 0, _ => none
 | g + 1, (x0, x1, x2) => (bif (decide (x1 < (x0.length : Int))) then (bif (decide (0 ≤ x1)) then (bif (decide (x1 < (x0.length : Int))) then ((laws_toVeneer k ((rd cV x0 x1).1, (rd cV x0 x1).2.1, (rd cV x0 x1).2.2)).bind fun (y0, y1, y2) => (bif (decide (0 ≤ x1)) then (bif (decide (x1 < (x2.length : Int))) then laws_toVeneerS_3 k g (x0, (w64 (x1 + 1)), (List.set x2 (Int.toNat x1) (y0, (y1, y2)))) else none) else none)) else none) else none) else some x2)
def laws_toVeneerS (k : Nat) : LVn → Option (LVn) := fun a0 => (bif (decide ((a0.length : Int) ≤ (a0.length : Int))) then (bif (decide ((32 * (Int.toNat (a0.length : Int))) ≤ 140737488355328)) then (bif (decide ((Int.toNat (a0.length : Int)) < 4398046511104)) then ((laws_toVeneerS_3 k k (a0, 0, (List.replicate (Int.toNat (a0.length : Int)) (dflt cV)))).bind fun z3 => some z3) else none) else none) else none)
def laws_toPicture (k : Nat) : Int × Int × LPt × LFc × LVn → Option (Int × Int × LPt × LFc × LVn) := fun (a0, a1, a2, a3, a4) => ((laws_toDrawing k (a0, a1, a2, a3)).bind fun (y0, y1, y2, y3) => ((laws_toVeneerS k a4).bind fun y4 => some (y0, (y1, (y2, (y3, y4))))))
def laws_toBox (k : Nat) : Int × Int × Int × Int → Option (Int × Int × Int × Int) := fun (a0, a1, a2, a3) => some (a0, (a1, (a2, a3)))
def laws_toBoxS_3 (k : Nat) : Nat → LBx × Int × LBx → Option (LBx)
 | 0, _ => none
 | g + 1, (x0, x1, x2) => (bif (decide (x1 < (x0.length : Int))) then (bif (decide (0 ≤ x1)) then (bif (decide (x1 < (x0.length : Int))) then ((laws_toBox k ((rd cB x0 x1).1, (rd cB x0 x1).2.1, (rd cB x0 x1).2.2.1, (rd cB x0 x1).2.2.2)).bind fun (y0, y1, y2, y3) => (bif (decide (0 ≤ x1)) then (bif (decide (x1 < (x2.length : Int))) then laws_toBoxS_3 k g (x0, (w64 (x1 + 1)), (List.modify x2 (Int.toNat x1) (fun z => (y0, (y1, (y2, y3)))))) else none) else none)) else none) else none) else some x2)
def laws_toBoxS (k : Nat) : LBx → Option (LBx) := fun a0 => (bif (decide ((a0.length : Int) ≤ (a0.length : Int))) then (bif (decide ((32 * (Int.toNat (a0.length : Int))) ≤ 140737488355328)) then (bif (decide ((Int.toNat (a0.length : Int)) < 4398046511104)) then ((laws_toBoxS_3 k k (a0, 0, (List.replicate (Int.toNat (a0.length : Int)) (dflt cB)))).bind fun z4 => some z4) else none) else none) else none)
def laws_toLeaf (k : Nat) : ByteArray × ByteArray × Int × ByteArray × Int × Int × Int × Int × LBx → Option (ByteArray × ByteArray × Int × ByteArray × Int × Int × Int × Int × LBx) := fun (a0, a1, a2, a3, a4, a5, a6, a7, a8) => ((laws_toVeneer k (a3, a4, a5)).bind fun (y0, y1, y2) => ((laws_toBoxS k a8).bind fun y3 => some (a0, (a1, (a2, (y0, (y1, (y2, (a6, (a7, y3))))))))))
def laws_toLeafS_3 (k : Nat) : Nat → LLf × Int × LLf → Option (LLf)
 | 0, _ => none
 | g + 1, (x0, x1, x2) => (bif (decide (x1 < (x0.length : Int))) then (bif (decide (0 ≤ x1)) then (bif (decide (x1 < (x0.length : Int))) then ((laws_toLeaf k ((rd cL x0 x1).1, (rd cL x0 x1).2.1, (rd cL x0 x1).2.2.1, (rd cL x0 x1).2.2.2.1, (rd cL x0 x1).2.2.2.2.1, (rd cL x0 x1).2.2.2.2.2.1, (rd cL x0 x1).2.2.2.2.2.2.1, (rd cL x0 x1).2.2.2.2.2.2.2.1, (rd cL x0 x1).2.2.2.2.2.2.2.2)).bind fun (y0, y1, y2, y3, y4, y5, y6, y7, y8) => (bif (decide (0 ≤ x1)) then (bif (decide (x1 < (x2.length : Int))) then laws_toLeafS_3 k g (x0, (w64 (x1 + 1)), (List.set x2 (Int.toNat x1) (y0, (y1, (y2, (y3, (y4, (y5, (y6, (y7, y8)))))))))) else none) else none)) else none) else none) else some x2)
def laws_toLeafS (k : Nat) : LLf → Option (LLf) := fun a0 => (bif (decide ((a0.length : Int) ≤ (a0.length : Int))) then (bif (decide ((112 * (Int.toNat (a0.length : Int))) ≤ 140737488355328)) then (bif (decide ((Int.toNat (a0.length : Int)) < 4398046511104)) then ((laws_toLeafS_3 k k (a0, 0, (List.replicate (Int.toNat (a0.length : Int)) (dflt cL)))).bind fun z9 => some z9) else none) else none) else none)
def laws_toRules (k : Nat) : Int × Int × Int × Int → Option (Int × Int × Int × Int) := fun (a0, a1, a2, a3) => some (a0, (a1, (a2, a3)))
def impl_within (k : Nat) : Int × Int × Int → Option (Bool) := fun (a0, a1, a2) => (bif (decide (a0 ≥ a1)) then some (decide (a0 ≤ a2)) else some false)
def impl_ringPolygon_3 (k : Nat) : Nat → LPt × List (Int) × Int × Int × LPt → Option ((LPt) ⊕ (Bool × LPt))
 | 0, _ => none
 | g + 1, (x0, x1, x2, x3, x4) => (bif (decide (x3 < x2)) then (bif (decide (0 ≤ x3)) then (bif (decide (x3 < (x1.length : Int))) then ((impl_within k ((rd (.int .i64) x1 x3), 0, (w64 ((x0.length : Int) - 1)))).bind fun y0 => (bif (!y0) then some (.inr (false, [])) else (bif (decide (0 ≤ (rd (.int .i64) x1 x3))) then (bif (decide ((rd (.int .i64) x1 x3) < (x0.length : Int))) then (bif (decide (((x4.length + (((rd cP x0 (rd (.int .i64) x1 x3)).1, (rd cP x0 (rd (.int .i64) x1 x3)).2) :: []).length) * 16) ≤ 140737488355328)) then impl_ringPolygon_3 k g (x0, x1, x2, (w64 (x3 + 1)), (x4 ++ (((rd cP x0 (rd (.int .i64) x1 x3)).1, (rd cP x0 (rd (.int .i64) x1 x3)).2) :: []))) else none) else none) else none))) else none) else none) else some (.inl x4))
def impl_ringPolygon (k : Nat) : LPt × List (Int) → Option (LPt × Bool) := fun (a0, a1) => ((impl_ringPolygon_3 k k (a0, a1, (a1.length : Int), 0, [])).bind fun r => match r with | .inl z1 => some (z1, true) | .inr (z2, z3) => some (z3, z2))
def slices_Index_2 (k : Nat) : Nat → LPt × Int × Int × Int × Int → Option ((Unit) ⊕ (Int))
 | 0, _ => none
 | g + 1, (x0, x1, x2, x3, x4) => (bif (decide (x2 < x1)) then (bif (decide (0 ≤ x2)) then (bif (decide (x2 < (x0.length : Int))) then (bif ((x3 == (rd cP x0 x2).1) && ((x4 == (rd cP x0 x2).2) && true)) then some (.inr x2) else slices_Index_2 k g (x0, x1, (w64 (x2 + 1)), x3, x4)) else none) else none) else some (.inl ()))
def slices_Index (k : Nat) : LPt × Int × Int → Option (Int) := fun (a0, a1, a2) => ((slices_Index_2 k k (a0, (a0.length : Int), 0, a1, a2)).bind fun r => match r with | .inl _ => some (-1) | .inr z0 => some z0)
def slices_Contains (k : Nat) : LPt × Int × Int → Option (Bool) := fun (a0, a1, a2) => ((slices_Index k (a0, a1, a2)).bind fun y0 => some (decide (y0 ≥ 0)))
def impl_IsName_4 (k : Nat) : Nat → ByteArray × Int → Option ((Unit) ⊕ (Bool))
 | 0, _ => none
 | g + 1, (x0, x1) => (bif (decide (x1 < (x0.size : Int))) then (((bif (decide (0 ≤ x1)) then (bif (decide (x1 < (x0.size : Int))) then (bif (decide ((bt x0 x1) < 97)) then (bif (decide (0 ≤ x1)) then (bif (decide (x1 < (x0.size : Int))) then (bif (decide ((bt x0 x1) < 48)) then some true else (bif (decide (0 ≤ x1)) then (bif (decide (x1 < (x0.size : Int))) then some (decide ((bt x0 x1) > 57)) else none) else none)) else none) else none) else (bif (decide (0 ≤ x1)) then (bif (decide (x1 < (x0.size : Int))) then (bif (decide ((bt x0 x1) > 122)) then (bif (decide (0 ≤ x1)) then (bif (decide (x1 < (x0.size : Int))) then (bif (decide ((bt x0 x1) < 48)) then some true else (bif (decide (0 ≤ x1)) then (bif (decide (x1 < (x0.size : Int))) then some (decide ((bt x0 x1) > 57)) else none) else none)) else none) else none) else some false) else none) else none)) else none) else none) : Option (Bool)).bind fun b0 => (bif b0 then some (.inr false) else impl_IsName_4 k g (x0, (w64 (x1 + 1))))) else some (.inl ()))
def impl_IsName (k : Nat) : ByteArray → Option (Bool) := fun a0 => (((bif (decide ((a0.size : Int) < 1)) then some true else (bif (decide ((a0.size : Int) > 10)) then some true else (bif (decide (0 < (a0.size : Int))) then (bif (decide ((bt a0 0) < 97)) then some true else (bif (decide (0 < (a0.size : Int))) then some (decide ((bt a0 0) > 122)) else none)) else none))) : Option (Bool)).bind fun b0 => (bif b0 then some false else ((impl_IsName_4 k k (a0, 0)).bind fun r => match r with | .inl _ => some true | .inr z2 => some z2)))
def impl_ValidPoint (k : Nat) : Int × Int → Option (Bool) := fun (a0, a1) => ((impl_within k (a0, 0, 20000)).bind fun y0 => (bif y0 then ((impl_within k (a1, 0, 20000)).bind fun y1 => some y1) else some false))
def impl_validPoints_2 (k : Nat) : Nat → LPt × Int × Int → Option ((Unit) ⊕ (Bool))
 | 0, _ => none
 | g + 1, (x0, x1, x2) => (bif (decide (x2 < x1)) then (bif (decide (0 ≤ x2)) then (bif (decide (x2 < (x0.length : Int))) then ((impl_ValidPoint k ((rd cP x0 x2).1, (rd cP x0 x2).2)).bind fun y0 => (bif (!y0) then some (.inr false) else impl_validPoints_2 k g (x0, x1, (w64 (x2 + 1))))) else none) else none) else some (.inl ()))
def impl_validPoints (k : Nat) : LPt → Option (Bool) := fun a0 => ((impl_validPoints_2 k k (a0, (a0.length : Int), 0)).bind fun r => match r with | .inl _ => some true | .inr z1 => some z1)
def impl_side (k : Nat) : Int × Int × Int × Int × Int × Int → Option (Int) := fun (a0, a1, a2, a3, a4, a5) => (bif (decide ((w64 ((w64 ((w64 (a2 - a0)) * (w64 (a5 - a1)))) - (w64 ((w64 (a3 - a1)) * (w64 (a4 - a0)))))) > 0)) then some 1 else (bif (decide ((w64 ((w64 ((w64 (a2 - a0)) * (w64 (a5 - a1)))) - (w64 ((w64 (a3 - a1)) * (w64 (a4 - a0)))))) < 0)) then some (-1) else some 0))
def impl_on (k : Nat) : Int × Int × Int × Int × Int × Int → Option (Bool) := fun (a0, a1, a2, a3, a4, a5) => ((impl_side k (a0, a1, a2, a3, a4, a5)).bind fun y0 => (bif (y0 == 0) then ((impl_within k (a4, (if (a2 < a0) then a2 else a0), (if (a2 > a0) then a2 else a0))).bind fun y1 => (bif y1 then ((impl_within k (a5, (if (a3 < a1) then a3 else a1), (if (a3 > a1) then a3 else a1))).bind fun y2 => some y2) else some false)) else some false))
def impl_crossing (k : Nat) : Int × Int × Int × Int × Int × Int × Int × Int → Option (Bool) := fun (a0, a1, a2, a3, a4, a5, a6, a7) => ((impl_side k (a0, a1, a2, a3, a4, a5)).bind fun y0 => ((impl_side k (a0, a1, a2, a3, a6, a7)).bind fun y1 => (bif (decide ((w64 (y0 * y1)) < 0)) then ((impl_side k (a4, a5, a6, a7, a0, a1)).bind fun y2 => ((impl_side k (a4, a5, a6, a7, a2, a3)).bind fun y3 => some (decide ((w64 (y2 * y3)) < 0)))) else some false)))
def impl_touching (k : Nat) : Int × Int × Int × Int × Int × Int × Int × Int → Option (Bool) := fun (a0, a1, a2, a3, a4, a5, a6, a7) => ((impl_crossing k (a0, a1, a2, a3, a4, a5, a6, a7)).bind fun y0 => (bif y0 then some true else ((impl_on k (a0, a1, a2, a3, a4, a5)).bind fun y1 => (bif y1 then some true else ((impl_on k (a0, a1, a2, a3, a6, a7)).bind fun y2 => (bif y2 then some true else ((impl_on k (a4, a5, a6, a7, a0, a1)).bind fun y3 => (bif y3 then some true else ((impl_on k (a4, a5, a6, a7, a2, a3)).bind fun y4 => some y4)))))))))
def impl_doubled_3 (k : Nat) : Nat → LPt × Int × LPt × Int × Int → Option (Int)
 | 0, _ => none
 | g + 1, (x0, x1, x2, x3, x4) => (bif (decide (x4 < x3)) then (bif (decide (0 ≤ x4)) then (bif (decide (x4 < (x2.length : Int))) then (bif (decide ((x0.length : Int) = 0)) then none else (bif (decide (0 ≤ (Int.tmod (w64 (x4 + 1)) (x0.length : Int)))) then (bif (decide ((Int.tmod (w64 (x4 + 1)) (x0.length : Int)) < (x0.length : Int))) then impl_doubled_3 k g (x0, (w64 (x1 + (w64 ((w64 ((rd cP x2 x4).1 * (rd cP x0 (Int.tmod (w64 (x4 + 1)) (x0.length : Int))).2)) - (w64 ((rd cP x2 x4).2 * (rd cP x0 (Int.tmod (w64 (x4 + 1)) (x0.length : Int))).1)))))), x2, x3, (w64 (x4 + 1))) else none) else none)) else none) else none) else some x1)
def impl_doubled (k : Nat) : LPt → Option (Int) := fun a0 => ((impl_doubled_3 k k (a0, 0, a0, (a0.length : Int), 0)).bind fun z0 => some z0)
def impl_ValidPolygon_11 (k : Nat) : Nat → LPt × Int × Int × Int × Int × Int × Int × Int × Int × Int → Option ((LPt × Int × Int × Int) ⊕ (Bool))
 | 0, _ => none
 | g + 1, (x0, x1, x2, x3, x4, x5, x6, x7, x8, x9) => (bif (decide (x3 < x1)) then (((bif (decide (x1 = 0)) then none else (bif ((Int.tmod (w64 (x3 + 1)) x1) != x2) then (bif (decide (0 ≤ x3)) then (bif (decide (x3 < (x0.length : Int))) then (bif (decide (x1 = 0)) then none else (bif (decide (0 ≤ (Int.tmod (w64 (x3 + 1)) x1))) then (bif (decide ((Int.tmod (w64 (x3 + 1)) x1) < (x0.length : Int))) then ((impl_touching k (x6, x7, x8, x9, (rd cP x0 x3).1, (rd cP x0 x3).2, (rd cP x0 (Int.tmod (w64 (x3 + 1)) x1)).1, (rd cP x0 (Int.tmod (w64 (x3 + 1)) x1)).2)).bind fun y0 => some y0) else none) else none)) else none) else none) else some false)) : Option (Bool)).bind fun b1 => (bif b1 then some (.inr false) else impl_ValidPolygon_11 k g (x0, x1, x2, (w64 (x3 + 1)), x4, x5, x6, x7, x8, x9))) else some (.inl (x0, x1, x4, x5)))
def impl_ValidPolygon_5 (k : Nat) : Nat → LPt × Int × Int × Int → Option ((LPt) ⊕ (Bool))
 | 0, _ => none
 | g + 1, (x0, x1, x2, x3) => (bif (decide (x3 < x2)) then (bif (decide (0 ≤ x3)) then (bif (decide (x3 < (x0.length : Int))) then (bif (decide (x1 = 0)) then none else (bif (decide (0 ≤ (Int.tmod (w64 (x3 + 1)) x1))) then (bif (decide ((Int.tmod (w64 (x3 + 1)) x1) < (x0.length : Int))) then (bif (decide (x1 = 0)) then none else (bif (decide (0 ≤ (Int.tmod (w64 (x3 + 2)) x1))) then (bif (decide ((Int.tmod (w64 (x3 + 2)) x1) < (x0.length : Int))) then (((bif (((rd cP x0 x3).1 == (rd cP x0 (Int.tmod (w64 (x3 + 1)) x1)).1) && (((rd cP x0 x3).2 == (rd cP x0 (Int.tmod (w64 (x3 + 1)) x1)).2) && true)) then some true else ((impl_on k ((rd cP x0 x3).1, (rd cP x0 x3).2, (rd cP x0 (Int.tmod (w64 (x3 + 1)) x1)).1, (rd cP x0 (Int.tmod (w64 (x3 + 1)) x1)).2, (rd cP x0 (Int.tmod (w64 (x3 + 2)) x1)).1, (rd cP x0 (Int.tmod (w64 (x3 + 2)) x1)).2)).bind fun y0 => (bif y0 then some true else ((impl_on k ((rd cP x0 (Int.tmod (w64 (x3 + 1)) x1)).1, (rd cP x0 (Int.tmod (w64 (x3 + 1)) x1)).2, (rd cP x0 (Int.tmod (w64 (x3 + 2)) x1)).1, (rd cP x0 (Int.tmod (w64 (x3 + 2)) x1)).2, (rd cP x0 x3).1, (rd cP x0 x3).2)).bind fun y1 => some y1)))) : Option (Bool)).bind fun b2 => (bif b2 then some (.inr false) else ((impl_ValidPolygon_11 k k (x0, x1, x3, (w64 (x3 + 2)), x2, x3, (rd cP x0 x3).1, (rd cP x0 x3).2, (rd cP x0 (Int.tmod (w64 (x3 + 1)) x1)).1, (rd cP x0 (Int.tmod (w64 (x3 + 1)) x1)).2)).bind fun r => match r with | .inl (z3, z4, z5, z6) => impl_ValidPolygon_5 k g (z3, z4, z5, (w64 (z6 + 1))) | .inr z7 => some (.inr z7)))) else none) else none)) else none) else none)) else none) else none) else some (.inl x0))
def impl_ValidPolygon (k : Nat) : LPt → Option (Bool) := fun a0 => (((bif (decide ((a0.length : Int) < 3)) then some true else (bif (decide ((a0.length : Int) > 24)) then some true else ((impl_validPoints k a0).bind fun y0 => some (!y0)))) : Option (Bool)).bind fun b1 => (bif b1 then some false else ((impl_ValidPolygon_5 k k (a0, (a0.length : Int), (a0.length : Int), 0)).bind fun r => match r with | .inl z12 => ((impl_doubled k z12).bind fun y13 => some (decide (y13 > 0))) | .inr z14 => some z14)))
def impl_ValidDrawing_4 (k : Nat) : Nat → LPt × Int × Int × Int × Int × LPt × LFc → Option ((Int × Int × LPt × LFc) ⊕ (Bool))
 | 0, _ => none
 | g + 1, (x0, x1, x2, x3, x4, x5, x6) => (bif (decide (x2 < x1)) then (bif (decide (0 ≤ x2)) then (bif (decide (x2 < (x0.length : Int))) then ((((impl_within k ((rd cP x0 x2).1, 0, x3)).bind fun y0 => (bif (!y0) then some true else ((impl_within k ((rd cP x0 x2).2, 0, x4)).bind fun y1 => (bif (!y1) then some true else (bif (decide (0 ≤ x2)) then (bif (decide (x2 ≤ (x5.length : Int))) then ((slices_Contains k ((win x5 (Int.toNat 0) (Int.toNat x2)), (rd cP x0 x2).1, (rd cP x0 x2).2)).bind fun y2 => some y2) else none) else none))))) : Option (Bool)).bind fun b3 => (bif b3 then some (.inr false) else impl_ValidDrawing_4 k g (x0, x1, (w64 (x2 + 1)), x3, x4, x5, x6))) else none) else none) else some (.inl (x3, x4, x5, x6)))
def impl_ValidDrawing_10 (k : Nat) : Nat → LFc × Int × Int × Int × Int × LPt × LFc → Option ((Unit) ⊕ (Bool))
 | 0, _ => none
 | g + 1, (x0, x1, x2, x3, x4, x5, x6) => (bif (decide (x2 < x1)) then (bif (decide (0 ≤ x2)) then (bif (decide (x2 < (x0.length : Int))) then ((((impl_IsName k (rd cF x0 x2).1).bind fun y0 => (bif (!y0) then some true else (bif (decide (x2 > 0)) then (bif (decide (0 ≤ (w64 (x2 - 1)))) then (bif (decide ((w64 (x2 - 1)) < (x6.length : Int))) then some (!(Op.bytesLess (rd cF x6 (w64 (x2 - 1))).1.toList (rd cF x0 x2).1.toList)) else none) else none) else some false))) : Option (Bool)).bind fun b1 => (bif b1 then some (.inr false) else ((impl_ringPolygon k (x5, (rd cF x0 x2).2)).bind fun (y2, y3) => (((bif (!y3) then some true else ((impl_ValidPolygon k y2).bind fun y4 => some (!y4))) : Option (Bool)).bind fun b5 => (bif b5 then some (.inr false) else impl_ValidDrawing_10 k g (x0, x1, (w64 (x2 + 1)), x3, x4, x5, x6)))))) else none) else none) else some (.inl ()))
def impl_ValidDrawing (k : Nat) : Int × Int × LPt × LFc → Option (Bool) := fun (a0, a1, a2, a3) => ((((impl_within k (a0, 10, 20000)).bind fun y0 => (bif (!y0) then some true else ((impl_within k (a1, 10, 20000)).bind fun y1 => (bif (!y1) then some true else (bif (decide ((a2.length : Int) > 48)) then some true else some (decide ((a3.length : Int) > 24))))))) : Option (Bool)).bind fun b2 => (bif b2 then some false else ((impl_ValidDrawing_4 k k (a2, (a2.length : Int), 0, a0, a1, a2, a3)).bind fun r => match r with | .inl (z7, z8, z9, z10) => ((impl_ValidDrawing_10 k k (z10, (z10.length : Int), 0, z7, z8, z9, z10)).bind fun r => match r with | .inl _ => some true | .inr z17 => some z17) | .inr z18 => some z18)))
def impl_SpeciesData (k : Nat) : ByteArray → Option (Int × Int × Int × Int) := fun a0 => (bif (a0.toList == (ByteArray.mk (List.toArray (97 :: (115 :: (104 :: []))))).toList) then some (20, (40, (310, 0))) else (bif (a0.toList == (ByteArray.mk (List.toArray (98 :: (101 :: (101 :: (99 :: (104 :: []))))))).toList) then some (35, (45, (410, 0))) else (bif (a0.toList == (ByteArray.mk (List.toArray (98 :: (105 :: (114 :: (99 :: (104 :: []))))))).toList) then some (15, (33, (280, 0))) else (bif (a0.toList == (ByteArray.mk (List.toArray (99 :: (104 :: (101 :: (114 :: (114 :: (121 :: [])))))))).toList) then some (50, (36, (240, 0))) else (bif (a0.toList == (ByteArray.mk (List.toArray (101 :: (98 :: (111 :: (110 :: (121 :: []))))))).toList) then some (95, (85, (270, 0))) else (bif (a0.toList == (ByteArray.mk (List.toArray (104 :: (111 :: (108 :: (108 :: (121 :: []))))))).toList) then some (5, (35, (370, 0))) else (bif (a0.toList == (ByteArray.mk (List.toArray (109 :: (97 :: (112 :: (108 :: (101 :: []))))))).toList) then some (10, (42, (290, 0))) else (bif (a0.toList == (ByteArray.mk (List.toArray (111 :: (97 :: (107 :: []))))).toList) then some (40, (40, (330, 0))) else (bif (a0.toList == (ByteArray.mk (List.toArray (114 :: (111 :: (115 :: (101 :: (119 :: (111 :: (111 :: (100 :: [])))))))))).toList) then some (80, (60, (220, 0))) else (bif (a0.toList == (ByteArray.mk (List.toArray (119 :: (97 :: (108 :: (110 :: (117 :: (116 :: [])))))))).toList) then some (70, (38, (260, 0))) else some (0, (0, (0, 3)))))))))))))
def impl_speciesShade (k : Nat) : ByteArray → Option (Int × Bool) := fun a0 => ((impl_SpeciesData k a0).bind fun (y0, y1, y2, y3) => some (y0, (y3 == 0)))
def impl_ValidVeneer (k : Nat) : ByteArray × Int × Int → Option (Bool) := fun (a0, a1, a2) => ((impl_speciesShade k a0).bind fun (y0, y1) => (bif y1 then ((impl_within k (a1, 0, 100)).bind fun y2 => (bif y2 then ((impl_within k ((w64 (a1 - y0)), (-15), 15)).bind fun y3 => (bif y3 then ((impl_within k (a2, 0, 179)).bind fun y4 => some y4) else some false)) else some false)) else some false))
def impl_validVeneers_1 (k : Nat) : ByteArray × Int × Int → Option (Bool) := fun (a0, a1, a2) => ((impl_ValidVeneer k (a0, a1, a2)).bind fun y0 => some (!y0))
def slices_IndexFunc_2 (k : Nat) : Nat → LVn × Int × Int → Option ((Unit) ⊕ (Int))
 | 0, _ => none
 | g + 1, (x0, x1, x2) => (bif (decide (x2 < x1)) then (bif (decide (0 ≤ x2)) then (bif (decide (x2 < (x0.length : Int))) then ((impl_validVeneers_1 k ((rd cV x0 x2).1, (rd cV x0 x2).2.1, (rd cV x0 x2).2.2)).bind fun y0 => (bif y0 then some (.inr x2) else slices_IndexFunc_2 k g (x0, x1, (w64 (x2 + 1))))) else none) else none) else some (.inl ()))
def slices_IndexFunc (k : Nat) : LVn → Option (Int) := fun a0 => ((slices_IndexFunc_2 k k (a0, (a0.length : Int), 0)).bind fun r => match r with | .inl _ => some (-1) | .inr z1 => some z1)
def slices_ContainsFunc (k : Nat) : LVn → Option (Bool) := fun a0 => ((slices_IndexFunc k a0).bind fun y0 => some (decide (y0 ≥ 0)))
def impl_validVeneers (k : Nat) : LVn → Option (Bool) := fun a0 => ((slices_ContainsFunc k a0).bind fun y0 => some (!y0))
def impl_ValidPicture (k : Nat) : Int × Int × LPt × LFc × LVn → Option (Bool) := fun (a0, a1, a2, a3, a4) => ((impl_ValidDrawing k (a0, a1, a2, a3)).bind fun y0 => (bif y0 then (bif ((a4.length : Int) == (a3.length : Int)) then ((impl_validVeneers k a4).bind fun y1 => some y1) else some false) else some false))
def impl_boxWithin (k : Nat) : Int × Int × Int × Int × Int × Int → Option (Bool) := fun (a0, a1, a2, a3, a4, a5) => ((impl_within k (a0, 0, a4)).bind fun y0 => (bif y0 then ((impl_within k (a1, 0, a5)).bind fun y1 => (bif y1 then ((impl_within k (a2, 1, (w64 (a4 - a0)))).bind fun y2 => (bif y2 then ((impl_within k (a3, 1, (w64 (a5 - a1)))).bind fun y3 => some y3) else some false)) else some false)) else some false))
def impl_ValidLeaf_1 (k : Nat) : Int × Int × Int × Int × ByteArray × ByteArray × Int × ByteArray × Int × Int × Int × Int × LBx → Option (Bool × ByteArray × ByteArray × Int × ByteArray × Int × Int × Int × Int × LBx) := fun (a0, a1, a2, a3, a4, a5, a6, a7, a8, a9, a10, a11, a12) => ((impl_boxWithin k (a0, a1, a2, a3, a10, a11)).bind fun y0 => some ((!y0), a4, a5, a6, a7, a8, a9, a10, a11, a12))
def slices_IndexFunc_152_2 (k : Nat) : Nat → LBx × Int × Int × ByteArray × ByteArray × Int × ByteArray × Int × Int × Int × Int × LBx → Option ((ByteArray × ByteArray × Int × ByteArray × Int × Int × Int × Int × LBx) ⊕ (Int × ByteArray × ByteArray × Int × ByteArray × Int × Int × Int × Int × LBx))
 | 0, _ => none
 | g + 1, (x0, x1, x2, x3, x4, x5, x6, x7, x8, x9, x10, x11) => (bif (decide (x2 < x1)) then (bif (decide (0 ≤ x2)) then (bif (decide (x2 < (x0.length : Int))) then ((impl_ValidLeaf_1 k ((rd cB x0 x2).1, (rd cB x0 x2).2.1, (rd cB x0 x2).2.2.1, (rd cB x0 x2).2.2.2, x3, x4, x5, x6, x7, x8, x9, x10, x11)).bind fun (y0, y1, y2, y3, y4, y5, y6, y7, y8, y9) => (bif y0 then some (.inr (x2, y1, y2, y3, y4, y5, y6, y7, y8, y9)) else slices_IndexFunc_152_2 k g (x0, x1, (w64 (x2 + 1)), y1, y2, y3, y4, y5, y6, y7, y8, y9))) else none) else none) else some (.inl (x3, x4, x5, x6, x7, x8, x9, x10, x11)))
def slices_IndexFunc_152 (k : Nat) : LBx × ByteArray × ByteArray × Int × ByteArray × Int × Int × Int × Int × LBx → Option (Int × ByteArray × ByteArray × Int × ByteArray × Int × Int × Int × Int × LBx) := fun (a0, a1, a2, a3, a4, a5, a6, a7, a8, a9) => ((slices_IndexFunc_152_2 k k (a0, (a0.length : Int), 0, a1, a2, a3, a4, a5, a6, a7, a8, a9)).bind fun r => match r with | .inl (z10, z11, z12, z13, z14, z15, z16, z17, z18) => some ((-1), z10, z11, z12, z13, z14, z15, z16, z17, z18) | .inr (z19, z20, z21, z22, z23, z24, z25, z26, z27, z28) => some (z19, z20, z21, z22, z23, z24, z25, z26, z27, z28))
def slices_ContainsFunc_125 (k : Nat) : LBx × ByteArray × ByteArray × Int × ByteArray × Int × Int × Int × Int × LBx → Option (Bool × ByteArray × ByteArray × Int × ByteArray × Int × Int × Int × Int × LBx) := fun (a0, a1, a2, a3, a4, a5, a6, a7, a8, a9) => ((slices_IndexFunc_152 k (a0, a1, a2, a3, a4, a5, a6, a7, a8, a9)).bind fun (y0, y1, y2, y3, y4, y5, y6, y7, y8, y9) => some ((decide (y0 ≥ 0)), y1, y2, y3, y4, y5, y6, y7, y8, y9))
def impl_ValidLeaf (k : Nat) : ByteArray × ByteArray × Int × ByteArray × Int × Int × Int × Int × LBx → Option (Bool) := fun (a0, a1, a2, a3, a4, a5, a6, a7, a8) => ((((impl_IsName k a0).bind fun y0 => (bif (!y0) then some true else ((impl_IsName k a1).bind fun y1 => (bif (!y1) then some true else ((impl_within k (a2, 0, 999)).bind fun y2 => (bif (!y2) then some true else ((impl_ValidVeneer k (a3, a4, a5)).bind fun y3 => some (!y3)))))))) : Option (Bool)).bind fun b4 => (bif b4 then some false else ((((impl_within k (a6, 10, 20000)).bind fun y5 => (bif (!y5) then some true else ((impl_within k (a7, 10, 20000)).bind fun y6 => (bif (!y6) then some true else some (decide ((a8.length : Int) > 6)))))) : Option (Bool)).bind fun b7 => (bif b7 then some false else ((slices_ContainsFunc_125 k (a8, a0, a1, a2, a3, a4, a5, a6, a7, a8)).bind fun (y8, y9, y10, y11, y12, y13, y14, y15, y16, y17) => some (!y8))))))
def impl_ValidLeaves_2 (k : Nat) : Nat → LLf × LLf × Int × Int → Option ((LLf) ⊕ (Bool))
 | 0, _ => none
 | g + 1, (x0, x1, x2, x3) => (bif (decide (x3 < x2)) then (bif (decide (0 ≤ x3)) then (bif (decide (x3 < (x1.length : Int))) then ((((impl_ValidLeaf k ((rd cL x1 x3).1, (rd cL x1 x3).2.1, (rd cL x1 x3).2.2.1, (rd cL x1 x3).2.2.2.1, (rd cL x1 x3).2.2.2.2.1, (rd cL x1 x3).2.2.2.2.2.1, (rd cL x1 x3).2.2.2.2.2.2.1, (rd cL x1 x3).2.2.2.2.2.2.2.1, (rd cL x1 x3).2.2.2.2.2.2.2.2)).bind fun y0 => (bif (!y0) then some true else (bif (decide (x3 > 0)) then (bif (decide (0 ≤ (w64 (x3 - 1)))) then (bif (decide ((w64 (x3 - 1)) < (x0.length : Int))) then some (!(Op.bytesLess (rd cL x0 (w64 (x3 - 1))).1.toList (rd cL x1 x3).1.toList)) else none) else none) else some false))) : Option (Bool)).bind fun b1 => (bif b1 then some (.inr false) else impl_ValidLeaves_2 k g (x0, x1, x2, (w64 (x3 + 1))))) else none) else none) else some (.inl x0))
def impl_ValidLeaves (k : Nat) : LLf → Option (Bool) := fun a0 => ((impl_ValidLeaves_2 k k (a0, a0, (a0.length : Int), 0)).bind fun r => match r with | .inl z2 => some (decide ((z2.length : Int) ≤ 16)) | .inr z3 => some z3)
def impl_ValidRules (k : Nat) : Int × Int × Int × Int → Option (Bool) := fun (a0, a1, a2, a3) => ((impl_within k (a0, 0, 500)).bind fun y0 => (bif y0 then ((impl_within k (a1, 0, 500)).bind fun y1 => (bif y1 then ((impl_within k (a2, 0, 90)).bind fun y2 => (bif y2 then ((impl_within k (a3, 0, 100)).bind fun y3 => some y3) else some false)) else some false)) else some false))
def impl_nestCode_6 (k : Nat) : Nat → Int × LLf × Int × Int → Option ((Unit) ⊕ (Int))
 | 0, _ => none
 | g + 1, (x0, x1, x2, x3) => (bif (decide (x3 < x2)) then (bif (decide (0 ≤ x3)) then (bif (decide (x3 < (x1.length : Int))) then (bif (decide (x0 = 0)) then none else (bif (decide (x0 = 0)) then none else (bif (decide ((w64 ((w64 ((w64 (Int.tdiv (rd cL x1 x3).2.2.2.2.2.2.1 x0)) + 1)) * (w64 ((w64 (Int.tdiv (rd cL x1 x3).2.2.2.2.2.2.2.1 x0)) + 1)))) > 400)) then some (.inr 5) else impl_nestCode_6 k g (x0, x1, x2, (w64 (x3 + 1)))))) else none) else none) else some (.inl ()))
def impl_nestCode (k : Nat) : Int × Int × LPt × LFc × LVn × LLf × Int × Int × Int × Int × Int × Int → Option (Int) := fun (a0, a1, a2, a3, a4, a5, a6, a7, a8, a9, a10, a11) => ((impl_ValidPicture k (a0, a1, a2, a3, a4)).bind fun y0 => (bif (!y0) then some 1 else ((impl_ValidLeaves k a5).bind fun y1 => (bif (!y1) then some 1 else ((impl_ValidRules k (a6, a7, a8, a9)).bind fun y2 => (bif (!y2) then some 1 else ((impl_within k (a11, 1, 20000)).bind fun y3 => (bif (!y3) then some 2 else ((impl_within k (a10, 1, 20000)).bind fun y4 => (bif (!y4) then some 2 else ((impl_nestCode_6 k k (a10, a5, (a5.length : Int), 0)).bind fun r => match r with | .inl _ => some 0 | .inr z5 => some z5)))))))))))
def impl_facePolygon (k : Nat) : Int × Int × LPt × LFc × Int → Option (LPt) := fun (a0, a1, a2, a3, a4) => (bif (decide (0 ≤ a4)) then (bif (decide (a4 < (a3.length : Int))) then ((impl_ringPolygon k (a2, (rd cF a3 a4).2)).bind fun (y0, y1) => some y0) else none) else none)
def impl_TurnGrain (k : Nat) : Int × Int → Option (Int × Int) := fun (a0, a1) => ((((impl_within k (a0, 0, 179)).bind fun y0 => (bif (!y0) then some true else ((impl_within k (a1, 0, 7)).bind fun y1 => some (!y1)))) : Option (Bool)).bind fun b2 => (bif b2 then some (0, 2) else (bif (decide (a1 > 3)) then some ((Int.tmod (w64 ((w64 (180 - a0)) + (w64 (90 * a1)))) 180), 0) else some ((Int.tmod (w64 (a0 + (w64 (90 * a1)))) 180), 0))))
def impl_GrainAngle (k : Nat) : Int × Int → Option (Int × Int) := fun (a0, a1) => ((((impl_within k (a0, 0, 179)).bind fun y0 => (bif (!y0) then some true else ((impl_within k (a1, 0, 179)).bind fun y1 => some (!y1)))) : Option (Bool)).bind fun b2 => (bif b2 then some (0, 2) else some ((if ((w64 (180 - (if ((w64 (a1 - a0)) > (w64 (a0 - a1))) then (w64 (a1 - a0)) else (w64 (a0 - a1))))) < (if ((w64 (a1 - a0)) > (w64 (a0 - a1))) then (w64 (a1 - a0)) else (w64 (a0 - a1)))) then (w64 (180 - (if ((w64 (a1 - a0)) > (w64 (a0 - a1))) then (w64 (a1 - a0)) else (w64 (a0 - a1))))) else (if ((w64 (a1 - a0)) > (w64 (a0 - a1))) then (w64 (a1 - a0)) else (w64 (a0 - a1)))), 0)))
def impl_veneerFault (k : Nat) : ByteArray × Int × Int × ByteArray × ByteArray × Int × ByteArray × Int × Int × Int × Int × LBx × Int × Int × Int × Int × Int → Option (Int) := fun (a0, a1, a2, a3, a4, a5, a6, a7, a8, a9, a10, a11, a12, a13, a14, a15, a16) => ((impl_TurnGrain k (a8, a12)).bind fun (y0, y1) => ((impl_GrainAngle k (y0, a2)).bind fun (y2, y3) => (bif (!(a0.toList == a6.toList)) then some 2 else (bif (decide ((if ((w64 (a7 - a1)) > (w64 (a1 - a7))) then (w64 (a7 - a1)) else (w64 (a1 - a7))) > a16)) then some 3 else (bif (decide (y2 > a15)) then some 4 else some 0)))))
def impl_bounds_3 (k : Nat) : Nat → LPt × Int × Int × Int × Int × Int × Int × Int × Int × Int × Int → Option (Int × Int × Int × Int × Int × Int × Int × Int)
 | 0, _ => none
 | g + 1, (x0, x1, x2, x3, x4, x5, x6, x7, x8, x9, x10) => (bif (decide (x2 < x1)) then (bif (decide (0 ≤ x2)) then (bif (decide (x2 < (x0.length : Int))) then impl_bounds_3 k g (x0, x1, (w64 (x2 + 1)), x3, x4, x5, x6, (if ((rd cP x0 x2).1 < x7) then (rd cP x0 x2).1 else x7), (if ((rd cP x0 x2).2 < x8) then (rd cP x0 x2).2 else x8), (if ((rd cP x0 x2).1 > x9) then (rd cP x0 x2).1 else x9), (if ((rd cP x0 x2).2 > x10) then (rd cP x0 x2).2 else x10)) else none) else none) else some (x3, x4, x5, x6, x7, x8, x9, x10))
def impl_bounds (k : Nat) : LPt → Option (Int × Int × Int × Int) := fun a0 => (bif (decide (0 < (a0.length : Int))) then (bif (decide (0 < (a0.length : Int))) then ((impl_bounds_3 k k (a0, (a0.length : Int), 0, 0, 0, 0, 0, (rd cP a0 0).1, (rd cP a0 0).2, (rd cP a0 0).1, (rd cP a0 0).2)).bind fun (z0, z1, z2, z3, z4, z5, z6, z7) => some (z4, (z5, (z6, z7)))) else none) else none)
def impl_shifted_3 (k : Nat) : Nat → Int × Int × LPt × Int × Int × LPt → Option (LPt)
 | 0, _ => none
 | g + 1, (x0, x1, x2, x3, x4, x5) => (bif (decide (x4 < x3)) then (bif (decide (0 ≤ x4)) then (bif (decide (x4 < (x2.length : Int))) then (bif (decide (((x5.length + (((w64 ((rd cP x2 x4).1 + x0)), (w64 ((rd cP x2 x4).2 + x1))) :: []).length) * 16) ≤ 140737488355328)) then impl_shifted_3 k g (x0, x1, x2, x3, (w64 (x4 + 1)), (x5 ++ (((w64 ((rd cP x2 x4).1 + x0)), (w64 ((rd cP x2 x4).2 + x1))) :: []))) else none) else none) else none) else some x5)
def impl_shifted (k : Nat) : LPt × Int × Int → Option (LPt) := fun (a0, a1, a2) => ((impl_shifted_3 k k (a1, a2, a0, (a0.length : Int), 0, [])).bind fun z0 => some z0)
def impl_Turned_6 (k : Nat) : Nat → Int × Int × Int × Int × Int → Option (Int × Int × Int × Int)
 | 0, _ => none
 | g + 1, (x0, x1, x2, x3, x4) => (bif (decide (x0 > 0)) then impl_Turned_6 k g ((w64 (x0 - 1)), (w64 (0 - x2)), x1, x3, x4) else some (x1, x2, x3, x4))
def impl_Turned (k : Nat) : Int × Int × Int → Option (Int × Int) := fun (a0, a1, a2) => ((((impl_within k (a2, 0, 7)).bind fun y0 => (bif (!y0) then some true else ((impl_within k (a0, (-20000), 20000)).bind fun y1 => (bif (!y1) then some true else ((impl_within k (a1, (-20000), 20000)).bind fun y2 => some (!y2)))))) : Option (Bool)).bind fun b3 => (bif b3 then some (0, 0) else (bif (decide (a2 > 3)) then ((impl_Turned_6 k k ((Int.tmod a2 4), (w64 (0 - a0)), a1, 0, 0)).bind fun (z4, z5, z6, z7) => some (z4, z5)) else ((impl_Turned_6 k k ((Int.tmod a2 4), a0, a1, 0, 0)).bind fun (z8, z9, z10, z11) => some (z8, z9)))))
def slices_Reverse_1 (k : Nat) : Nat → Int × Int × Int × Int × LPt → Option (LPt)
 | 0, _ => none
 | g + 1, (x0, x1, x2, x3, x4) => (bif (decide (x2 < x3)) then (bif (decide (0 ≤ x3)) then (bif (decide (x3 < ((win x4 (Int.toNat x0) (Int.toNat x1)).length : Int))) then (bif (decide (0 ≤ x2)) then (bif (decide (x2 < ((win x4 (Int.toNat x0) (Int.toNat x1)).length : Int))) then (bif (decide (0 ≤ x2)) then (bif (decide (x2 < ((win x4 (Int.toNat x0) (Int.toNat x1)).length : Int))) then (bif (decide (0 ≤ x3)) then (bif (decide (x3 < ((win (List.set x4 ((Int.toNat x0) + (Int.toNat x2)) ((List.getD x4 ((Int.toNat x0) + (Int.toNat x3)) (dflt cP)).1, (List.getD x4 ((Int.toNat x0) + (Int.toNat x3)) (dflt cP)).2)) (Int.toNat x0) (Int.toNat x1)).length : Int))) then slices_Reverse_1 k g (((Int.toNat x0) : Int), ((Int.toNat x1) : Int), (w64 (x2 + 1)), (w64 (x3 - 1)), (List.set (List.set x4 ((Int.toNat x0) + (Int.toNat x2)) ((List.getD x4 ((Int.toNat x0) + (Int.toNat x3)) (dflt cP)).1, (List.getD x4 ((Int.toNat x0) + (Int.toNat x3)) (dflt cP)).2)) ((Int.toNat x0) + (Int.toNat x3)) ((List.getD x4 ((Int.toNat x0) + (Int.toNat x2)) (dflt cP)).1, (List.getD x4 ((Int.toNat x0) + (Int.toNat x2)) (dflt cP)).2))) else none) else none) else none) else none) else none) else none) else none) else none) else some x4)
def slices_Reverse (k : Nat) : Int × Int × LPt → Option (LPt) := fun (a0, a1, a2) => ((slices_Reverse_1 k k (((Int.toNat a0) : Int), ((Int.toNat a1) : Int), 0, (w64 (((win a2 (Int.toNat a0) (Int.toNat a1)).length : Int) - 1)), a2)).bind fun z0 => some z0)
def impl_turnPoints_3 (k : Nat) : Nat → Int × LPt × Int × Int × LPt → Option (Int × LPt)
 | 0, _ => none
 | g + 1, (x0, x1, x2, x3, x4) => (bif (decide (x3 < x2)) then (bif (decide (0 ≤ x3)) then (bif (decide (x3 < (x1.length : Int))) then ((impl_Turned k ((rd cP x1 x3).1, (rd cP x1 x3).2, x0)).bind fun (y0, y1) => (bif (decide (((x4.length + ((y0, y1) :: []).length) * 16) ≤ 140737488355328)) then impl_turnPoints_3 k g (x0, x1, x2, (w64 (x3 + 1)), (x4 ++ ((y0, y1) :: []))) else none)) else none) else none) else some (x0, x4))
def impl_turnPoints (k : Nat) : LPt × Int → Option (LPt) := fun (a0, a1) => ((impl_turnPoints_3 k k (a1, a0, (a0.length : Int), 0, [])).bind fun (z2, z3) => (bif (decide (z2 > 3)) then (bif (decide (1 ≤ (z3.length : Int))) then ((slices_Reverse k (((Int.toNat 1) : Int), (z3.length : Int), z3)).bind fun y4 => ((impl_bounds k y4).bind fun (y5, y6, y7, y8) => ((impl_shifted k (y4, (w64 (0 - y5)), (w64 (0 - y6)))).bind fun y9 => some y9))) else none) else ((impl_bounds k z3).bind fun (y10, y11, y12, y13) => ((impl_shifted k (z3, (w64 (0 - y10)), (w64 (0 - y11)))).bind fun y14 => some y14))))
def slices_Clone (_k : Nat) : LPt → Option (LPt) := fun a0 => bif decide ((0 + a0.length) * 16 ≤ 140737488355328) then some a0 else none
def impl_inTriangle (k : Nat) : Int × Int × Int × Int × Int × Int × Int × Int → Option (Bool) := fun (a0, a1, a2, a3, a4, a5, a6, a7) => ((impl_side k (a0, a1, a2, a3, a6, a7)).bind fun y0 => (bif (decide (y0 ≥ 0)) then ((impl_side k (a2, a3, a4, a5, a6, a7)).bind fun y1 => (bif (decide (y1 ≥ 0)) then ((impl_side k (a4, a5, a0, a1, a6, a7)).bind fun y2 => some (decide (y2 ≥ 0))) else some false)) else some false))
def impl_ear_6 (k : Nat) : Nat → Int × Int × LPt × Int × Int × Int × Int × Int × Int × Int × Int → Option ((Unit) ⊕ (Bool))
 | 0, _ => none
 | g + 1, (x0, x1, x2, x3, x4, x5, x6, x7, x8, x9, x10) => (bif (decide (x4 < x3)) then (bif (decide (0 ≤ x4)) then (bif (decide (x4 < (x2.length : Int))) then (((bif (x4 != x0) then (bif (decide (x1 = 0)) then none else (bif (x4 != (Int.tmod (w64 ((w64 (x0 + x1)) - 1)) x1)) then (bif (decide (x1 = 0)) then none else (bif (x4 != (Int.tmod (w64 (x0 + 1)) x1)) then ((impl_inTriangle k (x5, x6, x7, x8, x9, x10, (rd cP x2 x4).1, (rd cP x2 x4).2)).bind fun y0 => some y0) else some false)) else some false)) else some false) : Option (Bool)).bind fun b1 => (bif b1 then some (.inr false) else impl_ear_6 k g (x0, x1, x2, x3, (w64 (x4 + 1)), x5, x6, x7, x8, x9, x10))) else none) else none) else some (.inl ()))
def impl_ear (k : Nat) : LPt × Int → Option (Bool) := fun (a0, a1) => (bif (decide ((a0.length : Int) = 0)) then none else (bif (decide (0 ≤ (Int.tmod (w64 ((w64 (a1 + (a0.length : Int))) - 1)) (a0.length : Int)))) then (bif (decide ((Int.tmod (w64 ((w64 (a1 + (a0.length : Int))) - 1)) (a0.length : Int)) < (a0.length : Int))) then (bif (decide (0 ≤ a1)) then (bif (decide (a1 < (a0.length : Int))) then (bif (decide ((a0.length : Int) = 0)) then none else (bif (decide (0 ≤ (Int.tmod (w64 (a1 + 1)) (a0.length : Int)))) then (bif (decide ((Int.tmod (w64 (a1 + 1)) (a0.length : Int)) < (a0.length : Int))) then ((impl_side k ((rd cP a0 (Int.tmod (w64 ((w64 (a1 + (a0.length : Int))) - 1)) (a0.length : Int))).1, (rd cP a0 (Int.tmod (w64 ((w64 (a1 + (a0.length : Int))) - 1)) (a0.length : Int))).2, (rd cP a0 a1).1, (rd cP a0 a1).2, (rd cP a0 (Int.tmod (w64 (a1 + 1)) (a0.length : Int))).1, (rd cP a0 (Int.tmod (w64 (a1 + 1)) (a0.length : Int))).2)).bind fun y0 => (bif (y0 != 1) then some false else ((impl_ear_6 k k (a1, (a0.length : Int), a0, (a0.length : Int), 0, (rd cP a0 (Int.tmod (w64 ((w64 (a1 + (a0.length : Int))) - 1)) (a0.length : Int))).1, (rd cP a0 (Int.tmod (w64 ((w64 (a1 + (a0.length : Int))) - 1)) (a0.length : Int))).2, (rd cP a0 a1).1, (rd cP a0 a1).2, (rd cP a0 (Int.tmod (w64 (a1 + 1)) (a0.length : Int))).1, (rd cP a0 (Int.tmod (w64 (a1 + 1)) (a0.length : Int))).2)).bind fun r => match r with | .inl _ => some true | .inr z3 => some z3))) else none) else none)) else none) else none) else none) else none))
def impl_triangles_5 (k : Nat) : Nat → Int × Int × Int × Int × LPP × LPt → Option (Int × Int × LPP × LPt)
 | 0, _ => none
 | g + 1, (x0, x1, x2, x3, x4, x5) => (bif (decide (x3 < x2)) then ((impl_ear k (x5, x3)).bind fun y0 => (bif y0 then some (x0, x3, x4, x5) else impl_triangles_5 k g (x0, x1, x2, (w64 (x3 + 1)), x4, x5))) else some (x0, x1, x4, x5))
def impl_triangles_2 (k : Nat) : Nat → LPP × LPt → Option ((LPP × LPt) ⊕ (LPP))
 | 0, _ => none
 | g + 1, (x0, x1) => (bif (decide ((x1.length : Int) > 3)) then ((impl_triangles_5 k k ((x1.length : Int), (-1), (x1.length : Int), 0, x0, x1)).bind fun (z0, z1, z2, z3) => (bif (decide (z1 < 0)) then some (.inr z2) else (bif (decide (z0 = 0)) then none else (bif (decide (0 ≤ (Int.tmod (w64 ((w64 (z1 + z0)) - 1)) z0))) then (bif (decide ((Int.tmod (w64 ((w64 (z1 + z0)) - 1)) z0) < (z3.length : Int))) then (bif (decide (0 ≤ z1)) then (bif (decide (z1 < (z3.length : Int))) then (bif (decide (z0 = 0)) then none else (bif (decide (0 ≤ (Int.tmod (w64 (z1 + 1)) z0))) then (bif (decide ((Int.tmod (w64 (z1 + 1)) z0) < (z3.length : Int))) then (bif (decide (((z2.length + ((((List.getD z3 (Int.toNat (Int.tmod (w64 ((w64 (z1 + z0)) - 1)) z0)) (dflt cP)).1, (List.getD z3 (Int.toNat (Int.tmod (w64 ((w64 (z1 + z0)) - 1)) z0)) (dflt cP)).2) :: (((List.getD z3 (Int.toNat z1) (dflt cP)).1, (List.getD z3 (Int.toNat z1) (dflt cP)).2) :: (((List.getD z3 (Int.toNat (Int.tmod (w64 (z1 + 1)) z0)) (dflt cP)).1, (List.getD z3 (Int.toNat (Int.tmod (w64 (z1 + 1)) z0)) (dflt cP)).2) :: []))) :: []).length) * 24) ≤ 140737488355328)) then (bif (decide (0 ≤ z1)) then (bif (decide (z1 < (w64 (z1 + 1)))) then (bif (decide ((w64 (z1 + 1)) ≤ (z3.length : Int))) then impl_triangles_2 k g ((z2 ++ ((((List.getD z3 (Int.toNat (Int.tmod (w64 ((w64 (z1 + z0)) - 1)) z0)) (dflt cP)).1, (List.getD z3 (Int.toNat (Int.tmod (w64 ((w64 (z1 + z0)) - 1)) z0)) (dflt cP)).2) :: (((List.getD z3 (Int.toNat z1) (dflt cP)).1, (List.getD z3 (Int.toNat z1) (dflt cP)).2) :: (((List.getD z3 (Int.toNat (Int.tmod (w64 (z1 + 1)) z0)) (dflt cP)).1, (List.getD z3 (Int.toNat (Int.tmod (w64 (z1 + 1)) z0)) (dflt cP)).2) :: []))) :: [])), ((List.take (Int.toNat z1) z3) ++ (List.drop (Int.toNat (w64 (z1 + 1))) z3))) else none) else none) else none) else none) else none) else none)) else none) else none) else none) else none)))) else some (.inl (x0, x1)))
def impl_triangles (k : Nat) : LPt → Option (LPP) := fun a0 => ((slices_Clone k a0).bind fun y0 => ((impl_triangles_2 k k ([], y0)).bind fun r => match r with | .inl (z6, z7) => (bif (decide (((z6.length + (z7 :: []).length) * 24) ≤ 140737488355328)) then some (z6 ++ (z7 :: [])) else none) | .inr z8 => some z8))
def impl_beside_6 (k : Nat) : Nat → LPt × LPt × Int × Bool × Int × Int × LPt × Int × Int → Option (LPt × LPt × Bool × Int × Int)
 | 0, _ => none
 | g + 1, (x0, x1, x2, x3, x4, x5, x6, x7, x8) => (bif (decide (x8 < x7)) then (bif (decide (0 ≤ x8)) then (bif (decide (x8 < (x6.length : Int))) then (bif x3 then (bif (decide (0 ≤ x2)) then (bif (decide (x2 < (x0.length : Int))) then (bif (decide (0 ≤ (Int.tmod (w64 (x2 + 1)) 3))) then (bif (decide ((Int.tmod (w64 (x2 + 1)) 3) < (x0.length : Int))) then ((impl_side k ((rd cP x0 x2).1, (rd cP x0 x2).2, (rd cP x0 (Int.tmod (w64 (x2 + 1)) 3)).1, (rd cP x0 (Int.tmod (w64 (x2 + 1)) 3)).2, (rd cP x6 x8).1, (rd cP x6 x8).2)).bind fun y0 => impl_beside_6 k g (x0, x1, x2, (decide (y0 ≤ 0)), x4, x5, x6, x7, (w64 (x8 + 1)))) else none) else none) else none) else none) else impl_beside_6 k g (x0, x1, x2, false, x4, x5, x6, x7, (w64 (x8 + 1)))) else none) else none) else some (x0, x1, x3, x4, x5))
def impl_beside_2 (k : Nat) : Nat → LPt × LPt × Int × Int → Option ((Unit) ⊕ (Bool))
 | 0, _ => none
 | g + 1, (x0, x1, x2, x3) => (bif (decide (x3 < x2)) then ((impl_beside_6 k k (x0, x1, x3, true, x2, x3, x1, (x1.length : Int), 0)).bind fun (z0, z1, z2, z3, z4) => (bif z2 then some (.inr true) else impl_beside_2 k g (z0, z1, z3, (w64 (z4 + 1))))) else some (.inl ()))
def impl_beside (k : Nat) : LPt × LPt → Option (Bool) := fun (a0, a1) => ((impl_beside_2 k k (a0, a1, (a0.length : Int), 0)).bind fun r => match r with | .inl _ => some false | .inr z6 => some z6)
def impl_apart_10 (k : Nat) : Nat → LPP × LPt × LPP × Int × Int × LPP × Int × Int → Option ((LPP × LPP × Int × Int) ⊕ (Bool))
 | 0, _ => none
 | g + 1, (x0, x1, x2, x3, x4, x5, x6, x7) => (bif (decide (x7 < x6)) then (bif (decide (0 ≤ x7)) then (bif (decide (x7 < (x5.length : Int))) then ((((impl_beside k (x1, (rd (.sl cP) x5 x7))).bind fun y0 => (bif (!y0) then ((impl_beside k ((rd (.sl cP) x5 x7), x1)).bind fun y1 => some (!y1)) else some false)) : Option (Bool)).bind fun b2 => (bif b2 then some (.inr false) else impl_apart_10 k g (x0, x1, x2, x3, x4, x5, x6, (w64 (x7 + 1))))) else none) else none) else some (.inl (x0, x2, x3, x4)))
def impl_apart_7 (k : Nat) : Nat → LPP × LPP × Int × Int → Option ((Unit) ⊕ (Bool))
 | 0, _ => none
 | g + 1, (x0, x1, x2, x3) => (bif (decide (x3 < x2)) then (bif (decide (0 ≤ x3)) then (bif (decide (x3 < (x1.length : Int))) then ((impl_apart_10 k k (x0, (rd (.sl cP) x1 x3), x1, x2, x3, x0, (x0.length : Int), 0)).bind fun r => match r with | .inl (z0, z1, z2, z3) => impl_apart_7 k g (z0, z1, z2, (w64 (z3 + 1))) | .inr z4 => some (.inr z4)) else none) else none) else some (.inl ()))
def impl_apart (k : Nat) : LPt × LPt → Option (Bool) := fun (a0, a1) => ((impl_bounds k a0).bind fun (y0, y1, y2, y3) => ((impl_bounds k a1).bind fun (y4, y5, y6, y7) => (((bif (decide (y2 ≤ y4)) then some true else (bif (decide (y6 ≤ y0)) then some true else (bif (decide (y3 ≤ y5)) then some true else some (decide (y7 ≤ y1))))) : Option (Bool)).bind fun b8 => (bif b8 then some true else ((impl_triangles k a1).bind fun y9 => ((impl_triangles k a0).bind fun y10 => ((impl_apart_7 k k (y9, y10, (y10.length : Int), 0)).bind fun r => match r with | .inl _ => some true | .inr z19 => some z19)))))))
def impl_boxPolygon (k : Nat) : Int × Int × Int × Int → Option (LPt) := fun (a0, a1, a2, a3) => some ((a0, a1) :: (((w64 (a0 + a2)), a1) :: (((w64 (a0 + a2)), (w64 (a1 + a3))) :: ((a0, (w64 (a1 + a3))) :: []))))
def impl_leafFault_5 (k : Nat) : Nat → LPt × LBx × Int × Int → Option ((Unit) ⊕ (Int))
 | 0, _ => none
 | g + 1, (x0, x1, x2, x3) => (bif (decide (x3 < x2)) then (bif (decide (0 ≤ x3)) then (bif (decide (x3 < (x1.length : Int))) then ((impl_boxPolygon k ((rd cB x1 x3).1, (rd cB x1 x3).2.1, (rd cB x1 x3).2.2.1, (rd cB x1 x3).2.2.2)).bind fun y0 => ((impl_apart k (x0, y0)).bind fun y1 => (bif (!y1) then some (.inr 6) else impl_leafFault_5 k g (x0, x1, x2, (w64 (x3 + 1)))))) else none) else none) else some (.inl ()))
def impl_leafFault (k : Nat) : LPt × ByteArray × ByteArray × Int × ByteArray × Int × Int × Int × Int × LBx × Int × Int × Int × Int → Option (Int) := fun (a0, a1, a2, a3, a4, a5, a6, a7, a8, a9, a10, a11, a12, a13) => ((impl_bounds k a0).bind fun (y0, y1, y2, y3) => (((bif (decide (y0 < a11)) then some true else (bif (decide (y1 < a11)) then some true else (bif (decide (y2 > (w64 (a7 - a11)))) then some true else some (decide (y3 > (w64 (a8 - a11))))))) : Option (Bool)).bind fun b4 => (bif b4 then some 5 else ((impl_leafFault_5 k k (a0, a9, (a9.length : Int), 0)).bind fun r => match r with | .inl _ => some 0 | .inr z7 => some z7))))
def impl_inside_3 (k : Nat) : Nat → LPt × Int × LPt × Int × Int × Int × Int → Option ((Int) ⊕ (Int))
 | 0, _ => none
 | g + 1, (x0, x1, x2, x3, x4, x5, x6) => (bif (decide (x4 < x3)) then (bif (decide (0 ≤ x4)) then (bif (decide (x4 < (x2.length : Int))) then (bif (decide ((x0.length : Int) = 0)) then none else (bif (decide (0 ≤ (Int.tmod (w64 (x4 + 1)) (x0.length : Int)))) then (bif (decide ((Int.tmod (w64 (x4 + 1)) (x0.length : Int)) < (x0.length : Int))) then ((impl_on k ((rd cP x2 x4).1, (rd cP x2 x4).2, (rd cP x0 (Int.tmod (w64 (x4 + 1)) (x0.length : Int))).1, (rd cP x0 (Int.tmod (w64 (x4 + 1)) (x0.length : Int))).2, x5, x6)).bind fun y0 => (bif y0 then some (.inr 0) else (bif ((decide ((rd cP x2 x4).2 > x6)) != (decide ((rd cP x0 (Int.tmod (w64 (x4 + 1)) (x0.length : Int))).2 > x6))) then ((impl_side k ((rd cP x2 x4).1, (rd cP x2 x4).2, (rd cP x0 (Int.tmod (w64 (x4 + 1)) (x0.length : Int))).1, (rd cP x0 (Int.tmod (w64 (x4 + 1)) (x0.length : Int))).2, x5, x6)).bind fun y1 => (bif (decide ((rd cP x0 (Int.tmod (w64 (x4 + 1)) (x0.length : Int))).2 < (rd cP x2 x4).2)) then (bif (decide ((w64 (0 - y1)) > 0)) then impl_inside_3 k g (x0, (w64 (0 - x1)), x2, x3, (w64 (x4 + 1)), x5, x6) else impl_inside_3 k g (x0, x1, x2, x3, (w64 (x4 + 1)), x5, x6)) else (bif (decide (y1 > 0)) then impl_inside_3 k g (x0, (w64 (0 - x1)), x2, x3, (w64 (x4 + 1)), x5, x6) else impl_inside_3 k g (x0, x1, x2, x3, (w64 (x4 + 1)), x5, x6)))) else impl_inside_3 k g (x0, x1, x2, x3, (w64 (x4 + 1)), x5, x6)))) else none) else none)) else none) else none) else some (.inl x1))
def impl_inside (k : Nat) : LPt × Int × Int → Option (Int) := fun (a0, a1, a2) => ((impl_inside_3 k k (a0, (-1), a0, (a0.length : Int), 0, a1, a2)).bind fun r => match r with | .inl z2 => some z2 | .inr z3 => some z3)
def impl_squared (k : Nat) : Int × Int × Int × Int → Option (Int) := fun (a0, a1, a2, a3) => some (w64 ((w64 ((w64 (a0 - a2)) * (w64 (a0 - a2)))) + (w64 ((w64 (a1 - a3)) * (w64 (a1 - a3))))))
def impl_RootOf_4 (k : Nat) : Nat → Int × Int × Int → Option (Int)
 | 0, _ => none
 | g + 1, (x0, x1, x2) => (bif (decide (x1 < x2)) then (bif (decide ((w64 (Int.tdiv (w64 ((w64 (x1 + x2)) + 1)) 2)) = 0)) then none else (bif (decide ((w64 (Int.tdiv (w64 ((w64 (x1 + x2)) + 1)) 2)) ≤ (w64 (Int.tdiv x0 (w64 (Int.tdiv (w64 ((w64 (x1 + x2)) + 1)) 2)))))) then impl_RootOf_4 k g (x0, (w64 (Int.tdiv (w64 ((w64 (x1 + x2)) + 1)) 2)), x2) else impl_RootOf_4 k g (x0, x1, (w64 ((w64 (Int.tdiv (w64 ((w64 (x1 + x2)) + 1)) 2)) - 1))))) else some x1)
def impl_RootOf (k : Nat) : Int → Option (Int) := fun a0 => (bif (decide (a0 < 1)) then some 0 else ((impl_RootOf_4 k k (a0, 1, 3037000499)).bind fun z0 => some z0))
def bits_Mul64 (_k : Nat) : Int × Int → Option (Int × Int) := fun (a0, a1) => bif (decide (0 ≤ a0) && (decide (a0 < 18446744073709551616) && (decide (0 ≤ a1) && (decide (a1 < 18446744073709551616) && decide (a0 * a1 < 18446744073709551616))))) then some (0, a0 * a1) else none
def bits_Div64 (k : Nat) : Int × Int × Int → Option (Int × Int) := fun (a0, a1, a2) => (bif (a2 == 0) then none else (bif (decide (a2 ≤ a0)) then none else (bif (a0 == 0) then (bif (decide (a2 = 0)) then none else (bif (decide (a2 = 0)) then none else some ((IntKind.wrap .u64 (Int.tdiv a1 a2)), (Int.tmod a1 a2)))) else none)))
def impl_toSegment (k : Nat) : Int × Int × Int × Int × Int × Int → Option (Int) := fun (a0, a1, a2, a3, a4, a5) => ((impl_squared k (a0, a1, a2, a3)).bind fun y0 => (bif (decide ((w64 ((w64 ((w64 (a4 - a0)) * (w64 (a2 - a0)))) + (w64 ((w64 (a5 - a1)) * (w64 (a3 - a1)))))) ≤ 0)) then ((impl_squared k (a0, a1, a4, a5)).bind fun y1 => ((impl_RootOf k y1).bind fun y2 => some y2)) else (bif (decide ((w64 ((w64 ((w64 (a4 - a0)) * (w64 (a2 - a0)))) + (w64 ((w64 (a5 - a1)) * (w64 (a3 - a1)))))) ≥ y0)) then ((impl_squared k (a2, a3, a4, a5)).bind fun y3 => ((impl_RootOf k y3).bind fun y4 => some y4)) else ((bits_Mul64 k ((IntKind.wrap .u64 (if ((w64 (0 - (w64 ((w64 ((w64 (a2 - a0)) * (w64 (a5 - a1)))) - (w64 ((w64 (a3 - a1)) * (w64 (a4 - a0)))))))) > (w64 ((w64 ((w64 (a2 - a0)) * (w64 (a5 - a1)))) - (w64 ((w64 (a3 - a1)) * (w64 (a4 - a0))))))) then (w64 (0 - (w64 ((w64 ((w64 (a2 - a0)) * (w64 (a5 - a1)))) - (w64 ((w64 (a3 - a1)) * (w64 (a4 - a0)))))))) else (w64 ((w64 ((w64 (a2 - a0)) * (w64 (a5 - a1)))) - (w64 ((w64 (a3 - a1)) * (w64 (a4 - a0)))))))), (IntKind.wrap .u64 (if ((w64 (0 - (w64 ((w64 ((w64 (a2 - a0)) * (w64 (a5 - a1)))) - (w64 ((w64 (a3 - a1)) * (w64 (a4 - a0)))))))) > (w64 ((w64 ((w64 (a2 - a0)) * (w64 (a5 - a1)))) - (w64 ((w64 (a3 - a1)) * (w64 (a4 - a0))))))) then (w64 (0 - (w64 ((w64 ((w64 (a2 - a0)) * (w64 (a5 - a1)))) - (w64 ((w64 (a3 - a1)) * (w64 (a4 - a0)))))))) else (w64 ((w64 ((w64 (a2 - a0)) * (w64 (a5 - a1)))) - (w64 ((w64 (a3 - a1)) * (w64 (a4 - a0)))))))))).bind fun (y5, y6) => ((bits_Div64 k (y5, y6, (IntKind.wrap .u64 y0))).bind fun (y7, y8) => ((impl_RootOf k (w64 y7)).bind fun y9 => some y9))))))
def impl_betweenSegments (k : Nat) : Int × Int × Int × Int × Int × Int × Int × Int → Option (Int) := fun (a0, a1, a2, a3, a4, a5, a6, a7) => ((impl_touching k (a0, a1, a2, a3, a4, a5, a6, a7)).bind fun y0 => (bif y0 then some 0 else ((impl_toSegment k (a0, a1, a2, a3, a4, a5)).bind fun y1 => ((impl_toSegment k (a0, a1, a2, a3, a6, a7)).bind fun y2 => ((impl_toSegment k (a4, a5, a6, a7, a0, a1)).bind fun y3 => ((impl_toSegment k (a4, a5, a6, a7, a2, a3)).bind fun y4 => some (min4 y1 y2 y3 y4)))))))
def impl_gap_8 (k : Nat) : Nat → LPt × LPt × Int × Int × Int × Int × Int × Int → Option (LPt × LPt × Int × Int × Int)
 | 0, _ => none
 | g + 1, (x0, x1, x2, x3, x4, x5, x6, x7) => (bif (decide (x7 < x6)) then (bif (decide (0 ≤ x3)) then (bif (decide (x3 < (x0.length : Int))) then (bif (decide ((x0.length : Int) = 0)) then none else (bif (decide (0 ≤ (Int.tmod (w64 (x3 + 1)) (x0.length : Int)))) then (bif (decide ((Int.tmod (w64 (x3 + 1)) (x0.length : Int)) < (x0.length : Int))) then (bif (decide (0 ≤ x7)) then (bif (decide (x7 < (x1.length : Int))) then (bif (decide ((x1.length : Int) = 0)) then none else (bif (decide (0 ≤ (Int.tmod (w64 (x7 + 1)) (x1.length : Int)))) then (bif (decide ((Int.tmod (w64 (x7 + 1)) (x1.length : Int)) < (x1.length : Int))) then ((impl_betweenSegments k ((rd cP x0 x3).1, (rd cP x0 x3).2, (rd cP x0 (Int.tmod (w64 (x3 + 1)) (x0.length : Int))).1, (rd cP x0 (Int.tmod (w64 (x3 + 1)) (x0.length : Int))).2, (rd cP x1 x7).1, (rd cP x1 x7).2, (rd cP x1 (Int.tmod (w64 (x7 + 1)) (x1.length : Int))).1, (rd cP x1 (Int.tmod (w64 (x7 + 1)) (x1.length : Int))).2)).bind fun y0 => (((bif (decide (x2 < 0)) then some true else some (decide (y0 < x2))) : Option (Bool)).bind fun b1 => (bif b1 then impl_gap_8 k g (x0, x1, y0, x3, x4, x5, x6, (w64 (x7 + 1))) else impl_gap_8 k g (x0, x1, x2, x3, x4, x5, x6, (w64 (x7 + 1)))))) else none) else none)) else none) else none) else none) else none)) else none) else none) else some (x0, x1, x2, x4, x5))
def impl_gap_5 (k : Nat) : Nat → LPt × LPt × Int × Int × Int → Option (Int)
 | 0, _ => none
 | g + 1, (x0, x1, x2, x3, x4) => (bif (decide (x4 < x3)) then ((impl_gap_8 k k (x0, x1, x2, x4, x3, x4, (x1.length : Int), 0)).bind fun (z0, z1, z2, z3, z4) => impl_gap_5 k g (z0, z1, z2, z3, (w64 (z4 + 1)))) else some x2)
def impl_gap (k : Nat) : LPt × LPt → Option (Int) := fun (a0, a1) => (((bif (decide (0 < (a1.length : Int))) then ((impl_inside k (a0, (rd cP a1 0).1, (rd cP a1 0).2)).bind fun y0 => (bif (decide (y0 ≥ 0)) then some true else (bif (decide (0 < (a0.length : Int))) then ((impl_inside k (a1, (rd cP a0 0).1, (rd cP a0 0).2)).bind fun y1 => some (decide (y1 ≥ 0))) else none))) else none) : Option (Bool)).bind fun b2 => (bif b2 then some 0 else ((impl_gap_5 k k (a0, a1, (-1), (a0.length : Int), 0)).bind fun z10 => some z10)))
def impl_tooNear (k : Nat) : LPt × LPt × Int × Int × Int × Int → Option (Bool) := fun (a0, a1, a2, a3, a4, a5) => ((impl_apart k (a0, a1)).bind fun y0 => (bif (!y0) then some true else ((impl_gap k (a0, a1)).bind fun y1 => some (decide (y1 < a2)))))
def impl_nest_free_2 (k : Nat) : Nat → Int × Int × LPt × LFc × LVn × LLf × Int × Int × Int × Int × Int × LPl × LPP × Int × Int × LPt × LPl × Int × Int → Option ((Unit) ⊕ (Bool))
 | 0, _ => none
 | g + 1, (x0, x1, x2, x3, x4, x5, x6, x7, x8, x9, x10, x11, x12, x13, x14, x15, x16, x17, x18) => (bif (decide (x18 < x17)) then (bif (decide (0 ≤ x18)) then (bif (decide (x18 < (x16.length : Int))) then (((bif ((rd cQ x16 x18).2.1 == x14) then (bif (decide (0 ≤ x18)) then (bif (decide (x18 < (x12.length : Int))) then ((impl_tooNear k ((rd (.sl cP) x12 x18), x15, x6, x7, x8, x9)).bind fun y0 => some y0) else none) else none) else some false) : Option (Bool)).bind fun b1 => (bif b1 then some (.inr false) else impl_nest_free_2 k g (x0, x1, x2, x3, x4, x5, x6, x7, x8, x9, x10, x11, x12, x13, x14, x15, x16, x17, (w64 (x18 + 1))))) else none) else none) else some (.inl ()))
def impl_nest_free (k : Nat) : Int × Int × LPt × LFc × LVn × LLf × Int × Int × Int × Int × Int × LPl × LPP × Int × Int × LPt → Option (Bool) := fun (a0, a1, a2, a3, a4, a5, a6, a7, a8, a9, a10, a11, a12, a13, a14, a15) => ((impl_nest_free_2 k k (a0, a1, a2, a3, a4, a5, a6, a7, a8, a9, a10, a11, a12, a13, a14, a15, a11, (a11.length : Int), 0)).bind fun r => match r with | .inl _ => some true | .inr z2 => some z2)
def impl_nest_put (k : Nat) : Int × Int × Int × Int × Int × Int × Int × LPt × LFc × LVn × LLf × Int × Int × Int × Int × Int × Int × LPt × LPl × LPP → Option (Int × Int × LPt × LFc × LVn × LLf × Int × Int × Int × Int × Int × Int × LPl × LPP) := fun (a0, a1, a2, a3, a4, a5, a6, a7, a8, a9, a10, a11, a12, a13, a14, a15, a16, a17, a18, a19) => (bif (decide (((a18.length + ((a0, (a1, (a2, (a3, a4)))) :: []).length) * 40) ≤ 140737488355328)) then (bif (decide (((a19.length + (a17 :: []).length) * 24) ≤ 140737488355328)) then some (a5, a6, a7, a8, a9, a10, a11, a12, a13, a14, a15, a16, (a18 ++ ((a0, (a1, (a2, (a3, a4)))) :: [])), (a19 ++ (a17 :: []))) else none) else none)
def impl_GreedyNesting_1 (k : Nat) : Int × Int × Int × Int × Int × LPt × Int × Int × LPt × LFc × LVn × LLf × Int × Int × Int × Int × Int × Int × LPl × LPP → Option (Int × Int × LPt × LFc × LVn × LLf × Int × Int × Int × Int × Int × Int × LPl × LPP) := fun (a0, a1, a2, a3, a4, a5, a6, a7, a8, a9, a10, a11, a12, a13, a14, a15, a16, a17, a18, a19) => ((impl_nest_put k (a0, a1, a2, a3, a4, a6, a7, a8, a9, a10, a11, a12, a13, a14, a15, a16, a17, a5, a18, a19)).bind fun (y0, y1, y2, y3, y4, y5, y6, y7, y8, y9, y10, y11, y12, y13) => some (y0, y1, y2, y3, y4, y5, y6, y7, y8, y9, y10, y11, y12, y13))
def impl_nest_places_14 (k : Nat) : Nat → Int × Int × Int × Int × Int × LLf × Int × Int × Int × Int × Int × LPt × LFc × LVn × LLf × Int × Int × Int × Int × Int × Int × LPl × LPP × LPt × ByteArray × ByteArray × Int × ByteArray × Int × Int × Int × Int × LBx × LPt × Int × Int → Option ((Int × Int × Int × Int × LLf × Int × Int × Int × Int × Int × LPt × LFc × LVn × LLf × Int × Int × Int × Int × Int × Int × LPl × LPP × LPt × ByteArray × ByteArray × Int × ByteArray × Int × Int × Int × Int × LBx × LPt × Int × Int) ⊕ (Int × Int × LPt × LFc × LVn × LLf × Int × Int × Int × Int × Int × Int × LPl × LPP))
 | 0, _ => none
 | g + 1, (x0, x1, x2, x3, x4, x5, x6, x7, x8, x9, x10, x11, x12, x13, x14, x15, x16, x17, x18, x19, x20, x21, x22, x23, x24, x25, x26, x27, x28, x29, x30, x31, x32, x33, x34, x35) => (bif (decide ((w64 (x4 + x34)) ≤ (w64 (x30 - x16)))) then ((impl_shifted k (x33, x4, x3)).bind fun y0 => ((((impl_leafFault k (y0, x24, x25, x26, x27, x28, x29, x30, x31, x32, x15, x16, x17, x18)).bind fun y1 => (bif (y1 != 0) then some true else ((impl_nest_free k (x9, x10, x11, x12, x13, x14, x15, x16, x17, x18, x19, x21, x22, x20, x1, y0)).bind fun y2 => some (!y2)))) : Option (Bool)).bind fun b3 => (bif b3 then impl_nest_places_14 k g (x0, x1, x2, x3, (w64 (x4 + x19)), x5, x6, x7, x8, x9, x10, x11, x12, x13, x14, x15, x16, x17, x18, x19, x20, x21, x22, x23, x24, x25, x26, x27, x28, x29, x30, x31, x32, x33, x34, x35) else ((impl_GreedyNesting_1 k (x0, x1, x4, x3, x2, y0, x9, x10, x11, x12, x13, x14, x15, x16, x17, x18, x19, x20, x21, x22)).bind fun (y4, y5, y6, y7, y8, y9, y10, y11, y12, y13, y14, y15, y16, y17) => some (.inr (y4, y5, y6, y7, y8, y9, y10, y11, y12, y13, y14, y15, y16, y17)))))) else some (.inl (x0, x1, x2, x3, x5, x6, x7, x8, x9, x10, x11, x12, x13, x14, x15, x16, x17, x18, x19, x20, x21, x22, x23, x24, x25, x26, x27, x28, x29, x30, x31, x32, x33, x34, x35)))
def impl_nest_places_11 (k : Nat) : Nat → Int × Int × Int × Int × LLf × Int × Int × Int × Int × Int × LPt × LFc × LVn × LLf × Int × Int × Int × Int × Int × Int × LPl × LPP × LPt × ByteArray × ByteArray × Int × ByteArray × Int × Int × Int × Int × LBx × LPt × Int × Int → Option ((Int × Int × LLf × Int × Int × Int × Int × Int × LPt × LFc × LVn × LLf × Int × Int × Int × Int × Int × Int × LPl × LPP × LPt × ByteArray × ByteArray × Int × ByteArray × Int × Int × Int × Int × LBx) ⊕ (Int × Int × LPt × LFc × LVn × LLf × Int × Int × Int × Int × Int × Int × LPl × LPP))
 | 0, _ => none
 | g + 1, (x0, x1, x2, x3, x4, x5, x6, x7, x8, x9, x10, x11, x12, x13, x14, x15, x16, x17, x18, x19, x20, x21, x22, x23, x24, x25, x26, x27, x28, x29, x30, x31, x32, x33, x34) => (bif (decide ((w64 (x3 + x34)) ≤ (w64 (x30 - x15)))) then ((impl_nest_places_14 k k (x0, x1, x2, x3, x15, x4, x5, x6, x7, x8, x9, x10, x11, x12, x13, x14, x15, x16, x17, x18, x19, x20, x21, x22, x23, x24, x25, x26, x27, x28, x29, x30, x31, x32, x33, x34)).bind fun r => match r with | .inl (z0, z1, z2, z3, z4, z5, z6, z7, z8, z9, z10, z11, z12, z13, z14, z15, z16, z17, z18, z19, z20, z21, z22, z23, z24, z25, z26, z27, z28, z29, z30, z31, z32, z33, z34) => impl_nest_places_11 k g (z0, z1, z2, (w64 (z3 + z18)), z4, z5, z6, z7, z8, z9, z10, z11, z12, z13, z14, z15, z16, z17, z18, z19, z20, z21, z22, z23, z24, z25, z26, z27, z28, z29, z30, z31, z32, z33, z34) | .inr (z35, z36, z37, z38, z39, z40, z41, z42, z43, z44, z45, z46, z47, z48) => some (.inr (z35, z36, z37, z38, z39, z40, z41, z42, z43, z44, z45, z46, z47, z48))) else some (.inl (x0, x1, x4, x5, x6, x7, x8, x9, x10, x11, x12, x13, x14, x15, x16, x17, x18, x19, x20, x21, x22, x23, x24, x25, x26, x27, x28, x29, x30, x31)))
def impl_nest_places_5 (k : Nat) : Nat → Int × Int × LLf × Int × Int × Int × Int × Int × LPt × LFc × LVn × LLf × Int × Int × Int × Int × Int × Int × LPl × LPP × LPt × ByteArray × ByteArray × Int × ByteArray × Int × Int × Int × Int × LBx → Option ((Int × LLf × Int × Int × Int × Int × LPt × LFc × LVn × LLf × Int × Int × Int × Int × Int × Int × LPl × LPP × LPt) ⊕ (Int × Int × LPt × LFc × LVn × LLf × Int × Int × Int × Int × Int × Int × LPl × LPP))
 | 0, _ => none
 | g + 1, (x0, x1, x2, x3, x4, x5, x6, x7, x8, x9, x10, x11, x12, x13, x14, x15, x16, x17, x18, x19, x20, x21, x22, x23, x24, x25, x26, x27, x28, x29) => (bif (decide (x5 < 8)) then (bif (decide (0 ≤ x0)) then (bif (decide (x0 < (x10.length : Int))) then ((impl_veneerFault k ((rd cV x10 x0).1, (rd cV x10 x0).2.1, (rd cV x10 x0).2.2, x21, x22, x23, x24, x25, x26, x27, x28, x29, x5, x12, x13, x14, x15)).bind fun y0 => (bif (y0 != 0) then impl_nest_places_5 k g (x0, x1, x2, x3, x4, (w64 (x5 + 1)), x6, x7, x8, x9, x10, x11, x12, x13, x14, x15, x16, x17, x18, x19, x20, x21, x22, x23, x24, x25, x26, x27, x28, x29) else ((impl_turnPoints k (x20, x5)).bind fun y1 => ((impl_bounds k y1).bind fun (y2, y3, y4, y5) => ((impl_nest_places_11 k k (x0, x1, x5, x13, x2, x3, x4, x5, x6, x7, x8, x9, x10, x11, x12, x13, x14, x15, x16, x17, x18, x19, x20, x21, x22, x23, x24, x25, x26, x27, x28, x29, y1, y4, y5)).bind fun r => match r with | .inl (z6, z7, z8, z9, z10, z11, z12, z13, z14, z15, z16, z17, z18, z19, z20, z21, z22, z23, z24, z25, z26, z27, z28, z29, z30, z31, z32, z33, z34, z35) => impl_nest_places_5 k g (z6, z7, z8, z9, z10, (w64 (z11 + 1)), z12, z13, z14, z15, z16, z17, z18, z19, z20, z21, z22, z23, z24, z25, z26, z27, z28, z29, z30, z31, z32, z33, z34, z35) | .inr (z36, z37, z38, z39, z40, z41, z42, z43, z44, z45, z46, z47, z48, z49) => some (.inr (z36, z37, z38, z39, z40, z41, z42, z43, z44, z45, z46, z47, z48, z49))))))) else none) else none) else some (.inl (x0, x2, x3, x4, x6, x7, x8, x9, x10, x11, x12, x13, x14, x15, x16, x17, x18, x19, x20)))
def impl_nest_places_2 (k : Nat) : Nat → Int × LLf × Int × Int × Int × Int × LPt × LFc × LVn × LLf × Int × Int × Int × Int × Int × Int × LPl × LPP × LPt → Option ((Int × Int × LPt × LFc × LVn × LLf × Int × Int × Int × Int × Int × Int × LPl × LPP) ⊕ (Int × Int × LPt × LFc × LVn × LLf × Int × Int × Int × Int × Int × Int × LPl × LPP))
 | 0, _ => none
 | g + 1, (x0, x1, x2, x3, x4, x5, x6, x7, x8, x9, x10, x11, x12, x13, x14, x15, x16, x17, x18) => (bif (decide (x3 < x2)) then (bif (decide (0 ≤ x3)) then (bif (decide (x3 < (x1.length : Int))) then ((impl_nest_places_5 k k (x0, x3, x1, x2, x3, 0, x4, x5, x6, x7, x8, x9, x10, x11, x12, x13, x14, x15, x16, x17, x18, (rd cL x1 x3).1, (rd cL x1 x3).2.1, (rd cL x1 x3).2.2.1, (rd cL x1 x3).2.2.2.1, (rd cL x1 x3).2.2.2.2.1, (rd cL x1 x3).2.2.2.2.2.1, (rd cL x1 x3).2.2.2.2.2.2.1, (rd cL x1 x3).2.2.2.2.2.2.2.1, (rd cL x1 x3).2.2.2.2.2.2.2.2)).bind fun r => match r with | .inl (z0, z1, z2, z3, z4, z5, z6, z7, z8, z9, z10, z11, z12, z13, z14, z15, z16, z17, z18) => impl_nest_places_2 k g (z0, z1, z2, (w64 (z3 + 1)), z4, z5, z6, z7, z8, z9, z10, z11, z12, z13, z14, z15, z16, z17, z18) | .inr (z19, z20, z21, z22, z23, z24, z25, z26, z27, z28, z29, z30, z31, z32) => some (.inr (z19, z20, z21, z22, z23, z24, z25, z26, z27, z28, z29, z30, z31, z32))) else none) else none) else some (.inl (x4, x5, x6, x7, x8, x9, x10, x11, x12, x13, x14, x15, x16, x17)))
def impl_nest_places (k : Nat) : Int × Int × Int × LPt × LFc × LVn × LLf × Int × Int × Int × Int × Int × Int × LPl × LPP → Option (Int × Int × LPt × LFc × LVn × LLf × Int × Int × Int × Int × Int × Int × LPl × LPP) := fun (a0, a1, a2, a3, a4, a5, a6, a7, a8, a9, a10, a11, a12, a13, a14) => ((impl_facePolygon k (a1, a2, a3, a4, a0)).bind fun y0 => ((impl_nest_places_2 k k (a0, a6, (a6.length : Int), 0, a1, a2, a3, a4, a5, a6, a7, a8, a9, a10, a11, a12, a13, a14, y0)).bind fun r => match r with | .inl (z151, z152, z153, z154, z155, z156, z157, z158, z159, z160, z161, z162, z163, z164) => some (z151, z152, z153, z154, z155, z156, z157, z158, z159, z160, z161, z162, z163, z164) | .inr (z165, z166, z167, z168, z169, z170, z171, z172, z173, z174, z175, z176, z177, z178) => some (z165, z166, z167, z168, z169, z170, z171, z172, z173, z174, z175, z176, z177, z178)))
def impl_GreedyNesting_6 (k : Nat) : Nat → Int × Int × Int × Int × LPt × LFc × LVn × LLf × Int × Int × Int × Int × Int × Int × LPl × LPP → Option ((Int × Int × LPt × LFc × LVn × LLf × Int × Int × Int × Int × Int × Int × LPl × LPP) ⊕ (Int × LPl))
 | 0, _ => none
 | g + 1, (x0, x1, x2, x3, x4, x5, x6, x7, x8, x9, x10, x11, x12, x13, x14, x15) => (bif (decide (x1 < x0)) then ((impl_nest_places k (x1, x2, x3, x4, x5, x6, x7, x8, x9, x10, x11, x12, x13, x14, x15)).bind fun (y0, y1, y2, y3, y4, y5, y6, y7, y8, y9, y10, y11, y12, y13) => (bif ((y12.length : Int) == x1) then some (.inr (3, [])) else impl_GreedyNesting_6 k g (x0, (w64 (x1 + 1)), y0, y1, y2, y3, y4, y5, y6, y7, y8, y9, y10, y11, y12, y13))) else some (.inl (x2, x3, x4, x5, x6, x7, x8, x9, x10, x11, x12, x13, x14, x15)))
def impl_GreedyNesting (k : Nat) : Int × Int × LPt × LFc × LVn × LLf × Int × Int × Int × Int × Int → Option (LPl × Int) := fun (a0, a1, a2, a3, a4, a5, a6, a7, a8, a9, a10) => ((impl_nestCode k (a0, a1, a2, a3, a4, a5, a6, a7, a8, a9, a10, 1)).bind fun y0 => (bif (y0 != 0) then some ([], y0) else ((impl_GreedyNesting_6 k k ((a4.length : Int), 0, a0, a1, a2, a3, a4, a5, a6, a7, a8, a9, a10, 0, [], [])).bind fun r => match r with | .inl (z15, z16, z17, z18, z19, z20, z21, z22, z23, z24, z25, z26, z27, z28) => some (z27, 0) | .inr (z29, z30) => some (z30, z29))))
def laws_eqPlacement (k : Nat) : Int × Int × Int × Int × Int × Int × Int × Int × Int × Int → Option (Bool) := fun (a0, a1, a2, a3, a4, a5, a6, a7, a8, a9) => (bif (a0 != a5) then some false else (bif (a1 != a6) then some false else (bif (a2 != a7) then some false else (bif (a3 != a8) then some false else (bif (a4 != a9) then some false else some true)))))
def laws_eqPlacementS_4 (k : Nat) : Nat → LPl × LPl × Int → Option ((Unit) ⊕ (Bool))
 | 0, _ => none
 | g + 1, (x0, x1, x2) => (bif (decide (x2 < (x0.length : Int))) then (bif (decide (0 ≤ x2)) then (bif (decide (x2 < (x0.length : Int))) then (bif (decide (0 ≤ x2)) then (bif (decide (x2 < (x1.length : Int))) then ((laws_eqPlacement k ((rd cQ x0 x2).1, (rd cQ x0 x2).2.1, (rd cQ x0 x2).2.2.1, (rd cQ x0 x2).2.2.2.1, (rd cQ x0 x2).2.2.2.2, (rd cQ x1 x2).1, (rd cQ x1 x2).2.1, (rd cQ x1 x2).2.2.1, (rd cQ x1 x2).2.2.2.1, (rd cQ x1 x2).2.2.2.2)).bind fun y0 => (bif (!y0) then some (.inr false) else laws_eqPlacementS_4 k g (x0, x1, (w64 (x2 + 1))))) else none) else none) else none) else none) else some (.inl ()))
def laws_eqPlacementS (k : Nat) : LPl × LPl → Option (Bool) := fun (a0, a1) => (bif ((a0.length : Int) != (a1.length : Int)) then some false else ((laws_eqPlacementS_4 k k (a0, a1, 0)).bind fun r => match r with | .inl _ => some true | .inr z1 => some z1))
def laws_eqPoint (k : Nat) : Int × Int × Int × Int → Option (Bool) := fun (a0, a1, a2, a3) => (bif (a0 != a2) then some false else (bif (a1 != a3) then some false else some true))
def laws_eqPointS_4 (k : Nat) : Nat → LPt × LPt × Int → Option ((Unit) ⊕ (Bool))
 | 0, _ => none
 | g + 1, (x0, x1, x2) => (bif (decide (x2 < (x0.length : Int))) then (bif (decide (0 ≤ x2)) then (bif (decide (x2 < (x0.length : Int))) then (bif (decide (0 ≤ x2)) then (bif (decide (x2 < (x1.length : Int))) then ((laws_eqPoint k ((rd cP x0 x2).1, (rd cP x0 x2).2, (rd cP x1 x2).1, (rd cP x1 x2).2)).bind fun y0 => (bif (!y0) then some (.inr false) else laws_eqPointS_4 k g (x0, x1, (w64 (x2 + 1))))) else none) else none) else none) else none) else some (.inl ()))
def laws_eqPointS (k : Nat) : LPt × LPt → Option (Bool) := fun (a0, a1) => (bif ((a0.length : Int) != (a1.length : Int)) then some false else ((laws_eqPointS_4 k k (a0, a1, 0)).bind fun r => match r with | .inl _ => some true | .inr z1 => some z1))
def laws_eqInt64S_4 (k : Nat) : Nat → List (Int) × List (Int) × Int → Option ((Unit) ⊕ (Bool))
 | 0, _ => none
 | g + 1, (x0, x1, x2) => (bif (decide (x2 < (x0.length : Int))) then (bif (decide (0 ≤ x2)) then (bif (decide (x2 < (x0.length : Int))) then (bif (decide (0 ≤ x2)) then (bif (decide (x2 < (x1.length : Int))) then (bif ((rd (.int .i64) x0 x2) != (rd (.int .i64) x1 x2)) then some (.inr false) else laws_eqInt64S_4 k g (x0, x1, (w64 (x2 + 1)))) else none) else none) else none) else none) else some (.inl ()))
def laws_eqInt64S (k : Nat) : List (Int) × List (Int) → Option (Bool) := fun (a0, a1) => (bif ((a0.length : Int) != (a1.length : Int)) then some false else ((laws_eqInt64S_4 k k (a0, a1, 0)).bind fun r => match r with | .inl _ => some true | .inr z0 => some z0))
def laws_eqFace (k : Nat) : ByteArray × List (Int) × ByteArray × List (Int) → Option (Bool) := fun (a0, a1, a2, a3) => (bif (!(a0.toList == a2.toList)) then some false else ((laws_eqInt64S k (a1, a3)).bind fun y0 => (bif (!y0) then some false else some true)))
def laws_eqFaceS_4 (k : Nat) : Nat → LFc × LFc × Int → Option ((Unit) ⊕ (Bool))
 | 0, _ => none
 | g + 1, (x0, x1, x2) => (bif (decide (x2 < (x0.length : Int))) then (bif (decide (0 ≤ x2)) then (bif (decide (x2 < (x0.length : Int))) then (bif (decide (0 ≤ x2)) then (bif (decide (x2 < (x1.length : Int))) then ((laws_eqFace k ((rd cF x0 x2).1, (rd cF x0 x2).2, (rd cF x1 x2).1, (rd cF x1 x2).2)).bind fun y0 => (bif (!y0) then some (.inr false) else laws_eqFaceS_4 k g (x0, x1, (w64 (x2 + 1))))) else none) else none) else none) else none) else some (.inl ()))
def laws_eqFaceS (k : Nat) : LFc × LFc → Option (Bool) := fun (a0, a1) => (bif ((a0.length : Int) != (a1.length : Int)) then some false else ((laws_eqFaceS_4 k k (a0, a1, 0)).bind fun r => match r with | .inl _ => some true | .inr z1 => some z1))
def laws_eqDrawing (k : Nat) : Int × Int × LPt × LFc × Int × Int × LPt × LFc → Option (Bool) := fun (a0, a1, a2, a3, a4, a5, a6, a7) => (bif (a0 != a4) then some false else (bif (a1 != a5) then some false else ((laws_eqPointS k (a2, a6)).bind fun y0 => (bif (!y0) then some false else ((laws_eqFaceS k (a3, a7)).bind fun y1 => (bif (!y1) then some false else some true))))))
def laws_eqVeneer (k : Nat) : ByteArray × Int × Int × ByteArray × Int × Int → Option (Bool) := fun (a0, a1, a2, a3, a4, a5) => (bif (!(a0.toList == a3.toList)) then some false else (bif (a1 != a4) then some false else (bif (a2 != a5) then some false else some true)))
def laws_eqVeneerS_4 (k : Nat) : Nat → LVn × LVn × Int → Option ((Unit) ⊕ (Bool))
 | 0, _ => none
 | g + 1, (x0, x1, x2) => (bif (decide (x2 < (x0.length : Int))) then (bif (decide (0 ≤ x2)) then (bif (decide (x2 < (x0.length : Int))) then (bif (decide (0 ≤ x2)) then (bif (decide (x2 < (x1.length : Int))) then ((laws_eqVeneer k ((rd cV x0 x2).1, (rd cV x0 x2).2.1, (rd cV x0 x2).2.2, (rd cV x1 x2).1, (rd cV x1 x2).2.1, (rd cV x1 x2).2.2)).bind fun y0 => (bif (!y0) then some (.inr false) else laws_eqVeneerS_4 k g (x0, x1, (w64 (x2 + 1))))) else none) else none) else none) else none) else some (.inl ()))
def laws_eqVeneerS (k : Nat) : LVn × LVn → Option (Bool) := fun (a0, a1) => (bif ((a0.length : Int) != (a1.length : Int)) then some false else ((laws_eqVeneerS_4 k k (a0, a1, 0)).bind fun r => match r with | .inl _ => some true | .inr z1 => some z1))
def laws_eqPicture (k : Nat) : Int × Int × LPt × LFc × LVn × Int × Int × LPt × LFc × LVn → Option (Bool) := fun (a0, a1, a2, a3, a4, a5, a6, a7, a8, a9) => ((laws_eqDrawing k (a0, a1, a2, a3, a5, a6, a7, a8)).bind fun y0 => (bif (!y0) then some false else ((laws_eqVeneerS k (a4, a9)).bind fun y1 => (bif (!y1) then some false else some true))))
def laws_eqBox (k : Nat) : Int × Int × Int × Int × Int × Int × Int × Int → Option (Bool) := fun (a0, a1, a2, a3, a4, a5, a6, a7) => (bif (a0 != a4) then some false else (bif (a1 != a5) then some false else (bif (a2 != a6) then some false else (bif (a3 != a7) then some false else some true))))
def laws_eqBoxS_4 (k : Nat) : Nat → LBx × LBx × Int → Option ((Unit) ⊕ (Bool))
 | 0, _ => none
 | g + 1, (x0, x1, x2) => (bif (decide (x2 < (x0.length : Int))) then (bif (decide (0 ≤ x2)) then (bif (decide (x2 < (x0.length : Int))) then (bif (decide (0 ≤ x2)) then (bif (decide (x2 < (x1.length : Int))) then ((laws_eqBox k ((rd cB x0 x2).1, (rd cB x0 x2).2.1, (rd cB x0 x2).2.2.1, (rd cB x0 x2).2.2.2, (rd cB x1 x2).1, (rd cB x1 x2).2.1, (rd cB x1 x2).2.2.1, (rd cB x1 x2).2.2.2)).bind fun y0 => (bif (!y0) then some (.inr false) else laws_eqBoxS_4 k g (x0, x1, (w64 (x2 + 1))))) else none) else none) else none) else none) else some (.inl ()))
def laws_eqBoxS (k : Nat) : LBx × LBx → Option (Bool) := fun (a0, a1) => (bif ((a0.length : Int) != (a1.length : Int)) then some false else ((laws_eqBoxS_4 k k (a0, a1, 0)).bind fun r => match r with | .inl _ => some true | .inr z1 => some z1))
def laws_eqLeaf (k : Nat) : ByteArray × ByteArray × Int × ByteArray × Int × Int × Int × Int × LBx × ByteArray × ByteArray × Int × ByteArray × Int × Int × Int × Int × LBx → Option (Bool) := fun (a0, a1, a2, a3, a4, a5, a6, a7, a8, a9, a10, a11, a12, a13, a14, a15, a16, a17) => (bif (!(a0.toList == a9.toList)) then some false else (bif (!(a1.toList == a10.toList)) then some false else (bif (a2 != a11) then some false else ((laws_eqVeneer k (a3, a4, a5, a12, a13, a14)).bind fun y0 => (bif (!y0) then some false else (bif (a6 != a15) then some false else (bif (a7 != a16) then some false else ((laws_eqBoxS k (a8, a17)).bind fun y1 => (bif (!y1) then some false else some true)))))))))
def laws_eqLeafS_4 (k : Nat) : Nat → LLf × LLf × Int → Option ((Unit) ⊕ (Bool))
 | 0, _ => none
 | g + 1, (x0, x1, x2) => (bif (decide (x2 < (x0.length : Int))) then (bif (decide (0 ≤ x2)) then (bif (decide (x2 < (x0.length : Int))) then (bif (decide (0 ≤ x2)) then (bif (decide (x2 < (x1.length : Int))) then ((laws_eqLeaf k ((rd cL x0 x2).1, (rd cL x0 x2).2.1, (rd cL x0 x2).2.2.1, (rd cL x0 x2).2.2.2.1, (rd cL x0 x2).2.2.2.2.1, (rd cL x0 x2).2.2.2.2.2.1, (rd cL x0 x2).2.2.2.2.2.2.1, (rd cL x0 x2).2.2.2.2.2.2.2.1, (rd cL x0 x2).2.2.2.2.2.2.2.2, (rd cL x1 x2).1, (rd cL x1 x2).2.1, (rd cL x1 x2).2.2.1, (rd cL x1 x2).2.2.2.1, (rd cL x1 x2).2.2.2.2.1, (rd cL x1 x2).2.2.2.2.2.1, (rd cL x1 x2).2.2.2.2.2.2.1, (rd cL x1 x2).2.2.2.2.2.2.2.1, (rd cL x1 x2).2.2.2.2.2.2.2.2)).bind fun y0 => (bif (!y0) then some (.inr false) else laws_eqLeafS_4 k g (x0, x1, (w64 (x2 + 1))))) else none) else none) else none) else none) else some (.inl ()))
def laws_eqLeafS (k : Nat) : LLf × LLf → Option (Bool) := fun (a0, a1) => (bif ((a0.length : Int) != (a1.length : Int)) then some false else ((laws_eqLeafS_4 k k (a0, a1, 0)).bind fun r => match r with | .inl _ => some true | .inr z1 => some z1))
def laws_markPointS_2 (k : Nat) : Nat → Int × Int × LPt → Option (Int × LPt)
 | 0, _ => none
 | g + 1, (x0, x1, x2) => (bif (decide (x1 < (x2.length : Int))) then (bif (decide (0 ≤ x1)) then (bif (decide (x1 < (x2.length : Int))) then (bif (decide (0 ≤ x1)) then (bif (decide (x1 < ((List.set x2 (Int.toNat x1) (x0, (List.getD x2 (Int.toNat x1) (dflt cP)).2)).length : Int))) then laws_markPointS_2 k g ((w64 ((w64 (x0 + 1)) + 1)), (w64 (x1 + 1)), (List.set (List.set x2 (Int.toNat x1) (x0, (List.getD x2 (Int.toNat x1) (dflt cP)).2)) (Int.toNat x1) ((List.getD (List.set x2 (Int.toNat x1) (x0, (List.getD x2 (Int.toNat x1) (dflt cP)).2)) (Int.toNat x1) (dflt cP)).1, (w64 (x0 + 1))))) else none) else none) else none) else none) else some (x0, x2))
def laws_markPointS (k : Nat) : LPt × Int → Option (Int × LPt) := fun (a0, a1) => ((laws_markPointS_2 k k (a1, 0, a0)).bind fun (z0, z1) => some (z0, z1))
def laws_markText_4 (k : Nat) : Nat → Int × ByteArray → Option (ByteArray)
 | 0, _ => none
 | g + 1, (x0, x1) => (bif (decide (x0 > 0)) then (bif (decide ((((ByteArray.mk (List.toArray (List.map (fun n => (UInt8.ofNat (Int.toNat n))) ((IntKind.wrap .u8 (w64 (48 + (Int.tmod x0 10)))) :: [])))).size + x1.size) : Int) > 9223372036854775807)) then none else laws_markText_4 k g ((w64 (Int.tdiv x0 10)), ((ByteArray.mk (List.toArray (List.map (fun n => (UInt8.ofNat (Int.toNat n))) ((IntKind.wrap .u8 (w64 (48 + (Int.tmod x0 10)))) :: [])))) ++ x1))) else some x1)
def laws_markText (k : Nat) : Int → Option (ByteArray) := fun a0 => (bif (decide (a0 ≤ 0)) then some (ByteArray.mk (List.toArray (109 :: (48 :: [])))) else ((laws_markText_4 k k (a0, (ByteArray.mk (List.toArray [])))).bind fun z0 => (bif (decide ((((ByteArray.mk (List.toArray (109 :: []))).size + z0.size) : Int) > 9223372036854775807)) then none else some ((ByteArray.mk (List.toArray (109 :: []))) ++ z0))))
def laws_markInt64S_2 (k : Nat) : Nat → Int × Int × List (Int) → Option (Int × List (Int))
 | 0, _ => none
 | g + 1, (x0, x1, x2) => (bif (decide (x1 < (x2.length : Int))) then (bif (decide (0 ≤ x1)) then (bif (decide (x1 < (x2.length : Int))) then laws_markInt64S_2 k g ((w64 (x0 + 1)), (w64 (x1 + 1)), (List.set x2 (Int.toNat x1) x0)) else none) else none) else some (x0, x2))
def laws_markInt64S (k : Nat) : List (Int) × Int → Option (Int × List (Int)) := fun (a0, a1) => ((laws_markInt64S_2 k k (a1, 0, a0)).bind fun (z0, z1) => some (z0, z1))
def laws_markFaceS_2 (k : Nat) : Nat → Int × Int × LFc → Option (Int × LFc)
 | 0, _ => none
 | g + 1, (x0, x1, x2) => (bif (decide (x1 < (x2.length : Int))) then ((laws_markText k x0).bind fun y0 => (bif (decide (0 ≤ x1)) then (bif (decide (x1 < (x2.length : Int))) then (bif (decide (0 ≤ x1)) then (bif (decide (x1 < ((List.set x2 (Int.toNat x1) (y0, (List.getD x2 (Int.toNat x1) (dflt cF)).2)).length : Int))) then ((laws_markInt64S k ((List.getD (List.set x2 (Int.toNat x1) (y0, (List.getD x2 (Int.toNat x1) (dflt cF)).2)) (Int.toNat x1) (dflt cF)).2, (w64 (x0 + 1)))).bind fun (y1, y2) => laws_markFaceS_2 k g (y1, (w64 (x1 + 1)), (List.set (List.set x2 (Int.toNat x1) (y0, (List.getD x2 (Int.toNat x1) (dflt cF)).2)) (Int.toNat x1) ((List.getD (List.set x2 (Int.toNat x1) (y0, (List.getD x2 (Int.toNat x1) (dflt cF)).2)) (Int.toNat x1) (dflt cF)).1, y2)))) else none) else none) else none) else none)) else some (x0, x2))
def laws_markFaceS (k : Nat) : LFc × Int → Option (Int × LFc) := fun (a0, a1) => ((laws_markFaceS_2 k k (a1, 0, a0)).bind fun (z3, z4) => some (z3, z4))
def laws_markDrawing (k : Nat) : Int × Int × LPt × LFc × Int → Option (Int × LPt × LFc) := fun (a0, a1, a2, a3, a4) => ((laws_markPointS k (a2, a4)).bind fun (y0, y1) => ((laws_markFaceS k (a3, y0)).bind fun (y2, y3) => some (y2, (y1, y3))))
def laws_markVeneerS_2 (k : Nat) : Nat → Int × Int × LVn → Option (Int × LVn)
 | 0, _ => none
 | g + 1, (x0, x1, x2) => (bif (decide (x1 < (x2.length : Int))) then ((laws_markText k x0).bind fun y0 => (bif (decide (0 ≤ x1)) then (bif (decide (x1 < (x2.length : Int))) then (bif (decide (0 ≤ x1)) then (bif (decide (x1 < ((List.set x2 (Int.toNat x1) (y0, ((List.getD x2 (Int.toNat x1) (dflt cV)).2.1, (List.getD x2 (Int.toNat x1) (dflt cV)).2.2))).length : Int))) then (bif (decide (0 ≤ x1)) then (bif (decide (x1 < ((List.set (List.set x2 (Int.toNat x1) (y0, ((List.getD x2 (Int.toNat x1) (dflt cV)).2.1, (List.getD x2 (Int.toNat x1) (dflt cV)).2.2))) (Int.toNat x1) ((List.getD (List.set x2 (Int.toNat x1) (y0, ((List.getD x2 (Int.toNat x1) (dflt cV)).2.1, (List.getD x2 (Int.toNat x1) (dflt cV)).2.2))) (Int.toNat x1) (dflt cV)).1, ((w64 (x0 + 1)), (List.getD (List.set x2 (Int.toNat x1) (y0, ((List.getD x2 (Int.toNat x1) (dflt cV)).2.1, (List.getD x2 (Int.toNat x1) (dflt cV)).2.2))) (Int.toNat x1) (dflt cV)).2.2))).length : Int))) then laws_markVeneerS_2 k g ((w64 ((w64 ((w64 (x0 + 1)) + 1)) + 1)), (w64 (x1 + 1)), (List.set (List.set (List.set x2 (Int.toNat x1) (y0, ((List.getD x2 (Int.toNat x1) (dflt cV)).2.1, (List.getD x2 (Int.toNat x1) (dflt cV)).2.2))) (Int.toNat x1) ((List.getD (List.set x2 (Int.toNat x1) (y0, ((List.getD x2 (Int.toNat x1) (dflt cV)).2.1, (List.getD x2 (Int.toNat x1) (dflt cV)).2.2))) (Int.toNat x1) (dflt cV)).1, ((w64 (x0 + 1)), (List.getD (List.set x2 (Int.toNat x1) (y0, ((List.getD x2 (Int.toNat x1) (dflt cV)).2.1, (List.getD x2 (Int.toNat x1) (dflt cV)).2.2))) (Int.toNat x1) (dflt cV)).2.2))) (Int.toNat x1) ((List.getD (List.set (List.set x2 (Int.toNat x1) (y0, ((List.getD x2 (Int.toNat x1) (dflt cV)).2.1, (List.getD x2 (Int.toNat x1) (dflt cV)).2.2))) (Int.toNat x1) ((List.getD (List.set x2 (Int.toNat x1) (y0, ((List.getD x2 (Int.toNat x1) (dflt cV)).2.1, (List.getD x2 (Int.toNat x1) (dflt cV)).2.2))) (Int.toNat x1) (dflt cV)).1, ((w64 (x0 + 1)), (List.getD (List.set x2 (Int.toNat x1) (y0, ((List.getD x2 (Int.toNat x1) (dflt cV)).2.1, (List.getD x2 (Int.toNat x1) (dflt cV)).2.2))) (Int.toNat x1) (dflt cV)).2.2))) (Int.toNat x1) (dflt cV)).1, ((List.getD (List.set (List.set x2 (Int.toNat x1) (y0, ((List.getD x2 (Int.toNat x1) (dflt cV)).2.1, (List.getD x2 (Int.toNat x1) (dflt cV)).2.2))) (Int.toNat x1) ((List.getD (List.set x2 (Int.toNat x1) (y0, ((List.getD x2 (Int.toNat x1) (dflt cV)).2.1, (List.getD x2 (Int.toNat x1) (dflt cV)).2.2))) (Int.toNat x1) (dflt cV)).1, ((w64 (x0 + 1)), (List.getD (List.set x2 (Int.toNat x1) (y0, ((List.getD x2 (Int.toNat x1) (dflt cV)).2.1, (List.getD x2 (Int.toNat x1) (dflt cV)).2.2))) (Int.toNat x1) (dflt cV)).2.2))) (Int.toNat x1) (dflt cV)).2.1, (w64 ((w64 (x0 + 1)) + 1)))))) else none) else none) else none) else none) else none) else none)) else some (x0, x2))
def laws_markVeneerS (k : Nat) : LVn × Int → Option (Int × LVn) := fun (a0, a1) => ((laws_markVeneerS_2 k k (a1, 0, a0)).bind fun (z1, z2) => some (z1, z2))
def laws_markPicture (k : Nat) : Int × Int × LPt × LFc × LVn × Int → Option (Int × LPt × LFc × LVn) := fun (a0, a1, a2, a3, a4, a5) => ((laws_markDrawing k (a0, a1, a2, a3, a5)).bind fun (y0, y1, y2) => ((laws_markVeneerS k (a4, y0)).bind fun (y3, y4) => some (y3, (y1, (y2, y4)))))
def laws_markBoxS_2 (k : Nat) : Nat → Int × Int × LBx → Option (Int × LBx)
 | 0, _ => none
 | g + 1, (x0, x1, x2) => (bif (decide (x1 < (x2.length : Int))) then (bif (decide (0 ≤ x1)) then (bif (decide (x1 < (x2.length : Int))) then (bif (decide (0 ≤ x1)) then (bif (decide (x1 < ((List.modify x2 (Int.toNat x1) (fun z => (x0, (z.2.1, (z.2.2.1, z.2.2.2))))).length : Int))) then (bif (decide (0 ≤ x1)) then (bif (decide (x1 < ((List.modify (List.modify x2 (Int.toNat x1) (fun z => (x0, (z.2.1, (z.2.2.1, z.2.2.2))))) (Int.toNat x1) (fun z => (z.1, ((w64 (x0 + 1)), (z.2.2.1, z.2.2.2))))).length : Int))) then (bif (decide (0 ≤ x1)) then (bif (decide (x1 < ((List.modify (List.modify (List.modify x2 (Int.toNat x1) (fun z => (x0, (z.2.1, (z.2.2.1, z.2.2.2))))) (Int.toNat x1) (fun z => (z.1, ((w64 (x0 + 1)), (z.2.2.1, z.2.2.2))))) (Int.toNat x1) (fun z => (z.1, (z.2.1, ((w64 ((w64 (x0 + 1)) + 1)), z.2.2.2))))).length : Int))) then laws_markBoxS_2 k g ((w64 ((w64 ((w64 ((w64 (x0 + 1)) + 1)) + 1)) + 1)), (w64 (x1 + 1)), (List.modify (List.modify (List.modify (List.modify x2 (Int.toNat x1) (fun z => (x0, (z.2.1, (z.2.2.1, z.2.2.2))))) (Int.toNat x1) (fun z => (z.1, ((w64 (x0 + 1)), (z.2.2.1, z.2.2.2))))) (Int.toNat x1) (fun z => (z.1, (z.2.1, ((w64 ((w64 (x0 + 1)) + 1)), z.2.2.2))))) (Int.toNat x1) (fun z => (z.1, (z.2.1, (z.2.2.1, (w64 ((w64 ((w64 (x0 + 1)) + 1)) + 1)))))))) else none) else none) else none) else none) else none) else none) else none) else none) else some (x0, x2))
def laws_markBoxS (k : Nat) : LBx × Int → Option (Int × LBx) := fun (a0, a1) => ((laws_markBoxS_2 k k (a1, 0, a0)).bind fun (z0, z1) => some (z0, z1))
def laws_markLeafS_2 (k : Nat) : Nat → Int × Int × LLf → Option (Int × LLf)
 | 0, _ => none
 | g + 1, (x0, x1, x2) => (bif (decide (x1 < (x2.length : Int))) then ((laws_markText k x0).bind fun y0 => (bif (decide (0 ≤ x1)) then (bif (decide (x1 < (x2.length : Int))) then ((laws_markText k (w64 (x0 + 1))).bind fun y1 => (bif (decide (0 ≤ x1)) then (bif (decide (x1 < ((List.modify x2 (Int.toNat x1) (fun z => (y0, (z.2.1, (z.2.2.1, (z.2.2.2.1, (z.2.2.2.2.1, (z.2.2.2.2.2.1, (z.2.2.2.2.2.2.1, (z.2.2.2.2.2.2.2.1, z.2.2.2.2.2.2.2.2)))))))))).length : Int))) then (bif (decide (0 ≤ x1)) then (bif (decide (x1 < ((List.modify (List.modify x2 (Int.toNat x1) (fun z => (y0, (z.2.1, (z.2.2.1, (z.2.2.2.1, (z.2.2.2.2.1, (z.2.2.2.2.2.1, (z.2.2.2.2.2.2.1, (z.2.2.2.2.2.2.2.1, z.2.2.2.2.2.2.2.2)))))))))) (Int.toNat x1) (fun z => (z.1, (y1, (z.2.2.1, (z.2.2.2.1, (z.2.2.2.2.1, (z.2.2.2.2.2.1, (z.2.2.2.2.2.2.1, (z.2.2.2.2.2.2.2.1, z.2.2.2.2.2.2.2.2)))))))))).length : Int))) then ((laws_markText k (w64 ((w64 ((w64 (x0 + 1)) + 1)) + 1))).bind fun y2 => (bif (decide (0 ≤ x1)) then (bif (decide (x1 < ((List.modify (List.modify (List.modify x2 (Int.toNat x1) (fun z => (y0, (z.2.1, (z.2.2.1, (z.2.2.2.1, (z.2.2.2.2.1, (z.2.2.2.2.2.1, (z.2.2.2.2.2.2.1, (z.2.2.2.2.2.2.2.1, z.2.2.2.2.2.2.2.2)))))))))) (Int.toNat x1) (fun z => (z.1, (y1, (z.2.2.1, (z.2.2.2.1, (z.2.2.2.2.1, (z.2.2.2.2.2.1, (z.2.2.2.2.2.2.1, (z.2.2.2.2.2.2.2.1, z.2.2.2.2.2.2.2.2)))))))))) (Int.toNat x1) (fun z => (z.1, (z.2.1, ((w64 ((w64 (x0 + 1)) + 1)), (z.2.2.2.1, (z.2.2.2.2.1, (z.2.2.2.2.2.1, (z.2.2.2.2.2.2.1, (z.2.2.2.2.2.2.2.1, z.2.2.2.2.2.2.2.2)))))))))).length : Int))) then (bif (decide (0 ≤ x1)) then (bif (decide (x1 < ((List.modify (List.modify (List.modify (List.modify x2 (Int.toNat x1) (fun z => (y0, (z.2.1, (z.2.2.1, (z.2.2.2.1, (z.2.2.2.2.1, (z.2.2.2.2.2.1, (z.2.2.2.2.2.2.1, (z.2.2.2.2.2.2.2.1, z.2.2.2.2.2.2.2.2)))))))))) (Int.toNat x1) (fun z => (z.1, (y1, (z.2.2.1, (z.2.2.2.1, (z.2.2.2.2.1, (z.2.2.2.2.2.1, (z.2.2.2.2.2.2.1, (z.2.2.2.2.2.2.2.1, z.2.2.2.2.2.2.2.2)))))))))) (Int.toNat x1) (fun z => (z.1, (z.2.1, ((w64 ((w64 (x0 + 1)) + 1)), (z.2.2.2.1, (z.2.2.2.2.1, (z.2.2.2.2.2.1, (z.2.2.2.2.2.2.1, (z.2.2.2.2.2.2.2.1, z.2.2.2.2.2.2.2.2)))))))))) (Int.toNat x1) (fun z => (z.1, (z.2.1, (z.2.2.1, (y2, (z.2.2.2.2.1, (z.2.2.2.2.2.1, (z.2.2.2.2.2.2.1, (z.2.2.2.2.2.2.2.1, z.2.2.2.2.2.2.2.2)))))))))).length : Int))) then (bif (decide (0 ≤ x1)) then (bif (decide (x1 < ((List.modify (List.modify (List.modify (List.modify (List.modify x2 (Int.toNat x1) (fun z => (y0, (z.2.1, (z.2.2.1, (z.2.2.2.1, (z.2.2.2.2.1, (z.2.2.2.2.2.1, (z.2.2.2.2.2.2.1, (z.2.2.2.2.2.2.2.1, z.2.2.2.2.2.2.2.2)))))))))) (Int.toNat x1) (fun z => (z.1, (y1, (z.2.2.1, (z.2.2.2.1, (z.2.2.2.2.1, (z.2.2.2.2.2.1, (z.2.2.2.2.2.2.1, (z.2.2.2.2.2.2.2.1, z.2.2.2.2.2.2.2.2)))))))))) (Int.toNat x1) (fun z => (z.1, (z.2.1, ((w64 ((w64 (x0 + 1)) + 1)), (z.2.2.2.1, (z.2.2.2.2.1, (z.2.2.2.2.2.1, (z.2.2.2.2.2.2.1, (z.2.2.2.2.2.2.2.1, z.2.2.2.2.2.2.2.2)))))))))) (Int.toNat x1) (fun z => (z.1, (z.2.1, (z.2.2.1, (y2, (z.2.2.2.2.1, (z.2.2.2.2.2.1, (z.2.2.2.2.2.2.1, (z.2.2.2.2.2.2.2.1, z.2.2.2.2.2.2.2.2)))))))))) (Int.toNat x1) (fun z => (z.1, (z.2.1, (z.2.2.1, (z.2.2.2.1, ((w64 ((w64 ((w64 ((w64 (x0 + 1)) + 1)) + 1)) + 1)), (z.2.2.2.2.2.1, (z.2.2.2.2.2.2.1, (z.2.2.2.2.2.2.2.1, z.2.2.2.2.2.2.2.2)))))))))).length : Int))) then (bif (decide (0 ≤ x1)) then (bif (decide (x1 < ((List.modify (List.modify (List.modify (List.modify (List.modify (List.modify x2 (Int.toNat x1) (fun z => (y0, (z.2.1, (z.2.2.1, (z.2.2.2.1, (z.2.2.2.2.1, (z.2.2.2.2.2.1, (z.2.2.2.2.2.2.1, (z.2.2.2.2.2.2.2.1, z.2.2.2.2.2.2.2.2)))))))))) (Int.toNat x1) (fun z => (z.1, (y1, (z.2.2.1, (z.2.2.2.1, (z.2.2.2.2.1, (z.2.2.2.2.2.1, (z.2.2.2.2.2.2.1, (z.2.2.2.2.2.2.2.1, z.2.2.2.2.2.2.2.2)))))))))) (Int.toNat x1) (fun z => (z.1, (z.2.1, ((w64 ((w64 (x0 + 1)) + 1)), (z.2.2.2.1, (z.2.2.2.2.1, (z.2.2.2.2.2.1, (z.2.2.2.2.2.2.1, (z.2.2.2.2.2.2.2.1, z.2.2.2.2.2.2.2.2)))))))))) (Int.toNat x1) (fun z => (z.1, (z.2.1, (z.2.2.1, (y2, (z.2.2.2.2.1, (z.2.2.2.2.2.1, (z.2.2.2.2.2.2.1, (z.2.2.2.2.2.2.2.1, z.2.2.2.2.2.2.2.2)))))))))) (Int.toNat x1) (fun z => (z.1, (z.2.1, (z.2.2.1, (z.2.2.2.1, ((w64 ((w64 ((w64 ((w64 (x0 + 1)) + 1)) + 1)) + 1)), (z.2.2.2.2.2.1, (z.2.2.2.2.2.2.1, (z.2.2.2.2.2.2.2.1, z.2.2.2.2.2.2.2.2)))))))))) (Int.toNat x1) (fun z => (z.1, (z.2.1, (z.2.2.1, (z.2.2.2.1, (z.2.2.2.2.1, ((w64 ((w64 ((w64 ((w64 ((w64 (x0 + 1)) + 1)) + 1)) + 1)) + 1)), (z.2.2.2.2.2.2.1, (z.2.2.2.2.2.2.2.1, z.2.2.2.2.2.2.2.2)))))))))).length : Int))) then (bif (decide (0 ≤ x1)) then (bif (decide (x1 < ((List.modify (List.modify (List.modify (List.modify (List.modify (List.modify (List.modify x2 (Int.toNat x1) (fun z => (y0, (z.2.1, (z.2.2.1, (z.2.2.2.1, (z.2.2.2.2.1, (z.2.2.2.2.2.1, (z.2.2.2.2.2.2.1, (z.2.2.2.2.2.2.2.1, z.2.2.2.2.2.2.2.2)))))))))) (Int.toNat x1) (fun z => (z.1, (y1, (z.2.2.1, (z.2.2.2.1, (z.2.2.2.2.1, (z.2.2.2.2.2.1, (z.2.2.2.2.2.2.1, (z.2.2.2.2.2.2.2.1, z.2.2.2.2.2.2.2.2)))))))))) (Int.toNat x1) (fun z => (z.1, (z.2.1, ((w64 ((w64 (x0 + 1)) + 1)), (z.2.2.2.1, (z.2.2.2.2.1, (z.2.2.2.2.2.1, (z.2.2.2.2.2.2.1, (z.2.2.2.2.2.2.2.1, z.2.2.2.2.2.2.2.2)))))))))) (Int.toNat x1) (fun z => (z.1, (z.2.1, (z.2.2.1, (y2, (z.2.2.2.2.1, (z.2.2.2.2.2.1, (z.2.2.2.2.2.2.1, (z.2.2.2.2.2.2.2.1, z.2.2.2.2.2.2.2.2)))))))))) (Int.toNat x1) (fun z => (z.1, (z.2.1, (z.2.2.1, (z.2.2.2.1, ((w64 ((w64 ((w64 ((w64 (x0 + 1)) + 1)) + 1)) + 1)), (z.2.2.2.2.2.1, (z.2.2.2.2.2.2.1, (z.2.2.2.2.2.2.2.1, z.2.2.2.2.2.2.2.2)))))))))) (Int.toNat x1) (fun z => (z.1, (z.2.1, (z.2.2.1, (z.2.2.2.1, (z.2.2.2.2.1, ((w64 ((w64 ((w64 ((w64 ((w64 (x0 + 1)) + 1)) + 1)) + 1)) + 1)), (z.2.2.2.2.2.2.1, (z.2.2.2.2.2.2.2.1, z.2.2.2.2.2.2.2.2)))))))))) (Int.toNat x1) (fun z => (z.1, (z.2.1, (z.2.2.1, (z.2.2.2.1, (z.2.2.2.2.1, (z.2.2.2.2.2.1, ((w64 ((w64 ((w64 ((w64 ((w64 ((w64 (x0 + 1)) + 1)) + 1)) + 1)) + 1)) + 1)), (z.2.2.2.2.2.2.2.1, z.2.2.2.2.2.2.2.2)))))))))).length : Int))) then (bif (decide (0 ≤ x1)) then (bif (decide (x1 < ((List.modify (List.modify (List.modify (List.modify (List.modify (List.modify (List.modify (List.modify x2 (Int.toNat x1) (fun z => (y0, (z.2.1, (z.2.2.1, (z.2.2.2.1, (z.2.2.2.2.1, (z.2.2.2.2.2.1, (z.2.2.2.2.2.2.1, (z.2.2.2.2.2.2.2.1, z.2.2.2.2.2.2.2.2)))))))))) (Int.toNat x1) (fun z => (z.1, (y1, (z.2.2.1, (z.2.2.2.1, (z.2.2.2.2.1, (z.2.2.2.2.2.1, (z.2.2.2.2.2.2.1, (z.2.2.2.2.2.2.2.1, z.2.2.2.2.2.2.2.2)))))))))) (Int.toNat x1) (fun z => (z.1, (z.2.1, ((w64 ((w64 (x0 + 1)) + 1)), (z.2.2.2.1, (z.2.2.2.2.1, (z.2.2.2.2.2.1, (z.2.2.2.2.2.2.1, (z.2.2.2.2.2.2.2.1, z.2.2.2.2.2.2.2.2)))))))))) (Int.toNat x1) (fun z => (z.1, (z.2.1, (z.2.2.1, (y2, (z.2.2.2.2.1, (z.2.2.2.2.2.1, (z.2.2.2.2.2.2.1, (z.2.2.2.2.2.2.2.1, z.2.2.2.2.2.2.2.2)))))))))) (Int.toNat x1) (fun z => (z.1, (z.2.1, (z.2.2.1, (z.2.2.2.1, ((w64 ((w64 ((w64 ((w64 (x0 + 1)) + 1)) + 1)) + 1)), (z.2.2.2.2.2.1, (z.2.2.2.2.2.2.1, (z.2.2.2.2.2.2.2.1, z.2.2.2.2.2.2.2.2)))))))))) (Int.toNat x1) (fun z => (z.1, (z.2.1, (z.2.2.1, (z.2.2.2.1, (z.2.2.2.2.1, ((w64 ((w64 ((w64 ((w64 ((w64 (x0 + 1)) + 1)) + 1)) + 1)) + 1)), (z.2.2.2.2.2.2.1, (z.2.2.2.2.2.2.2.1, z.2.2.2.2.2.2.2.2)))))))))) (Int.toNat x1) (fun z => (z.1, (z.2.1, (z.2.2.1, (z.2.2.2.1, (z.2.2.2.2.1, (z.2.2.2.2.2.1, ((w64 ((w64 ((w64 ((w64 ((w64 ((w64 (x0 + 1)) + 1)) + 1)) + 1)) + 1)) + 1)), (z.2.2.2.2.2.2.2.1, z.2.2.2.2.2.2.2.2)))))))))) (Int.toNat x1) (fun z => (z.1, (z.2.1, (z.2.2.1, (z.2.2.2.1, (z.2.2.2.2.1, (z.2.2.2.2.2.1, (z.2.2.2.2.2.2.1, ((w64 ((w64 ((w64 ((w64 ((w64 ((w64 ((w64 (x0 + 1)) + 1)) + 1)) + 1)) + 1)) + 1)) + 1)), z.2.2.2.2.2.2.2.2)))))))))).length : Int))) then ((laws_markBoxS k ((List.getD (List.modify (List.modify (List.modify (List.modify (List.modify (List.modify (List.modify (List.modify x2 (Int.toNat x1) (fun z => (y0, (z.2.1, (z.2.2.1, (z.2.2.2.1, (z.2.2.2.2.1, (z.2.2.2.2.2.1, (z.2.2.2.2.2.2.1, (z.2.2.2.2.2.2.2.1, z.2.2.2.2.2.2.2.2)))))))))) (Int.toNat x1) (fun z => (z.1, (y1, (z.2.2.1, (z.2.2.2.1, (z.2.2.2.2.1, (z.2.2.2.2.2.1, (z.2.2.2.2.2.2.1, (z.2.2.2.2.2.2.2.1, z.2.2.2.2.2.2.2.2)))))))))) (Int.toNat x1) (fun z => (z.1, (z.2.1, ((w64 ((w64 (x0 + 1)) + 1)), (z.2.2.2.1, (z.2.2.2.2.1, (z.2.2.2.2.2.1, (z.2.2.2.2.2.2.1, (z.2.2.2.2.2.2.2.1, z.2.2.2.2.2.2.2.2)))))))))) (Int.toNat x1) (fun z => (z.1, (z.2.1, (z.2.2.1, (y2, (z.2.2.2.2.1, (z.2.2.2.2.2.1, (z.2.2.2.2.2.2.1, (z.2.2.2.2.2.2.2.1, z.2.2.2.2.2.2.2.2)))))))))) (Int.toNat x1) (fun z => (z.1, (z.2.1, (z.2.2.1, (z.2.2.2.1, ((w64 ((w64 ((w64 ((w64 (x0 + 1)) + 1)) + 1)) + 1)), (z.2.2.2.2.2.1, (z.2.2.2.2.2.2.1, (z.2.2.2.2.2.2.2.1, z.2.2.2.2.2.2.2.2)))))))))) (Int.toNat x1) (fun z => (z.1, (z.2.1, (z.2.2.1, (z.2.2.2.1, (z.2.2.2.2.1, ((w64 ((w64 ((w64 ((w64 ((w64 (x0 + 1)) + 1)) + 1)) + 1)) + 1)), (z.2.2.2.2.2.2.1, (z.2.2.2.2.2.2.2.1, z.2.2.2.2.2.2.2.2)))))))))) (Int.toNat x1) (fun z => (z.1, (z.2.1, (z.2.2.1, (z.2.2.2.1, (z.2.2.2.2.1, (z.2.2.2.2.2.1, ((w64 ((w64 ((w64 ((w64 ((w64 ((w64 (x0 + 1)) + 1)) + 1)) + 1)) + 1)) + 1)), (z.2.2.2.2.2.2.2.1, z.2.2.2.2.2.2.2.2)))))))))) (Int.toNat x1) (fun z => (z.1, (z.2.1, (z.2.2.1, (z.2.2.2.1, (z.2.2.2.2.1, (z.2.2.2.2.2.1, (z.2.2.2.2.2.2.1, ((w64 ((w64 ((w64 ((w64 ((w64 ((w64 ((w64 (x0 + 1)) + 1)) + 1)) + 1)) + 1)) + 1)) + 1)), z.2.2.2.2.2.2.2.2)))))))))) (Int.toNat x1) (dflt cL)).2.2.2.2.2.2.2.2, (w64 ((w64 ((w64 ((w64 ((w64 ((w64 ((w64 ((w64 (x0 + 1)) + 1)) + 1)) + 1)) + 1)) + 1)) + 1)) + 1)))).bind fun (y3, y4) => laws_markLeafS_2 k g (y3, (w64 (x1 + 1)), (List.modify (List.modify (List.modify (List.modify (List.modify (List.modify (List.modify (List.modify (List.modify x2 (Int.toNat x1) (fun z => (y0, (z.2.1, (z.2.2.1, (z.2.2.2.1, (z.2.2.2.2.1, (z.2.2.2.2.2.1, (z.2.2.2.2.2.2.1, (z.2.2.2.2.2.2.2.1, z.2.2.2.2.2.2.2.2)))))))))) (Int.toNat x1) (fun z => (z.1, (y1, (z.2.2.1, (z.2.2.2.1, (z.2.2.2.2.1, (z.2.2.2.2.2.1, (z.2.2.2.2.2.2.1, (z.2.2.2.2.2.2.2.1, z.2.2.2.2.2.2.2.2)))))))))) (Int.toNat x1) (fun z => (z.1, (z.2.1, ((w64 ((w64 (x0 + 1)) + 1)), (z.2.2.2.1, (z.2.2.2.2.1, (z.2.2.2.2.2.1, (z.2.2.2.2.2.2.1, (z.2.2.2.2.2.2.2.1, z.2.2.2.2.2.2.2.2)))))))))) (Int.toNat x1) (fun z => (z.1, (z.2.1, (z.2.2.1, (y2, (z.2.2.2.2.1, (z.2.2.2.2.2.1, (z.2.2.2.2.2.2.1, (z.2.2.2.2.2.2.2.1, z.2.2.2.2.2.2.2.2)))))))))) (Int.toNat x1) (fun z => (z.1, (z.2.1, (z.2.2.1, (z.2.2.2.1, ((w64 ((w64 ((w64 ((w64 (x0 + 1)) + 1)) + 1)) + 1)), (z.2.2.2.2.2.1, (z.2.2.2.2.2.2.1, (z.2.2.2.2.2.2.2.1, z.2.2.2.2.2.2.2.2)))))))))) (Int.toNat x1) (fun z => (z.1, (z.2.1, (z.2.2.1, (z.2.2.2.1, (z.2.2.2.2.1, ((w64 ((w64 ((w64 ((w64 ((w64 (x0 + 1)) + 1)) + 1)) + 1)) + 1)), (z.2.2.2.2.2.2.1, (z.2.2.2.2.2.2.2.1, z.2.2.2.2.2.2.2.2)))))))))) (Int.toNat x1) (fun z => (z.1, (z.2.1, (z.2.2.1, (z.2.2.2.1, (z.2.2.2.2.1, (z.2.2.2.2.2.1, ((w64 ((w64 ((w64 ((w64 ((w64 ((w64 (x0 + 1)) + 1)) + 1)) + 1)) + 1)) + 1)), (z.2.2.2.2.2.2.2.1, z.2.2.2.2.2.2.2.2)))))))))) (Int.toNat x1) (fun z => (z.1, (z.2.1, (z.2.2.1, (z.2.2.2.1, (z.2.2.2.2.1, (z.2.2.2.2.2.1, (z.2.2.2.2.2.2.1, ((w64 ((w64 ((w64 ((w64 ((w64 ((w64 ((w64 (x0 + 1)) + 1)) + 1)) + 1)) + 1)) + 1)) + 1)), z.2.2.2.2.2.2.2.2)))))))))) (Int.toNat x1) (fun z => (z.1, (z.2.1, (z.2.2.1, (z.2.2.2.1, (z.2.2.2.2.1, (z.2.2.2.2.2.1, (z.2.2.2.2.2.2.1, (z.2.2.2.2.2.2.2.1, y4)))))))))))) else none) else none) else none) else none) else none) else none) else none) else none) else none) else none) else none) else none)) else none) else none) else none) else none)) else none) else none)) else some (x0, x2))
def laws_markLeafS (k : Nat) : LLf × Int → Option (Int × LLf) := fun (a0, a1) => ((laws_markLeafS_2 k k (a1, 0, a0)).bind fun (z5, z6) => some (z5, z6))
def laws_markPlacementS_2 (k : Nat) : Nat → Int × Int × LPl → Option (Int × LPl)
 | 0, _ => none
 | g + 1, (x0, x1, x2) => (bif (decide (x1 < (x2.length : Int))) then (bif (decide (0 ≤ x1)) then (bif (decide (x1 < (x2.length : Int))) then (bif (decide (0 ≤ x1)) then (bif (decide (x1 < ((List.modify x2 (Int.toNat x1) (fun z => (x0, (z.2.1, (z.2.2.1, (z.2.2.2.1, z.2.2.2.2)))))).length : Int))) then (bif (decide (0 ≤ x1)) then (bif (decide (x1 < ((List.modify (List.modify x2 (Int.toNat x1) (fun z => (x0, (z.2.1, (z.2.2.1, (z.2.2.2.1, z.2.2.2.2)))))) (Int.toNat x1) (fun z => (z.1, ((w64 (x0 + 1)), (z.2.2.1, (z.2.2.2.1, z.2.2.2.2)))))).length : Int))) then (bif (decide (0 ≤ x1)) then (bif (decide (x1 < ((List.modify (List.modify (List.modify x2 (Int.toNat x1) (fun z => (x0, (z.2.1, (z.2.2.1, (z.2.2.2.1, z.2.2.2.2)))))) (Int.toNat x1) (fun z => (z.1, ((w64 (x0 + 1)), (z.2.2.1, (z.2.2.2.1, z.2.2.2.2)))))) (Int.toNat x1) (fun z => (z.1, (z.2.1, ((w64 ((w64 (x0 + 1)) + 1)), (z.2.2.2.1, z.2.2.2.2)))))).length : Int))) then (bif (decide (0 ≤ x1)) then (bif (decide (x1 < ((List.modify (List.modify (List.modify (List.modify x2 (Int.toNat x1) (fun z => (x0, (z.2.1, (z.2.2.1, (z.2.2.2.1, z.2.2.2.2)))))) (Int.toNat x1) (fun z => (z.1, ((w64 (x0 + 1)), (z.2.2.1, (z.2.2.2.1, z.2.2.2.2)))))) (Int.toNat x1) (fun z => (z.1, (z.2.1, ((w64 ((w64 (x0 + 1)) + 1)), (z.2.2.2.1, z.2.2.2.2)))))) (Int.toNat x1) (fun z => (z.1, (z.2.1, (z.2.2.1, ((w64 ((w64 ((w64 (x0 + 1)) + 1)) + 1)), z.2.2.2.2)))))).length : Int))) then laws_markPlacementS_2 k g ((w64 ((w64 ((w64 ((w64 ((w64 (x0 + 1)) + 1)) + 1)) + 1)) + 1)), (w64 (x1 + 1)), (List.modify (List.modify (List.modify (List.modify (List.modify x2 (Int.toNat x1) (fun z => (x0, (z.2.1, (z.2.2.1, (z.2.2.2.1, z.2.2.2.2)))))) (Int.toNat x1) (fun z => (z.1, ((w64 (x0 + 1)), (z.2.2.1, (z.2.2.2.1, z.2.2.2.2)))))) (Int.toNat x1) (fun z => (z.1, (z.2.1, ((w64 ((w64 (x0 + 1)) + 1)), (z.2.2.2.1, z.2.2.2.2)))))) (Int.toNat x1) (fun z => (z.1, (z.2.1, (z.2.2.1, ((w64 ((w64 ((w64 (x0 + 1)) + 1)) + 1)), z.2.2.2.2)))))) (Int.toNat x1) (fun z => (z.1, (z.2.1, (z.2.2.1, (z.2.2.2.1, (w64 ((w64 ((w64 ((w64 (x0 + 1)) + 1)) + 1)) + 1))))))))) else none) else none) else none) else none) else none) else none) else none) else none) else none) else none) else some (x0, x2))
def laws_markPlacementS (k : Nat) : LPl × Int → Option (Int × LPl) := fun (a0, a1) => ((laws_markPlacementS_2 k k (a1, 0, a0)).bind fun (z0, z1) => some (z0, z1))
def laws_heldPlacementS_2 (k : Nat) : Nat → LPl × Int × Int → Option ((Int) ⊕ (Int))
 | 0, _ => none
 | g + 1, (x0, x1, x2) => (bif (decide (x2 < (x0.length : Int))) then (bif (decide (0 ≤ x2)) then (bif (decide (x2 < (x0.length : Int))) then (bif ((rd cQ x0 x2).1 != x1) then some (.inr (-1)) else (bif (decide (0 ≤ x2)) then (bif (decide (x2 < (x0.length : Int))) then (bif ((rd cQ x0 x2).2.1 != (w64 (x1 + 1))) then some (.inr (-1)) else (bif (decide (0 ≤ x2)) then (bif (decide (x2 < (x0.length : Int))) then (bif ((rd cQ x0 x2).2.2.1 != (w64 ((w64 (x1 + 1)) + 1))) then some (.inr (-1)) else (bif (decide (0 ≤ x2)) then (bif (decide (x2 < (x0.length : Int))) then (bif ((rd cQ x0 x2).2.2.2.1 != (w64 ((w64 ((w64 (x1 + 1)) + 1)) + 1))) then some (.inr (-1)) else (bif (decide (0 ≤ x2)) then (bif (decide (x2 < (x0.length : Int))) then (bif ((rd cQ x0 x2).2.2.2.2 != (w64 ((w64 ((w64 ((w64 (x1 + 1)) + 1)) + 1)) + 1))) then some (.inr (-1)) else laws_heldPlacementS_2 k g (x0, (w64 ((w64 ((w64 ((w64 ((w64 (x1 + 1)) + 1)) + 1)) + 1)) + 1)), (w64 (x2 + 1)))) else none) else none)) else none) else none)) else none) else none)) else none) else none)) else none) else none) else some (.inl x1))
def laws_heldPlacementS (k : Nat) : LPl × Int → Option (Int) := fun (a0, a1) => ((laws_heldPlacementS_2 k k (a0, a1, 0)).bind fun r => match r with | .inl z0 => some z0 | .inr z1 => some z1)
def laws_FnExactGreedyNesting (k : Nat) : Int × Int × LPt × LFc × LVn × LLf × Int × Int × Int × Int × Int → Option (Bool) := fun (a0, a1, a2, a3, a4, a5, a6, a7, a8, a9, a10) => ((laws_szPicture k (a0, a1, a2, a3, a4, 1048576)).bind fun y0 => (bif (decide (y0 < 0)) then some true else ((laws_szLeafS k (a5, y0)).bind fun y1 => (bif (decide (y1 < 0)) then some true else ((laws_toPicture k (a0, a1, a2, a3, a4)).bind fun (y2, y3, y4, y5, y6) => ((laws_toLeafS k a5).bind fun y7 => ((laws_toRules k (a6, a7, a8, a9)).bind fun (y8, y9, y10, y11) => ((spec_GreedyNesting k (y2, y3, y4, y5, y6, y7, y8, y9, y10, y11, a10)).bind fun (y12, y13) => ((laws_toPicture k (a0, a1, a2, a3, a4)).bind fun (y14, y15, y16, y17, y18) => ((laws_toLeafS k a5).bind fun y19 => ((laws_toRules k (a6, a7, a8, a9)).bind fun (y20, y21, y22, y23) => ((impl_GreedyNesting k (y14, y15, y16, y17, y18, y19, y20, y21, y22, y23, a10)).bind fun (y24, y25) => ((((laws_eqPlacementS k (y24, y12)).bind fun y26 => (bif (!y26) then some true else some (y25 != y13))) : Option (Bool)).bind fun b27 => (bif b27 then some false else ((laws_toPicture k (a0, a1, a2, a3, a4)).bind fun (y28, y29, y30, y31, y32) => ((laws_eqPicture k (y14, y15, y16, y17, y18, y28, y29, y30, y31, y32)).bind fun y33 => (bif (!y33) then some false else ((laws_toLeafS k a5).bind fun y34 => ((laws_eqLeafS k (y19, y34)).bind fun y35 => (bif (!y35) then some false else ((laws_markPicture k (y14, y15, y16, y17, y18, 1)).bind fun (y36, y37, y38, y39) => ((laws_markLeafS k (y19, y36)).bind fun (y40, y41) => (((bif (decide (y40 < 0)) then some true else ((laws_eqPlacementS k (y24, y12)).bind fun y42 => (bif (!y42) then some true else some (y25 != y13)))) : Option (Bool)).bind fun b43 => (bif b43 then some false else ((laws_markPlacementS k (y24, 1)).bind fun (y44, y45) => ((laws_heldPlacementS k (y45, 1)).bind fun y46 => (bif (decide (y46 < 0)) then some false else (bif (y46 != y44) then some false else ((laws_toPicture k (a0, a1, a2, a3, a4)).bind fun (y47, y48, y49, y50, y51) => ((laws_toLeafS k a5).bind fun y52 => ((laws_toRules k (a6, a7, a8, a9)).bind fun (y53, y54, y55, y56) => ((impl_GreedyNesting k (y47, y48, y49, y50, y51, y52, y53, y54, y55, y56, a10)).bind fun (y57, y58) => ((((laws_eqPlacementS k (y57, y12)).bind fun y59 => (bif (!y59) then some true else some (y58 != y13))) : Option (Bool)).bind fun b60 => (bif b60 then some false else ((laws_heldPlacementS k (y45, 1)).bind fun y61 => (bif (decide (y61 < 0)) then some false else (bif (y61 != y44) then some false else some true)))))))))))))))))))))))))))))))))))))
def I40 : FunI := ⟨[.c (.h), .c (.h)], [.sl cP, .int .i64], .c (.h), [.int .i64], 0⟩
def I108 : FunI := ⟨[.c (.h), .c (.h)], [.sl (.int .i64), .int .i64], .c (.h), [.int .i64], 0⟩
def I76 : FunI := ⟨[.agg [.h, .h], .c (.h)], [.str, .sl (.int .i64), .int .i64], .c (.h), [.int .i64], 0⟩
def I41 : FunI := ⟨[.c (.h), .c (.h)], [.sl cF, .int .i64], .c (.h), [.int .i64], 0⟩
abbrev CS41_5 : List CT := [.sl cF, .int .i64, .int .i64]
abbrev CO41_5 : List CT := [.int .i64]
abbrev CR41_5 : List CT := [.int .i64]
def SF41_5 : SF := ⟨27, [(0, .c (.h)), (1, .c (.h)), (5, .c (.h))], [], 0⟩
def SG41_5 : SF := ⟨27, [(1, .c (.h))], [], 0⟩
def SH41_5 : SF := ⟨27, [(4, .c (.h))], [], 0⟩
def L41 (k : Nat) : List (Nat × LoopI) := [(5, loopB SF41_5 CS41_5 0 SG41_5 CO41_5 SH41_5 CR41_5 (laws_szFaceS_5 k k))]
def I18 : FunI := ⟨[.agg [.h, .h, .h, .h], .c (.h)], [.int .i64, .int .i64, .sl cP, .sl cF, .int .i64], .c (.h), [.int .i64], 0⟩
def I42 : FunI := ⟨[.agg [.h, .h, .h], .c (.h)], [.str, .int .i64, .int .i64, .int .i64], .c (.h), [.int .i64], 0⟩
def I19 : FunI := ⟨[.c (.h), .c (.h)], [.sl cV, .int .i64], .c (.h), [.int .i64], 0⟩
abbrev CS19_5 : List CT := [.sl cV, .int .i64, .int .i64]
abbrev CO19_5 : List CT := [.int .i64]
abbrev CR19_5 : List CT := [.int .i64]
def SF19_5 : SF := ⟨27, [(0, .c (.h)), (1, .c (.h)), (5, .c (.h))], [], 0⟩
def SG19_5 : SF := ⟨27, [(1, .c (.h))], [], 0⟩
def SH19_5 : SF := ⟨27, [(4, .c (.h))], [], 0⟩
def L19 (k : Nat) : List (Nat × LoopI) := [(5, loopB SF19_5 CS19_5 0 SG19_5 CO19_5 SH19_5 CR19_5 (laws_szVeneerS_5 k k))]
def I4 : FunI := ⟨[.agg [.h, .h, .h, .h, .h], .c (.h)], [.int .i64, .int .i64, .sl cP, .sl cF, .sl cV, .int .i64], .c (.h), [.int .i64], 0⟩
def I43 : FunI := ⟨[.c (.h), .c (.h)], [.sl cB, .int .i64], .c (.h), [.int .i64], 0⟩
def I20 : FunI := ⟨[.agg [.h, .h, .h, .h, .h, .h, .h, .h, .h], .c (.h)], [.str, .str, .int .i64, .str, .int .i64, .int .i64, .int .i64, .int .i64, .sl cB, .int .i64], .c (.h), [.int .i64], 0⟩
def I5 : FunI := ⟨[.c (.h), .c (.h)], [.sl cL, .int .i64], .c (.h), [.int .i64], 0⟩
abbrev CS5_5 : List CT := [.sl cL, .int .i64, .int .i64]
abbrev CO5_5 : List CT := [.int .i64]
abbrev CR5_5 : List CT := [.int .i64]
def SF5_5 : SF := ⟨27, [(0, .c (.h)), (1, .c (.h)), (5, .c (.h))], [], 0⟩
def SG5_5 : SF := ⟨27, [(1, .c (.h))], [], 0⟩
def SH5_5 : SF := ⟨27, [(4, .c (.h))], [], 0⟩
def L5 (k : Nat) : List (Nat × LoopI) := [(5, loopB SF5_5 CS5_5 0 SG5_5 CO5_5 SH5_5 CR5_5 (laws_szLeafS_5 k k))]
def I47 : FunI := ⟨[.c (.h), .c (.h), .c (.h)], [.int .i64, .int .i64, .int .i64], .c (.h), [.bool], 0⟩
def I86 : FunI := ⟨[.fp [.h, .h, .h, .h], .c (.h)], [.int .i64, .int .i64, .sl cP, .sl cF, .sl (.int .i64)], .tup [(false, [.w]), (false, [.h])], [.sl cP, .bool], 0⟩
abbrev CS86_3 : List CT := [.int .i64, .int .i64, .sl cP, .sl cF, .sl (.int .i64), .int .i64, .sl cP]
abbrev CO86_3 : List CT := [.sl cP]
abbrev CR86_3 : List CT := [.bool, .sl cP]
def SF86_3 : SF := ⟨41, [(0, .fp [.h, .h, .h, .h]), (1, .c (.h)), (6, .c (.ref 0)), (7, .c (.h))], [.row], 0⟩
def SG86_3 : SF := ⟨41, [(6, .c (.ref 0))], [.row], 0⟩
def SH86_3 : SF := ⟨41, [(4, .c (.ref 0)), (5, .c (.h))], [.row], 0⟩
def L86 (k : Nat) : List (Nat × LoopI) := [(3, loopB SF86_3 CS86_3 0 SG86_3 CO86_3 SH86_3 CR86_3 (spec_l05Ring_3 k k))]
def I109 : FunI := ⟨[.fp [.h, .h, .h, .h]], [.int .i64, .int .i64, .sl cP, .sl cF], .c (.h), [.bool], 0⟩
def J109 : Nat → List (Nat × CT) := fun n => match n with | 6 => [(49, .bool)] | _ => []
abbrev CS109_9 : List CT := [.int .i64, .int .i64, .sl cP, .sl cF, .int .i64, .int .i64]
abbrev CO109_9 : List CT := [.int .i64, .int .i64, .sl cP, .sl cF, .int .i64]
abbrev CR109_9 : List CT := [.bool]
def SF109_9 : SF := ⟨70, [(0, .fp [.h, .h, .h, .h]), (3, .c (.h)), (4, .c (.h))], [], 0⟩
def SG109_9 : SF := ⟨70, [(0, .fp [.h, .h, .h, .h]), (3, .c (.h))], [], 0⟩
def SH109_9 : SF := ⟨70, [(2, .c (.h))], [], 0⟩
abbrev CS109_4 : List CT := [.int .i64, .int .i64, .sl cP, .sl cF, .int .i64]
abbrev CO109_4 : List CT := []
abbrev CR109_4 : List CT := [.bool]
def SF109_4 : SF := ⟨70, [(0, .fp [.h, .h, .h, .h]), (3, .c (.h))], [], 0⟩
def SG109_4 : SF := ⟨70, [], [], 0⟩
def SH109_4 : SF := ⟨70, [(2, .c (.h))], [], 0⟩
def L109 (k : Nat) : List (Nat × LoopI) := [(9, loopB SF109_9 CS109_9 2 SG109_9 CO109_9 SH109_9 CR109_9 (spec_l05Points_9 k k)), (4, loopB SF109_4 CS109_4 0 SG109_4 CO109_4 SH109_4 CR109_4 (spec_l05Points_4 k k))]
def I132 : FunI := ⟨[.c (.h)], [.int .u8], .c (.h), [.bool], 0⟩
def I133 : FunI := ⟨[.c (.h)], [.int .u8], .c (.h), [.bool], 0⟩
def I110 : FunI := ⟨[.c (.h)], [.str], .c (.h), [.bool], 0⟩
def J110 : Nat → List (Nat × CT) := fun n => match n with | 6 => [(34, .bool)] | 1 => [(16, .bool)] | _ => []
abbrev CS110_4 : List CT := [.str, .int .i64]
abbrev CO110_4 : List CT := []
abbrev CR110_4 : List CT := [.bool]
def SF110_4 : SF := ⟨35, [(0, .c (.h)), (3, .c (.h))], [], 0⟩
def SG110_4 : SF := ⟨35, [], [], 0⟩
def SH110_4 : SF := ⟨35, [(2, .c (.h))], [], 0⟩
def L110 (k : Nat) : List (Nat × LoopI) := [(4, loopB SF110_4 CS110_4 0 SG110_4 CO110_4 SH110_4 CR110_4 (spec_l01Name_4 k k))]
def I134 : FunI := ⟨[.agg [.h, .h]], [.int .i64, .int .i64], .c (.h), [.bool], 0⟩
def I80 : FunI := ⟨[.c (.h), .c (.h)], [.int .i64, .int .i64], .c (.h), [.int .i64], 0⟩
def I83 : FunI := ⟨[.c (.h), .c (.h)], [.int .i64, .int .i64], .c (.h), [.int .i64], 0⟩
def I162 : FunI := ⟨[.agg [.h, .h], .agg [.h, .h], .agg [.h, .h]], [.int .i64, .int .i64, .int .i64, .int .i64, .int .i64, .int .i64], .c (.h), [.int .i64], 0⟩
def I142 : FunI := ⟨[.agg [.h, .h], .agg [.h, .h], .agg [.h, .h]], [.int .i64, .int .i64, .int .i64, .int .i64, .int .i64, .int .i64], .c (.h), [.int .i64], 0⟩
def I135 : FunI := ⟨[.agg [.h, .h], .agg [.h, .h], .agg [.h, .h]], [.int .i64, .int .i64, .int .i64, .int .i64, .int .i64, .int .i64], .c (.h), [.bool], 0⟩
def I159 : FunI := ⟨[.agg [.h, .h], .agg [.h, .h], .agg [.h, .h], .agg [.h, .h]], [.int .i64, .int .i64, .int .i64, .int .i64, .int .i64, .int .i64, .int .i64, .int .i64], .c (.h), [.bool], 0⟩
def I136 : FunI := ⟨[.agg [.h, .h], .agg [.h, .h], .agg [.h, .h], .agg [.h, .h]], [.int .i64, .int .i64, .int .i64, .int .i64, .int .i64, .int .i64, .int .i64, .int .i64], .c (.h), [.bool], 0⟩
def I137 : FunI := ⟨[.c (.h)], [.sl cP], .c (.h), [.int .i64], 0⟩
abbrev CS137_3 : List CT := [.sl cP, .int .i64, .int .i64]
abbrev CO137_3 : List CT := [.int .i64]
def SF137_3 : SF := ⟨40, [(0, .c (.h)), (3, .c (.h)), (4, .c (.h))], [], 0⟩
def SG137_3 : SF := ⟨40, [(3, .c (.h))], [], 0⟩
def L137 (k : Nat) : List (Nat × LoopI) := [(3, loopA SF137_3 CS137_3 0 SG137_3 CO137_3 (spec_l03Area_3 k k))]
def I111 : FunI := ⟨[.c (.h)], [.sl cP], .c (.h), [.bool], 0⟩
def J111 : Nat → List (Nat × CT) := fun n => match n with | 20 => [(95, .bool)] | 15 => [(66, .bool)] | 2 => [(17, .bool)] | _ => []
abbrev CS111_5 : List CT := [.sl cP, .int .i64, .int .i64]
abbrev CO111_5 : List CT := [.sl cP, .int .i64]
abbrev CR111_5 : List CT := [.bool]
def SF111_5 : SF := ⟨99, [(0, .c (.h)), (3, .c (.h)), (4, .c (.h))], [], 0⟩
def SG111_5 : SF := ⟨99, [(0, .c (.h)), (3, .c (.h))], [], 0⟩
def SH111_5 : SF := ⟨99, [(2, .c (.h))], [], 0⟩
abbrev CS111_18 : List CT := [.sl cP, .int .i64, .int .i64, .int .i64, .int .i64, .int .i64, .int .i64, .int .i64]
abbrev CO111_18 : List CT := [.sl cP, .int .i64, .int .i64]
abbrev CR111_18 : List CT := [.bool]
def SF111_18 : SF := ⟨99, [(0, .c (.h)), (3, .c (.h)), (5, .c (.h)), (6, .c (.box 0 0)), (7, .c (.box 1 0)), (9, .c (.h))], [.box [.h, .h], .box [.h, .h]], 0⟩
def SG111_18 : SF := ⟨99, [(0, .c (.h)), (3, .c (.h)), (5, .c (.h))], [], 0⟩
def SH111_18 : SF := ⟨99, [(2, .c (.h))], [], 0⟩
abbrev CS111_10 : List CT := [.sl cP, .int .i64, .int .i64]
abbrev CO111_10 : List CT := [.sl cP]
abbrev CR111_10 : List CT := [.bool]
def SF111_10 : SF := ⟨99, [(0, .c (.h)), (3, .c (.h)), (5, .c (.h))], [], 0⟩
def SG111_10 : SF := ⟨99, [(0, .c (.h))], [], 0⟩
def SH111_10 : SF := ⟨99, [(2, .c (.h))], [], 0⟩
def L111 (k : Nat) : List (Nat × LoopI) := [(5, loopB SF111_5 CS111_5 0 SG111_5 CO111_5 SH111_5 CR111_5 (spec_l03Ok_5 k k)), (18, loopB SF111_18 CS111_18 4 SG111_18 CO111_18 SH111_18 CR111_18 (spec_l03Ok_18 k k)), (10, loopB SF111_10 CS111_10 2 SG111_10 CO111_10 SH111_10 CR111_10 (spec_l03Ok_10 k k))]
def I77 : FunI := ⟨[.fp [.h, .h, .h, .h]], [.int .i64, .int .i64, .sl cP, .sl cF], .c (.h), [.bool], 0⟩
def J77 : Nat → List (Nat × CT) := fun n => match n with | 9 => [(95, .bool)] | 6 => [(75, .bool)] | 1 => [(32, .bool)] | _ => []
abbrev CS77_4 : List CT := [.int .i64, .int .i64, .sl cP, .sl cF, .int .i64]
abbrev CO77_4 : List CT := []
abbrev CR77_4 : List CT := [.bool]
def SF77_4 : SF := ⟨96, [(0, .fp [.h, .h, .h, .h]), (3, .c (.h))], [], 0⟩
def SG77_4 : SF := ⟨96, [], [], 0⟩
def SH77_4 : SF := ⟨96, [(2, .c (.h))], [], 0⟩
def L77 (k : Nat) : List (Nat × LoopI) := [(4, loopB SF77_4 CS77_4 0 SG77_4 CO77_4 SH77_4 CR77_4 (spec_l05Ok_4 k k))]
def I160 : FunI := ⟨[], [], .c (.w), [.sl .str], 0⟩
def I138 : FunI := ⟨[.c (.h)], [.str], .c (.h), [.int .i64], 0⟩
abbrev CS138_3 : List CT := [.str, .int .i64, .sl .str]
abbrev CO138_3 : List CT := []
abbrev CR138_3 : List CT := [.int .i64]
def SF138_3 : SF := ⟨19, [(0, .c (.h)), (3, .c (.ref 0)), (4, .c (.h))], [.row], 0⟩
def SG138_3 : SF := ⟨19, [], [], 0⟩
def SH138_3 : SF := ⟨19, [(2, .c (.h))], [], 0⟩
def L138 (k : Nat) : List (Nat × LoopI) := [(3, loopB SF138_3 CS138_3 0 SG138_3 CO138_3 SH138_3 CR138_3 (spec_l07Find_3 k k))]
def I139 : FunI := ⟨[], [], .c (.w), [.sl (.sl (.int .i64))], 0⟩
def I140 : FunI := ⟨[.c (.h)], [.int .i64], .c (.h), [.bool], 0⟩
def I112 : FunI := ⟨[.fp [.h, .h, .h]], [.str, .int .i64, .int .i64], .c (.h), [.bool], 0⟩
def J112 : Nat → List (Nat × CT) := fun n => match n with | 2 => [(19, .bool)] | _ => []
def I78 : FunI := ⟨[.c (.h)], [.sl cV], .c (.h), [.bool], 0⟩
abbrev CS78_2 : List CT := [.sl cV, .int .i64]
abbrev CO78_2 : List CT := []
abbrev CR78_2 : List CT := [.bool]
def SF78_2 : SF := ⟨15, [(0, .c (.h)), (3, .c (.h))], [], 0⟩
def SG78_2 : SF := ⟨15, [], [], 0⟩
def SH78_2 : SF := ⟨15, [(2, .c (.h))], [], 0⟩
def L78 (k : Nat) : List (Nat × LoopI) := [(2, loopB SF78_2 CS78_2 0 SG78_2 CO78_2 SH78_2 CR78_2 (spec_l08Veneers_2 k k))]
def I44 : FunI := ⟨[.fp [.h, .h, .h, .h, .h]], [.int .i64, .int .i64, .sl cP, .sl cF, .sl cV], .c (.h), [.bool], 0⟩
def I113 : FunI := ⟨[.fp [.h, .h, .h, .h], .c (.h), .c (.h)], [.int .i64, .int .i64, .int .i64, .int .i64, .int .i64, .int .i64], .c (.h), [.bool], 0⟩
def I79 : FunI := ⟨[.fp [.h, .h, .h, .h, .h, .h, .h, .h, .h]], [.str, .str, .int .i64, .str, .int .i64, .int .i64, .int .i64, .int .i64, .sl cB], .c (.h), [.bool], 0⟩
def J79 : Nat → List (Nat × CT) := fun n => match n with | 3 => [(54, .bool)] | 1 => [(32, .bool)] | _ => []
abbrev CS79_6 : List CT := [.str, .str, .int .i64, .str, .int .i64, .int .i64, .int .i64, .int .i64, .sl cB, .int .i64]
abbrev CO79_6 : List CT := []
abbrev CR79_6 : List CT := [.bool]
def SF79_6 : SF := ⟨80, [(0, .fp [.h, .h, .h, .h, .h, .h, .h, .h, .h]), (3, .c (.h))], [], 0⟩
def SG79_6 : SF := ⟨80, [], [], 0⟩
def SH79_6 : SF := ⟨80, [(2, .c (.h))], [], 0⟩
def L79 (k : Nat) : List (Nat × LoopI) := [(6, loopB SF79_6 CS79_6 0 SG79_6 CO79_6 SH79_6 CR79_6 (spec_l09One_6 k k))]
def I45 : FunI := ⟨[.c (.h)], [.sl cL], .c (.h), [.bool], 0⟩
def J45 : Nat → List (Nat × CT) := fun n => match n with | 4 => [(32, .bool)] | _ => []
abbrev CS45_2 : List CT := [.sl cL, .int .i64]
abbrev CO45_2 : List CT := [.sl cL]
abbrev CR45_2 : List CT := [.bool]
def SF45_2 : SF := ⟨36, [(0, .c (.h)), (3, .c (.h))], [], 0⟩
def SG45_2 : SF := ⟨36, [(0, .c (.h))], [], 0⟩
def SH45_2 : SF := ⟨36, [(2, .c (.h))], [], 0⟩
def L45 (k : Nat) : List (Nat × LoopI) := [(2, loopB SF45_2 CS45_2 0 SG45_2 CO45_2 SH45_2 CR45_2 (spec_l09Ok_2 k k))]
def I46 : FunI := ⟨[.fp [.h, .h, .h, .h]], [.int .i64, .int .i64, .int .i64, .int .i64], .c (.h), [.bool], 0⟩
def I21 : FunI := ⟨[.fp [.h, .h, .h, .h, .h], .c (.h), .fp [.h, .h, .h, .h]], [.int .i64, .int .i64, .sl cP, .sl cF, .sl cV, .sl cL, .int .i64, .int .i64, .int .i64, .int .i64], .c (.h), [.int .i64], 0⟩
def J21 : Nat → List (Nat × CT) := fun n => match n with | 1 => [(19, .bool)] | _ => []
def I22 : FunI := ⟨[.c (.h), .c (.h)], [.sl cL, .int .i64], .c (.h), [.int .i64], 0⟩
abbrev CS22_4 : List CT := [.sl cL, .int .i64, .int .i64]
abbrev CO22_4 : List CT := []
abbrev CR22_4 : List CT := [.int .i64]
def SF22_4 : SF := ⟨33, [(0, .c (.h)), (1, .c (.h)), (5, .c (.h))], [], 0⟩
def SG22_4 : SF := ⟨33, [], [], 0⟩
def SH22_4 : SF := ⟨33, [(4, .c (.h))], [], 0⟩
def L22 (k : Nat) : List (Nat × LoopI) := [(4, loopB SF22_4 CS22_4 0 SG22_4 CO22_4 SH22_4 CR22_4 (spec_l11Step_4 k k))]
def I81 : FunI := ⟨[.c (.h), .c (.h)], [.int .i64, .int .i64], .c (.h), [.int .i64], 0⟩
def I82 : FunI := ⟨[.c (.h), .c (.h)], [.int .i64, .int .i64], .c (.h), [.int .i64], 0⟩
def I48 : FunI := ⟨[.fp [.h, .h, .h], .fp [.h, .h, .h, .h, .h, .h, .h, .h, .h], .c (.h), .fp [.h, .h, .h, .h]], [.str, .int .i64, .int .i64, .str, .str, .int .i64, .str, .int .i64, .int .i64, .int .i64, .int .i64, .sl cB, .int .i64, .int .i64, .int .i64, .int .i64, .int .i64], .c (.h), [.int .i64], 0⟩
def I49 : FunI := ⟨[.c (.h)], [.sl cP], .tup [(true, [.h, .h]), (true, [.h, .h])], [.int .i64, .int .i64, .int .i64, .int .i64], 0⟩
abbrev CS49_4 : List CT := [.sl cP, .int .i64, .int .i64, .int .i64, .int .i64, .int .i64, .int .i64, .int .i64, .int .i64, .int .i64]
abbrev CO49_4 : List CT := [.int .i64, .int .i64, .int .i64, .int .i64, .int .i64, .int .i64, .int .i64, .int .i64]
def SF49_4 : SF := ⟨57, [(0, .c (.h)), (2, .c (.box 0 0)), (3, .c (.box 1 0)), (4, .c (.box 2 0)), (5, .c (.box 3 0)), (6, .c (.h))], [.box [.h, .h], .box [.h, .h], .box [.h, .h], .box [.h, .h]], 0⟩
def SG49_4 : SF := ⟨57, [(2, .c (.box 0 0)), (3, .c (.box 1 0)), (4, .c (.box 2 0)), (5, .c (.box 3 0))], [.box [.h, .h], .box [.h, .h], .box [.h, .h], .box [.h, .h]], 0⟩
def L49 (k : Nat) : List (Nat × LoopI) := [(4, loopA SF49_4 CS49_4 0 SG49_4 CO49_4 (spec_l03Bounds_4 k k))]
def I84 : FunI := ⟨[.agg [.h, .h], .c (.h)], [.int .i64, .int .i64, .int .i64], .agg [.h, .h], [.int .i64, .int .i64], 0⟩
abbrev CS84_4 : List CT := [.int .i64, .int .i64, .int .i64, .int .i64, .int .i64]
abbrev CO84_4 : List CT := [.int .i64, .int .i64, .int .i64, .int .i64]
def SF84_4 : SF := ⟨27, [(2, .c (.box 0 0)), (4, .c (.box 1 0)), (5, .c (.h))], [.box [.h, .h], .box [.h, .h]], 0⟩
def SG84_4 : SF := ⟨27, [(2, .c (.box 0 0)), (4, .c (.box 1 0))], [.box [.h, .h], .box [.h, .h]], 0⟩
def L84 (k : Nat) : List (Nat × LoopI) := [(4, loopA SF84_4 CS84_4 0 SG84_4 CO84_4 (spec_l02Turned_4 k k))]
def I85 : FunI := ⟨[.c (.h), .c (.h), .c (.h)], [.sl cP, .int .i64, .int .i64], .c (.w), [.sl cP], 0⟩
abbrev CS85_3 : List CT := [.sl cP, .int .i64, .int .i64, .int .i64, .sl cP]
abbrev CO85_3 : List CT := [.sl cP]
def SF85_3 : SF := ⟨35, [(0, .c (.h)), (1, .c (.h)), (2, .c (.h)), (7, .c (.ref 0)), (8, .c (.h))], [.row], 0⟩
def SG85_3 : SF := ⟨35, [(7, .c (.ref 0))], [.row], 0⟩
def L85 (k : Nat) : List (Nat × LoopI) := [(3, loopA SF85_3 CS85_3 0 SG85_3 CO85_3 (spec_l03Shifted_3 k k))]
def I50 : FunI := ⟨[.c (.h), .c (.h)], [.sl cP, .int .i64], .c (.w), [.sl cP], 0⟩
abbrev CS50_3 : List CT := [.sl cP, .int .i64, .int .i64, .sl cP]
abbrev CO50_3 : List CT := [.sl cP]
def SF50_3 : SF := ⟨49, [(0, .c (.h)), (1, .c (.h)), (5, .c (.ref 0)), (6, .c (.h))], [.row], 0⟩
def SG50_3 : SF := ⟨49, [(5, .c (.ref 0))], [.row], 0⟩
def L50 (k : Nat) : List (Nat × LoopI) := [(3, loopA SF50_3 CS50_3 0 SG50_3 CO50_3 (spec_l03Turned_3 k k))]
def I51 : FunI := ⟨[.fp [.h, .h, .h, .h], .c (.h)], [.int .i64, .int .i64, .sl cP, .sl cF, .int .i64], .c (.w), [.sl cP], 0⟩
def I161 : FunI := ⟨[.agg [.h, .h], .agg [.h, .h], .agg [.h, .h], .agg [.h, .h]], [.int .i64, .int .i64, .int .i64, .int .i64, .int .i64, .int .i64, .int .i64, .int .i64], .c (.h), [.bool], 0⟩
def I141 : FunI := ⟨[.c (.h), .c (.h)], [.sl cP, .int .i64], .c (.h), [.bool], 0⟩
def J141 : Nat → List (Nat × CT) := fun n => match n with | 10 => [(72, .bool)] | _ => []
abbrev CS141_8 : List CT := [.sl cP, .int .i64, .int .i64, .int .i64, .int .i64, .int .i64, .int .i64, .int .i64, .int .i64, .int .i64]
abbrev CO141_8 : List CT := []
abbrev CR141_8 : List CT := [.bool]
def SF141_8 : SF := ⟨73, [(0, .c (.h)), (1, .c (.h)), (5, .c (.h)), (6, .c (.box 0 0)), (7, .c (.box 1 0)), (8, .c (.box 2 0)), (9, .c (.h))], [.box [.h, .h], .box [.h, .h], .box [.h, .h]], 0⟩
def SG141_8 : SF := ⟨73, [], [], 0⟩
def SH141_8 : SF := ⟨73, [(4, .c (.h))], [], 0⟩
def L141 (k : Nat) : List (Nat × LoopI) := [(8, loopB SF141_8 CS141_8 0 SG141_8 CO141_8 SH141_8 CR141_8 (spec_l04Ear_8 k k))]
def I114 : FunI := ⟨[.c (.h)], [.sl cP], .c (.w), [.sl (.sl cP)], 0⟩
def J114 : Nat → List (Nat × CT) := fun n => match n with | 6 => [(26, .bool)] | _ => []
abbrev CS114_6 : List CT := [.int .i64, .int .i64, .sl cP, .sl (.sl cP)]
abbrev CO114_6 : List CT := [.int .i64, .int .i64, .sl cP, .sl (.sl cP)]
def SF114_6 : SF := ⟨70, [(3, .c (.ref 0)), (4, .c (.ref 1)), (5, .c (.h)), (6, .c (.h))], [.row, .row], 0⟩
def SG114_6 : SF := ⟨70, [(3, .c (.ref 0)), (4, .c (.ref 1)), (5, .c (.h)), (6, .c (.h))], [.row, .row], 0⟩
abbrev CS114_3 : List CT := [.sl cP, .sl (.sl cP)]
abbrev CO114_3 : List CT := [.sl cP, .sl (.sl cP)]
def SF114_3 : SF := ⟨70, [(3, .c (.ref 0)), (4, .c (.ref 1))], [.row, .row], 0⟩
def SG114_3 : SF := ⟨70, [(3, .c (.ref 0)), (4, .c (.ref 1))], [.row, .row], 0⟩
def L114 (k : Nat) : List (Nat × LoopI) := [(6, loopA SF114_6 CS114_6 2 SG114_6 CO114_6 (spec_l04Triangles_6 k k)), (3, loopA SF114_3 CS114_3 0 SG114_3 CO114_3 (spec_l04Triangles_3 k k))]
def I115 : FunI := ⟨[.c (.h), .c (.h)], [.sl cP, .sl cP], .c (.h), [.bool], 0⟩
abbrev CS115_6 : List CT := [.sl cP, .sl cP, .int .i64, .bool, .int .i64]
abbrev CO115_6 : List CT := [.sl cP, .sl cP, .int .i64, .bool]
def SF115_6 : SF := ⟨36, [(0, .c (.h)), (1, .c (.h)), (5, .c (.h)), (6, .c (.h)), (7, .c (.h))], [], 0⟩
def SG115_6 : SF := ⟨36, [(0, .c (.h)), (1, .c (.h)), (5, .c (.h)), (6, .c (.h))], [], 0⟩
abbrev CS115_2 : List CT := [.sl cP, .sl cP, .int .i64]
abbrev CO115_2 : List CT := []
abbrev CR115_2 : List CT := [.bool]
def SF115_2 : SF := ⟨36, [(0, .c (.h)), (1, .c (.h)), (5, .c (.h))], [], 0⟩
def SG115_2 : SF := ⟨36, [], [], 0⟩
def SH115_2 : SF := ⟨36, [(4, .c (.h))], [], 0⟩
def L115 (k : Nat) : List (Nat × LoopI) := [(6, loopA SF115_6 CS115_6 2 SG115_6 CO115_6 (spec_l04Parted_6 k k)), (2, loopB SF115_2 CS115_2 0 SG115_2 CO115_2 SH115_2 CR115_2 (spec_l04Parted_2 k k))]
def I87 : FunI := ⟨[.c (.h), .c (.h)], [.sl cP, .sl cP], .c (.h), [.bool], 0⟩
def J87 : Nat → List (Nat × CT) := fun n => match n with | 9 => [(46, .bool)] | _ => []
abbrev CS87_7 : List CT := [.int .i64, .int .i64, .sl (.sl cP), .sl (.sl cP)]
abbrev CO87_7 : List CT := [.int .i64, .sl (.sl cP), .sl (.sl cP)]
abbrev CR87_7 : List CT := [.bool]
def SF87_7 : SF := ⟨47, [(5, .c (.ref 0)), (6, .c (.ref 1)), (7, .c (.h)), (8, .c (.h))], [.row, .row], 0⟩
def SG87_7 : SF := ⟨47, [(5, .c (.ref 0)), (6, .c (.ref 1)), (7, .c (.h))], [.row, .row], 0⟩
def SH87_7 : SF := ⟨47, [(4, .c (.h))], [], 0⟩
abbrev CS87_4 : List CT := [.int .i64, .sl (.sl cP), .sl (.sl cP)]
abbrev CO87_4 : List CT := []
abbrev CR87_4 : List CT := [.bool]
def SF87_4 : SF := ⟨47, [(5, .c (.ref 0)), (6, .c (.ref 1)), (7, .c (.h))], [.row, .row], 0⟩
def SG87_4 : SF := ⟨47, [], [], 0⟩
def SH87_4 : SF := ⟨47, [(4, .c (.h))], [], 0⟩
def L87 (k : Nat) : List (Nat × LoopI) := [(7, loopB SF87_7 CS87_7 2 SG87_7 CO87_7 SH87_7 CR87_7 (spec_l04Disjoint_7 k k)), (4, loopB SF87_4 CS87_4 0 SG87_4 CO87_4 SH87_4 CR87_4 (spec_l04Disjoint_4 k k))]
def I88 : FunI := ⟨[.fp [.h, .h, .h, .h]], [.int .i64, .int .i64, .int .i64, .int .i64], .c (.w), [.sl cP], 0⟩
def I52 : FunI := ⟨[.c (.h), .fp [.h, .h, .h, .h, .h, .h, .h, .h, .h], .fp [.h, .h, .h, .h]], [.sl cP, .str, .str, .int .i64, .str, .int .i64, .int .i64, .int .i64, .int .i64, .sl cB, .int .i64, .int .i64, .int .i64, .int .i64], .c (.h), [.int .i64], 0⟩
def J52 : Nat → List (Nat × CT) := fun n => match n with | 8 => [(113, .bool)] | 2 => [(59, .bool)] | _ => []
abbrev CS52_5 : List CT := [.sl cP, .str, .str, .int .i64, .str, .int .i64, .int .i64, .int .i64, .int .i64, .sl cB, .int .i64, .int .i64, .int .i64, .int .i64, .int .i64]
abbrev CO52_5 : List CT := []
abbrev CR52_5 : List CT := [.int .i64]
def SF52_5 : SF := ⟨114, [(0, .c (.h)), (1, .fp [.h, .h, .h, .h, .h, .h, .h, .h, .h]), (7, .c (.box 0 0)), (8, .c (.box 1 0)), (9, .c (.h))], [.box [.h, .h], .box [.h, .h]], 0⟩
def SG52_5 : SF := ⟨114, [], [], 0⟩
def SH52_5 : SF := ⟨114, [(6, .c (.h))], [], 0⟩
def L52 (k : Nat) : List (Nat × LoopI) := [(5, loopB SF52_5 CS52_5 0 SG52_5 CO52_5 SH52_5 CR52_5 (spec_l11Leaf_5 k k))]
def I53 : FunI := ⟨[.fp [.h, .h, .h, .h, .h], .fp [.h, .h, .h, .h, .h]], [.int .i64, .int .i64, .sl cP, .sl cF, .sl cV, .int .i64, .int .i64, .int .i64, .int .i64, .int .i64], .c (.w), [.sl cP], 0⟩
def I23 : FunI := ⟨[.fp [.h, .h, .h, .h, .h], .c (.h), .c (.h), .fp [.h, .h, .h, .h], .c (.h)], [.int .i64, .int .i64, .sl cP, .sl cF, .sl cV, .sl cL, .int .i64, .int .i64, .int .i64, .int .i64, .int .i64, .int .i64], .c (.w), [.sl cQ], 0⟩
abbrev CS23_15 : List CT := [.int .i64, .int .i64, .sl cP, .sl cF, .sl cV, .sl cL, .int .i64, .int .i64, .int .i64, .int .i64, .int .i64, .int .i64, .int .i64, .str, .str, .int .i64, .str, .int .i64, .int .i64, .int .i64, .int .i64, .sl cB, .int .i64, .int .i64, .int .i64, .sl cQ, .int .i64, .int .i64]
abbrev CO23_15 : List CT := [.int .i64, .int .i64, .sl cP, .sl cF, .sl cV, .sl cL, .int .i64, .int .i64, .int .i64, .int .i64, .int .i64, .int .i64, .int .i64, .str, .str, .int .i64, .str, .int .i64, .int .i64, .int .i64, .int .i64, .sl cB, .int .i64, .int .i64, .sl cQ, .int .i64, .int .i64]
def SF23_15 : SF := ⟨115, [(0, .fp [.h, .h, .h, .h, .h]), (1, .c (.h)), (2, .c (.h)), (3, .fp [.h, .h, .h, .h]), (4, .c (.h)), (11, .c (.ref 0)), (12, .c (.h)), (13, .fp [.h, .h, .h, .h, .h, .h, .h, .h, .h]), (14, .c (.h)), (16, .c (.box 1 0)), (17, .c (.h)), (18, .c (.h))], [.row, .box [.h, .h]], 0⟩
def SG23_15 : SF := ⟨115, [(0, .fp [.h, .h, .h, .h, .h]), (1, .c (.h)), (2, .c (.h)), (3, .fp [.h, .h, .h, .h]), (4, .c (.h)), (11, .c (.ref 0)), (12, .c (.h)), (13, .fp [.h, .h, .h, .h, .h, .h, .h, .h, .h]), (14, .c (.h)), (16, .c (.box 1 0)), (17, .c (.h))], [.row, .box [.h, .h]], 0⟩
abbrev CS23_12 : List CT := [.int .i64, .int .i64, .sl cP, .sl cF, .sl cV, .sl cL, .int .i64, .int .i64, .int .i64, .int .i64, .int .i64, .int .i64, .int .i64, .str, .str, .int .i64, .str, .int .i64, .int .i64, .int .i64, .int .i64, .sl cB, .int .i64, .int .i64, .sl cQ, .int .i64, .int .i64]
abbrev CO23_12 : List CT := [.int .i64, .int .i64, .sl cP, .sl cF, .sl cV, .sl cL, .int .i64, .int .i64, .int .i64, .int .i64, .int .i64, .int .i64, .int .i64, .str, .str, .int .i64, .str, .int .i64, .int .i64, .int .i64, .int .i64, .sl cB, .int .i64, .sl cQ]
def SF23_12 : SF := ⟨115, [(0, .fp [.h, .h, .h, .h, .h]), (1, .c (.h)), (2, .c (.h)), (3, .fp [.h, .h, .h, .h]), (4, .c (.h)), (11, .c (.ref 0)), (12, .c (.h)), (13, .fp [.h, .h, .h, .h, .h, .h, .h, .h, .h]), (14, .c (.h)), (16, .c (.box 1 0)), (17, .c (.h))], [.row, .box [.h, .h]], 0⟩
def SG23_12 : SF := ⟨115, [(0, .fp [.h, .h, .h, .h, .h]), (1, .c (.h)), (2, .c (.h)), (3, .fp [.h, .h, .h, .h]), (4, .c (.h)), (11, .c (.ref 0)), (12, .c (.h)), (13, .fp [.h, .h, .h, .h, .h, .h, .h, .h, .h]), (14, .c (.h))], [.row], 0⟩
abbrev CS23_7 : List CT := [.int .i64, .int .i64, .sl cP, .sl cF, .sl cV, .sl cL, .int .i64, .int .i64, .int .i64, .int .i64, .int .i64, .int .i64, .int .i64, .str, .str, .int .i64, .str, .int .i64, .int .i64, .int .i64, .int .i64, .sl cB, .int .i64, .sl cQ]
abbrev CO23_7 : List CT := [.int .i64, .int .i64, .sl cP, .sl cF, .sl cV, .sl cL, .int .i64, .int .i64, .int .i64, .int .i64, .int .i64, .int .i64, .int .i64, .sl cQ]
def SF23_7 : SF := ⟨115, [(0, .fp [.h, .h, .h, .h, .h]), (1, .c (.h)), (2, .c (.h)), (3, .fp [.h, .h, .h, .h]), (4, .c (.h)), (11, .c (.ref 0)), (12, .c (.h)), (13, .fp [.h, .h, .h, .h, .h, .h, .h, .h, .h]), (14, .c (.h))], [.row], 0⟩
def SG23_7 : SF := ⟨115, [(0, .fp [.h, .h, .h, .h, .h]), (1, .c (.h)), (2, .c (.h)), (3, .fp [.h, .h, .h, .h]), (4, .c (.h)), (11, .c (.ref 0)), (12, .c (.h))], [.row], 0⟩
abbrev CS23_3 : List CT := [.int .i64, .int .i64, .sl cP, .sl cF, .sl cV, .sl cL, .int .i64, .int .i64, .int .i64, .int .i64, .int .i64, .int .i64, .int .i64, .sl cQ]
abbrev CO23_3 : List CT := [.sl cQ]
def SF23_3 : SF := ⟨115, [(0, .fp [.h, .h, .h, .h, .h]), (1, .c (.h)), (2, .c (.h)), (3, .fp [.h, .h, .h, .h]), (4, .c (.h)), (11, .c (.ref 0)), (12, .c (.h))], [.row], 0⟩
def SG23_3 : SF := ⟨115, [(11, .c (.ref 0))], [.row], 0⟩
def L23 (k : Nat) : List (Nat × LoopI) := [(15, loopA SF23_15 CS23_15 6 SG23_15 CO23_15 (spec_l11Places_15 k k)), (12, loopA SF23_12 CS23_12 4 SG23_12 CO23_12 (spec_l11Places_12 k k)), (7, loopA SF23_7 CS23_7 2 SG23_7 CO23_7 (spec_l11Places_7 k k)), (3, loopA SF23_3 CS23_3 0 SG23_3 CO23_3 (spec_l11Places_3 k k))]
def I116 : FunI := ⟨[.c (.h), .agg [.h, .h]], [.sl cP, .int .i64, .int .i64], .c (.h), [.int .i64], 0⟩
def J116 : Nat → List (Nat × CT) := fun n => match n with | 9 => [(70, .bool)] | _ => []
abbrev CS116_3 : List CT := [.sl cP, .int .i64, .int .i64, .int .i64, .int .i64]
abbrev CO116_3 : List CT := [.int .i64]
abbrev CR116_3 : List CT := [.int .i64]
def SF116_3 : SF := ⟨74, [(0, .c (.h)), (3, .c (.box 0 0)), (5, .c (.h)), (6, .c (.h))], [.box [.h, .h]], 0⟩
def SG116_3 : SF := ⟨74, [(5, .c (.h))], [], 0⟩
def SH116_3 : SF := ⟨74, [(4, .c (.h))], [], 0⟩
def L116 (k : Nat) : List (Nat × LoopI) := [(3, loopB SF116_3 CS116_3 0 SG116_3 CO116_3 SH116_3 CR116_3 (spec_l03Inside_3 k k))]
def I143 : FunI := ⟨[.agg [.h, .h], .agg [.h, .h], .agg [.h, .h], .agg [.h, .h]], [.int .i64, .int .i64, .int .i64, .int .i64, .int .i64, .int .i64, .int .i64, .int .i64], .c (.h), [.bool], 0⟩
def I163 : FunI := ⟨[.agg [.h, .h], .agg [.h, .h]], [.int .i64, .int .i64, .int .i64, .int .i64], .c (.h), [.int .i64], 0⟩
def I165 : FunI := ⟨[.c (.h)], [.int .i64], .c (.h), [.int .i64], 0⟩
abbrev CS165_3 : List CT := [.int .i64, .int .i64, .int .i64]
abbrev CO165_3 : List CT := [.int .i64]
def SF165_3 : SF := ⟨23, [(0, .c (.h)), (3, .c (.h)), (4, .c (.h))], [], 0⟩
def SG165_3 : SF := ⟨23, [(3, .c (.h))], [], 0⟩
def L165 (k : Nat) : List (Nat × LoopI) := [(3, loopA SF165_3 CS165_3 0 SG165_3 CO165_3 (spec_l01Root_3 k k))]
def I164 : FunI := ⟨[.agg [.h, .h], .agg [.h, .h]], [.int .i64, .int .i64, .int .i64, .int .i64], .c (.h), [.int .i64], 0⟩
def I144 : FunI := ⟨[.agg [.h, .h], .agg [.h, .h], .agg [.h, .h]], [.int .i64, .int .i64, .int .i64, .int .i64, .int .i64, .int .i64], .c (.h), [.int .i64], 0⟩
def I117 : FunI := ⟨[.agg [.h, .h], .agg [.h, .h], .agg [.h, .h], .agg [.h, .h]], [.int .i64, .int .i64, .int .i64, .int .i64, .int .i64, .int .i64, .int .i64, .int .i64], .c (.h), [.int .i64], 0⟩
def I89 : FunI := ⟨[.c (.h), .c (.h)], [.sl cP, .sl cP], .c (.h), [.int .i64], 0⟩
def J89 : Nat → List (Nat × CT) := fun n => match n with | 11 => [(66, .bool)] | 1 => [(22, .bool)] | _ => []
abbrev CS89_8 : List CT := [.sl cP, .sl cP, .int .i64, .int .i64, .int .i64]
abbrev CO89_8 : List CT := [.sl cP, .sl cP, .int .i64, .int .i64]
def SF89_8 : SF := ⟨69, [(0, .c (.h)), (1, .c (.h)), (5, .c (.h)), (6, .c (.h)), (7, .c (.h))], [], 0⟩
def SG89_8 : SF := ⟨69, [(0, .c (.h)), (1, .c (.h)), (5, .c (.h)), (6, .c (.h))], [], 0⟩
abbrev CS89_5 : List CT := [.sl cP, .sl cP, .int .i64, .int .i64]
abbrev CO89_5 : List CT := [.int .i64]
def SF89_5 : SF := ⟨69, [(0, .c (.h)), (1, .c (.h)), (5, .c (.h)), (6, .c (.h))], [], 0⟩
def SG89_5 : SF := ⟨69, [(5, .c (.h))], [], 0⟩
def L89 (k : Nat) : List (Nat × LoopI) := [(8, loopA SF89_8 CS89_8 2 SG89_8 CO89_8 (spec_l04Distance_8 k k)), (5, loopA SF89_5 CS89_5 0 SG89_5 CO89_5 (spec_l04Distance_5 k k))]
def I54 : FunI := ⟨[.c (.h), .c (.h), .c (.h)], [.sl cP, .sl cP, .int .i64], .c (.h), [.bool], 0⟩
def J54 : Nat → List (Nat × CT) := fun n => match n with | 3 => [(58, .bool)] | _ => []
def I24 : FunI := ⟨[.fp [.h, .h, .h, .h, .h], .c (.h), .fp [.h, .h, .h, .h, .h], .fp [.h, .h, .h, .h]], [.int .i64, .int .i64, .sl cP, .sl cF, .sl cV, .sl cQ, .int .i64, .int .i64, .int .i64, .int .i64, .int .i64, .int .i64, .int .i64, .int .i64, .int .i64], .c (.h), [.bool], 0⟩
def J24 : Nat → List (Nat × CT) := fun n => match n with | 5 => [(42, .bool)] | _ => []
abbrev CS24_3 : List CT := [.int .i64, .int .i64, .sl cP, .sl cF, .sl cV, .sl cQ, .int .i64, .int .i64, .int .i64, .int .i64, .int .i64, .int .i64, .int .i64, .int .i64, .int .i64, .int .i64, .sl cP]
abbrev CO24_3 : List CT := []
abbrev CR24_3 : List CT := [.bool]
def SF24_3 : SF := ⟨43, [(0, .fp [.h, .h, .h, .h, .h]), (1, .c (.h)), (2, .fp [.h, .h, .h, .h, .h]), (3, .fp [.h, .h, .h, .h]), (9, .c (.ref 0)), (10, .c (.h))], [.row], 0⟩
def SG24_3 : SF := ⟨43, [], [], 0⟩
def SH24_3 : SF := ⟨43, [(8, .c (.h))], [], 0⟩
def L24 (k : Nat) : List (Nat × LoopI) := [(3, loopB SF24_3 CS24_3 0 SG24_3 CO24_3 SH24_3 CR24_3 (spec_l11Free_3 k k))]
def I6 : FunI := ⟨[.agg [.h, .h, .h, .h, .h], .c (.h), .agg [.h, .h, .h, .h], .c (.h)], [.int .i64, .int .i64, .sl cP, .sl cF, .sl cV, .sl cL, .int .i64, .int .i64, .int .i64, .int .i64, .int .i64], .tup [(false, [.w]), (false, [.h])], [.sl cQ, .int .i64], 0⟩
def J6 : Nat → List (Nat × CT) := fun n => match n with | 13 => [(46, .bool)] | _ => []
abbrev CS6_13 : List CT := [.sl cL, .int .i64, .int .i64, .bool, .int .i64, .int .i64, .int .i64, .sl cP, .sl cF, .sl cV, .int .i64, .int .i64, .int .i64, .int .i64, .sl cQ, .sl cQ]
abbrev CO6_13 : List CT := [.sl cL, .int .i64, .int .i64, .bool, .int .i64, .int .i64, .sl cP, .sl cF, .sl cV, .int .i64, .int .i64, .int .i64, .int .i64, .sl cQ]
def SF6_13 : SF := ⟨64, [(1, .c (.h)), (3, .c (.h)), (4, .c (.box 0 0)), (6, .c (.box 1 0)), (11, .c (.ref 2)), (12, .c (.h)), (13, .c (.ref 3)), (14, .c (.h)), (15, .c (.h))], [.box [.h, .h, .h, .h, .h], .box [.h, .h, .h, .h], .row, .row], 0⟩
def SG6_13 : SF := ⟨64, [(1, .c (.h)), (3, .c (.h)), (4, .c (.box 0 0)), (6, .c (.box 1 0)), (11, .c (.ref 2)), (12, .c (.h)), (14, .c (.h))], [.box [.h, .h, .h, .h, .h], .box [.h, .h, .h, .h], .row], 0⟩
abbrev CS6_8 : List CT := [.sl cL, .int .i64, .int .i64, .int .i64, .int .i64, .sl cP, .sl cF, .sl cV, .int .i64, .int .i64, .int .i64, .int .i64, .sl cQ]
abbrev CO6_8 : List CT := [.sl cQ]
abbrev CR6_8 : List CT := [.int .i64, .sl cQ]
def SF6_8 : SF := ⟨64, [(1, .c (.h)), (3, .c (.h)), (4, .c (.box 0 0)), (6, .c (.box 1 0)), (11, .c (.ref 2)), (12, .c (.h))], [.box [.h, .h, .h, .h, .h], .box [.h, .h, .h, .h], .row], 0⟩
def SG6_8 : SF := ⟨64, [(11, .c (.ref 0))], [.row], 0⟩
def SH6_8 : SF := ⟨64, [(8, .c (.ref 0)), (9, .c (.h))], [.row], 0⟩
def L6 (k : Nat) : List (Nat × LoopI) := [(13, loopA SF6_13 CS6_13 2 SG6_13 CO6_13 (spec_GreedyNesting_13 k k)), (8, loopB SF6_8 CS6_8 0 SG6_8 CO6_8 SH6_8 CR6_8 (spec_GreedyNesting_8 k k))]
def I90 : FunI := ⟨[.agg [.h, .h]], [.int .i64, .int .i64], .agg [.h, .h], [.int .i64, .int .i64], 0⟩
def I55 : FunI := ⟨[.c (.h)], [.sl cP], .c (.w), [.sl cP], 0⟩
abbrev CS55_3 : List CT := [.sl cP, .int .i64, .sl cP]
abbrev CO55_3 : List CT := [.sl cP]
def SF55_3 : SF := ⟨23, [(0, .c (.h)), (3, .c (.ref 0)), (4, .c (.h))], [.row], 0⟩
def SG55_3 : SF := ⟨23, [(3, .c (.ref 0))], [.row], 0⟩
def L55 (k : Nat) : List (Nat × LoopI) := [(3, loopA SF55_3 CS55_3 0 SG55_3 CO55_3 (laws_toPointS_3 k k))]
def I118 : FunI := ⟨[.c (.h)], [.sl (.int .i64)], .c (.w), [.sl (.int .i64)], 0⟩
abbrev CS118_3 : List CT := [.sl (.int .i64), .int .i64, .sl (.int .i64)]
abbrev CO118_3 : List CT := [.sl (.int .i64)]
def SF118_3 : SF := ⟨22, [(0, .c (.h)), (3, .c (.ref 0)), (4, .c (.h))], [.row], 0⟩
def SG118_3 : SF := ⟨22, [(3, .c (.ref 0))], [.row], 0⟩
def L118 (k : Nat) : List (Nat × LoopI) := [(3, loopA SF118_3 CS118_3 0 SG118_3 CO118_3 (laws_toInt64S_3 k k))]
def I91 : FunI := ⟨[.agg [.h, .h]], [.str, .sl (.int .i64)], .agg [.h, .w], [.str, .sl (.int .i64)], 0⟩
def I56 : FunI := ⟨[.c (.h)], [.sl cF], .c (.w), [.sl cF], 0⟩
abbrev CS56_3 : List CT := [.sl cF, .int .i64, .sl cF]
abbrev CO56_3 : List CT := [.sl cF]
def SF56_3 : SF := ⟨23, [(0, .c (.h)), (3, .c (.ref 0)), (4, .c (.h))], [.row], 0⟩
def SG56_3 : SF := ⟨23, [(3, .c (.ref 0))], [.row], 0⟩
def L56 (k : Nat) : List (Nat × LoopI) := [(3, loopA SF56_3 CS56_3 0 SG56_3 CO56_3 (laws_toFaceS_3 k k))]
def I25 : FunI := ⟨[.agg [.h, .h, .h, .h]], [.int .i64, .int .i64, .sl cP, .sl cF], .agg [.h, .h, .w, .w], [.int .i64, .int .i64, .sl cP, .sl cF], 0⟩
def I57 : FunI := ⟨[.agg [.h, .h, .h]], [.str, .int .i64, .int .i64], .agg [.h, .h, .h], [.str, .int .i64, .int .i64], 0⟩
def I26 : FunI := ⟨[.c (.h)], [.sl cV], .c (.w), [.sl cV], 0⟩
abbrev CS26_3 : List CT := [.sl cV, .int .i64, .sl cV]
abbrev CO26_3 : List CT := [.sl cV]
def SF26_3 : SF := ⟨23, [(0, .c (.h)), (3, .c (.ref 0)), (4, .c (.h))], [.row], 0⟩
def SG26_3 : SF := ⟨23, [(3, .c (.ref 0))], [.row], 0⟩
def L26 (k : Nat) : List (Nat × LoopI) := [(3, loopA SF26_3 CS26_3 0 SG26_3 CO26_3 (laws_toVeneerS_3 k k))]
def I7 : FunI := ⟨[.agg [.h, .h, .h, .h, .h]], [.int .i64, .int .i64, .sl cP, .sl cF, .sl cV], .agg [.h, .h, .w, .w, .w], [.int .i64, .int .i64, .sl cP, .sl cF, .sl cV], 0⟩
def I92 : FunI := ⟨[.agg [.h, .h, .h, .h]], [.int .i64, .int .i64, .int .i64, .int .i64], .agg [.h, .h, .h, .h], [.int .i64, .int .i64, .int .i64, .int .i64], 0⟩
def I58 : FunI := ⟨[.c (.h)], [.sl cB], .c (.w), [.sl cB], 0⟩
abbrev CS58_3 : List CT := [.sl cB, .int .i64, .sl cB]
abbrev CO58_3 : List CT := [.sl cB]
def SF58_3 : SF := ⟨23, [(0, .c (.h)), (3, .c (.ref 0)), (4, .c (.h))], [.row], 0⟩
def SG58_3 : SF := ⟨23, [(3, .c (.ref 0))], [.row], 0⟩
def L58 (k : Nat) : List (Nat × LoopI) := [(3, loopA SF58_3 CS58_3 0 SG58_3 CO58_3 (laws_toBoxS_3 k k))]
def I27 : FunI := ⟨[.agg [.h, .h, .h, .h, .h, .h, .h, .h, .h]], [.str, .str, .int .i64, .str, .int .i64, .int .i64, .int .i64, .int .i64, .sl cB], .agg [.h, .h, .h, .h, .h, .h, .h, .h, .w], [.str, .str, .int .i64, .str, .int .i64, .int .i64, .int .i64, .int .i64, .sl cB], 0⟩
def I8 : FunI := ⟨[.c (.h)], [.sl cL], .c (.w), [.sl cL], 0⟩
abbrev CS8_3 : List CT := [.sl cL, .int .i64, .sl cL]
abbrev CO8_3 : List CT := [.sl cL]
def SF8_3 : SF := ⟨23, [(0, .c (.h)), (3, .c (.ref 0)), (4, .c (.h))], [.row], 0⟩
def SG8_3 : SF := ⟨23, [(3, .c (.ref 0))], [.row], 0⟩
def L8 (k : Nat) : List (Nat × LoopI) := [(3, loopA SF8_3 CS8_3 0 SG8_3 CO8_3 (laws_toLeafS_3 k k))]
def I9 : FunI := ⟨[.agg [.h, .h, .h, .h]], [.int .i64, .int .i64, .int .i64, .int .i64], .agg [.h, .h, .h, .h], [.int .i64, .int .i64, .int .i64, .int .i64], 0⟩
def I62 : FunI := ⟨[.c (.h), .c (.h), .c (.h)], [.int .i64, .int .i64, .int .i64], .c (.h), [.bool], 0⟩
def I96 : FunI := ⟨[.c (.h), .c (.h)], [.sl cP, .sl (.int .i64)], .tup [(false, [.w]), (false, [.h])], [.sl cP, .bool], 0⟩
abbrev CS96_3 : List CT := [.sl cP, .sl (.int .i64), .int .i64, .int .i64, .sl cP]
abbrev CO96_3 : List CT := [.sl cP]
abbrev CR96_3 : List CT := [.bool, .sl cP]
def SF96_3 : SF := ⟨31, [(0, .c (.h)), (6, .c (.ref 0)), (10, .c (.h)), (11, .c (.h)), (12, .c (.h))], [.row], 0⟩
def SG96_3 : SF := ⟨31, [(6, .c (.ref 0))], [.row], 0⟩
def SH96_3 : SF := ⟨31, [(4, .c (.ref 0)), (5, .c (.h))], [.row], 0⟩
def L96 (k : Nat) : List (Nat × LoopI) := [(3, loopB SF96_3 CS96_3 0 SG96_3 CO96_3 SH96_3 CR96_3 (impl_ringPolygon_3 k k))]
def I145 : FunI := ⟨[.c (.h), .agg [.h, .h]], [.sl cP, .int .i64, .int .i64], .c (.h), [.int .i64], 0⟩
abbrev CS145_2 : List CT := [.sl cP, .int .i64, .int .i64, .int .i64, .int .i64]
abbrev CO145_2 : List CT := []
abbrev CR145_2 : List CT := [.int .i64]
def SF145_2 : SF := ⟨19, [(0, .c (.h)), (3, .c (.box 0 0)), (7, .c (.h)), (8, .c (.h))], [.box [.h, .h]], 0⟩
def SG145_2 : SF := ⟨19, [], [], 0⟩
def SH145_2 : SF := ⟨19, [(4, .c (.h))], [], 0⟩
def L145 (k : Nat) : List (Nat × LoopI) := [(2, loopB SF145_2 CS145_2 0 SG145_2 CO145_2 SH145_2 CR145_2 (slices_Index_2 k k))]
def I119 : FunI := ⟨[.c (.h), .agg [.h, .h]], [.sl cP, .int .i64, .int .i64], .c (.h), [.bool], 0⟩
def I120 : FunI := ⟨[.c (.h)], [.str], .c (.h), [.bool], 0⟩
def J120 : Nat → List (Nat × CT) := fun n => match n with | 6 => [(49, .bool)] | 1 => [(21, .bool)] | _ => []
abbrev CS120_4 : List CT := [.str, .int .i64]
abbrev CO120_4 : List CT := []
abbrev CR120_4 : List CT := [.bool]
def SF120_4 : SF := ⟨50, [(0, .c (.h)), (3, .c (.h))], [], 0⟩
def SG120_4 : SF := ⟨50, [], [], 0⟩
def SH120_4 : SF := ⟨50, [(2, .c (.h))], [], 0⟩
def L120 (k : Nat) : List (Nat × LoopI) := [(4, loopB SF120_4 CS120_4 0 SG120_4 CO120_4 SH120_4 CR120_4 (impl_IsName_4 k k))]
def I166 : FunI := ⟨[.agg [.h, .h]], [.int .i64, .int .i64], .c (.h), [.bool], 0⟩
def I146 : FunI := ⟨[.c (.h)], [.sl cP], .c (.h), [.bool], 0⟩
abbrev CS146_2 : List CT := [.sl cP, .int .i64, .int .i64]
abbrev CO146_2 : List CT := []
abbrev CR146_2 : List CT := [.bool]
def SF146_2 : SF := ⟨15, [(5, .c (.h)), (6, .c (.h)), (7, .c (.h))], [], 0⟩
def SG146_2 : SF := ⟨15, [], [], 0⟩
def SH146_2 : SF := ⟨15, [(2, .c (.h))], [], 0⟩
def L146 (k : Nat) : List (Nat × LoopI) := [(2, loopB SF146_2 CS146_2 0 SG146_2 CO146_2 SH146_2 CR146_2 (impl_validPoints_2 k k))]
def I156 : FunI := ⟨[.agg [.h, .h], .agg [.h, .h], .agg [.h, .h]], [.int .i64, .int .i64, .int .i64, .int .i64, .int .i64, .int .i64], .c (.h), [.int .i64], 0⟩
def I147 : FunI := ⟨[.agg [.h, .h], .agg [.h, .h], .agg [.h, .h]], [.int .i64, .int .i64, .int .i64, .int .i64, .int .i64, .int .i64], .c (.h), [.bool], 0⟩
def I167 : FunI := ⟨[.agg [.h, .h], .agg [.h, .h], .agg [.h, .h], .agg [.h, .h]], [.int .i64, .int .i64, .int .i64, .int .i64, .int .i64, .int .i64, .int .i64, .int .i64], .c (.h), [.bool], 0⟩
def I148 : FunI := ⟨[.agg [.h, .h], .agg [.h, .h], .agg [.h, .h], .agg [.h, .h]], [.int .i64, .int .i64, .int .i64, .int .i64, .int .i64, .int .i64, .int .i64, .int .i64], .c (.h), [.bool], 0⟩
def I149 : FunI := ⟨[.c (.h)], [.sl cP], .c (.h), [.int .i64], 0⟩
abbrev CS149_3 : List CT := [.sl cP, .int .i64, .sl cP, .int .i64, .int .i64]
abbrev CO149_3 : List CT := [.int .i64]
def SF149_3 : SF := ⟨37, [(0, .c (.h)), (3, .c (.h)), (7, .c (.h)), (8, .c (.h)), (9, .c (.h))], [], 0⟩
def SG149_3 : SF := ⟨37, [(3, .c (.h))], [], 0⟩
def L149 (k : Nat) : List (Nat × LoopI) := [(3, loopA SF149_3 CS149_3 0 SG149_3 CO149_3 (impl_doubled_3 k k))]
def I121 : FunI := ⟨[.c (.h)], [.sl cP], .c (.h), [.bool], 0⟩
def J121 : Nat → List (Nat × CT) := fun n => match n with | 13 => [(88, .bool)] | 8 => [(59, .bool)] | 2 => [(21, .bool)] | _ => []
abbrev CS121_11 : List CT := [.sl cP, .int .i64, .int .i64, .int .i64, .int .i64, .int .i64, .int .i64, .int .i64, .int .i64, .int .i64]
abbrev CO121_11 : List CT := [.sl cP, .int .i64, .int .i64, .int .i64]
abbrev CR121_11 : List CT := [.bool]
def SF121_11 : SF := ⟨93, [(0, .c (.h)), (3, .c (.h)), (4, .c (.h)), (5, .c (.box 0 0)), (6, .c (.box 1 0)), (8, .c (.h)), (23, .c (.h)), (24, .c (.h))], [.box [.h, .h], .box [.h, .h]], 0⟩
def SG121_11 : SF := ⟨93, [(0, .c (.h)), (3, .c (.h)), (23, .c (.h)), (24, .c (.h))], [], 0⟩
def SH121_11 : SF := ⟨93, [(2, .c (.h))], [], 0⟩
abbrev CS121_5 : List CT := [.sl cP, .int .i64, .int .i64, .int .i64]
abbrev CO121_5 : List CT := [.sl cP]
abbrev CR121_5 : List CT := [.bool]
def SF121_5 : SF := ⟨93, [(0, .c (.h)), (3, .c (.h)), (23, .c (.h)), (24, .c (.h))], [], 0⟩
def SG121_5 : SF := ⟨93, [(0, .c (.h))], [], 0⟩
def SH121_5 : SF := ⟨93, [(2, .c (.h))], [], 0⟩
def L121 (k : Nat) : List (Nat × LoopI) := [(11, loopB SF121_11 CS121_11 2 SG121_11 CO121_11 SH121_11 CR121_11 (impl_ValidPolygon_11 k k)), (5, loopB SF121_5 CS121_5 0 SG121_5 CO121_5 SH121_5 CR121_5 (impl_ValidPolygon_5 k k))]
def I93 : FunI := ⟨[.agg [.h, .h, .h, .h]], [.int .i64, .int .i64, .sl cP, .sl cF], .c (.h), [.bool], 0⟩
def J93 : Nat → List (Nat × CT) := fun n => match n with | 15 => [(104, .bool)] | 12 => [(89, .bool)] | 6 => [(60, .bool)] | 1 => [(30, .bool)] | _ => []
abbrev CS93_4 : List CT := [.sl cP, .int .i64, .int .i64, .int .i64, .int .i64, .sl cP, .sl cF]
abbrev CO93_4 : List CT := [.int .i64, .int .i64, .sl cP, .sl cF]
abbrev CR93_4 : List CT := [.bool]
def SF93_4 : SF := ⟨106, [(1, .c (.box 0 0)), (32, .c (.h)), (33, .c (.h)), (34, .c (.h))], [.box [.h, .h, .h, .h]], 0⟩
def SG93_4 : SF := ⟨106, [(1, .c (.box 0 0))], [.box [.h, .h, .h, .h]], 0⟩
def SH93_4 : SF := ⟨106, [(2, .c (.h))], [], 0⟩
abbrev CS93_10 : List CT := [.sl cF, .int .i64, .int .i64, .int .i64, .int .i64, .sl cP, .sl cF]
abbrev CO93_10 : List CT := []
abbrev CR93_10 : List CT := [.bool]
def SF93_10 : SF := ⟨106, [(1, .c (.box 0 0)), (63, .c (.h)), (64, .c (.h)), (65, .c (.h))], [.box [.h, .h, .h, .h]], 0⟩
def SG93_10 : SF := ⟨106, [], [], 0⟩
def SH93_10 : SF := ⟨106, [(2, .c (.h))], [], 0⟩
def L93 (k : Nat) : List (Nat × LoopI) := [(4, loopB SF93_4 CS93_4 0 SG93_4 CO93_4 SH93_4 CR93_4 (impl_ValidDrawing_4 k k)), (10, loopB SF93_10 CS93_10 2 SG93_10 CO93_10 SH93_10 CR93_10 (impl_ValidDrawing_10 k k))]
def I168 : FunI := ⟨[.c (.h)], [.str], .tup [(false, [.h]), (false, [.h]), (false, [.h]), (false, [.h])], [.int .i64, .int .i64, .int .i64, .int .i64], 0⟩
def I151 : FunI := ⟨[.c (.h)], [.str], .tup [(false, [.h]), (false, [.h])], [.int .i64, .bool], 0⟩
def I124 : FunI := ⟨[.agg [.h, .h, .h]], [.str, .int .i64, .int .i64], .c (.h), [.bool], 0⟩
def I123 : FunI := ⟨[.agg [.h, .h, .h]], [.str, .int .i64, .int .i64], .c (.h), [.bool], 0⟩
def I150 : FunI := ⟨[.c (.h), .fn 123 []], [.sl cV], .c (.h), [.int .i64], 0⟩
abbrev CS150_2 : List CT := [.sl cV, .int .i64, .int .i64]
abbrev CO150_2 : List CT := []
abbrev CR150_2 : List CT := [.int .i64]
def SF150_2 : SF := ⟨19, [(0, .c (.h)), (1, .fn 123 []), (7, .c (.h)), (8, .c (.h))], [], 0⟩
def SG150_2 : SF := ⟨19, [], [], 0⟩
def SH150_2 : SF := ⟨19, [(4, .c (.h))], [], 0⟩
def L150 (k : Nat) : List (Nat × LoopI) := [(2, loopB SF150_2 CS150_2 0 SG150_2 CO150_2 SH150_2 CR150_2 (slices_IndexFunc_2 k k))]
def I122 : FunI := ⟨[.c (.h), .fn 123 []], [.sl cV], .c (.h), [.bool], 0⟩
def I94 : FunI := ⟨[.c (.h)], [.sl cV], .c (.h), [.bool], 0⟩
def I59 : FunI := ⟨[.agg [.h, .h, .h, .h, .h]], [.int .i64, .int .i64, .sl cP, .sl cF, .sl cV], .c (.h), [.bool], 0⟩
def I127 : FunI := ⟨[.agg [.h, .h, .h, .h], .c (.h), .c (.h)], [.int .i64, .int .i64, .int .i64, .int .i64, .int .i64, .int .i64], .c (.h), [.bool], 0⟩
def I126 : ProcI := ⟨[.agg [.h, .h, .h, .h], .c (.box 1 0)], [.gone, .box [.h, .h, .h, .h, .h, .h, .h, .h, .h]], [.int .i64, .int .i64, .int .i64, .int .i64, .str, .str, .int .i64, .str, .int .i64, .int .i64, .int .i64, .int .i64, .sl cB], .c (.h), [.gone, .box [.h, .h, .h, .h, .h, .h, .h, .h, .h]], [.bool, .str, .str, .int .i64, .str, .int .i64, .int .i64, .int .i64, .int .i64, .sl cB], false⟩
def I152 : ProcI := ⟨[.c (.h), .fn 126 [.box 1 0]], [.gone, .box [.h, .h, .h, .h, .h, .h, .h, .h, .h]], [.sl cB, .str, .str, .int .i64, .str, .int .i64, .int .i64, .int .i64, .int .i64, .sl cB], .c (.h), [.gone, .box [.h, .h, .h, .h, .h, .h, .h, .h, .h]], [.int .i64, .str, .str, .int .i64, .str, .int .i64, .int .i64, .int .i64, .int .i64, .sl cB], false⟩
abbrev CS152_2 : List CT := [.sl cB, .int .i64, .int .i64, .str, .str, .int .i64, .str, .int .i64, .int .i64, .int .i64, .int .i64, .sl cB]
abbrev CO152_2 : List CT := [.str, .str, .int .i64, .str, .int .i64, .int .i64, .int .i64, .int .i64, .sl cB]
abbrev CR152_2 : List CT := [.int .i64, .str, .str, .int .i64, .str, .int .i64, .int .i64, .int .i64, .int .i64, .sl cB]
def SF152_2 : SF := ⟨19, [(0, .c (.h)), (1, .fn 126 [.box 1 0]), (7, .c (.h)), (8, .c (.h))], [.gone, .box [.h, .h, .h, .h, .h, .h, .h, .h, .h]], 2⟩
def SG152_2 : SF := ⟨19, [], [.gone, .box [.h, .h, .h, .h, .h, .h, .h, .h, .h]], 2⟩
def SH152_2 : SF := ⟨19, [(4, .c (.h))], [.gone, .box [.h, .h, .h, .h, .h, .h, .h, .h, .h]], 2⟩
def L152 (k : Nat) : List (Nat × LoopI) := [(2, loopB SF152_2 CS152_2 0 SG152_2 CO152_2 SH152_2 CR152_2 (slices_IndexFunc_152_2 k k))]
def I125 : ProcI := ⟨[.c (.h), .fn 126 [.box 1 0]], [.gone, .box [.h, .h, .h, .h, .h, .h, .h, .h, .h]], [.sl cB, .str, .str, .int .i64, .str, .int .i64, .int .i64, .int .i64, .int .i64, .sl cB], .c (.h), [.gone, .box [.h, .h, .h, .h, .h, .h, .h, .h, .h]], [.bool, .str, .str, .int .i64, .str, .int .i64, .int .i64, .int .i64, .int .i64, .sl cB], false⟩
def I95 : FunI := ⟨[.agg [.h, .h, .h, .h, .h, .h, .h, .h, .h]], [.str, .str, .int .i64, .str, .int .i64, .int .i64, .int .i64, .int .i64, .sl cB], .c (.h), [.bool], 0⟩
def J95 : Nat → List (Nat × CT) := fun n => match n with | 3 => [(40, .bool)] | 1 => [(24, .bool)] | _ => []
def I60 : FunI := ⟨[.c (.h)], [.sl cL], .c (.h), [.bool], 0⟩
def J60 : Nat → List (Nat × CT) := fun n => match n with | 4 => [(29, .bool)] | _ => []
abbrev CS60_2 : List CT := [.sl cL, .sl cL, .int .i64, .int .i64]
abbrev CO60_2 : List CT := [.sl cL]
abbrev CR60_2 : List CT := [.bool]
def SF60_2 : SF := ⟨34, [(0, .c (.h)), (5, .c (.h)), (6, .c (.h)), (7, .c (.h))], [], 0⟩
def SG60_2 : SF := ⟨34, [(0, .c (.h))], [], 0⟩
def SH60_2 : SF := ⟨34, [(2, .c (.h))], [], 0⟩
def L60 (k : Nat) : List (Nat × LoopI) := [(2, loopB SF60_2 CS60_2 0 SG60_2 CO60_2 SH60_2 CR60_2 (impl_ValidLeaves_2 k k))]
def I61 : FunI := ⟨[.agg [.h, .h, .h, .h]], [.int .i64, .int .i64, .int .i64, .int .i64], .c (.h), [.bool], 0⟩
def I28 : FunI := ⟨[.agg [.h, .h, .h, .h, .h], .c (.h), .agg [.h, .h, .h, .h], .c (.h), .c (.h)], [.int .i64, .int .i64, .sl cP, .sl cF, .sl cV, .sl cL, .int .i64, .int .i64, .int .i64, .int .i64, .int .i64, .int .i64], .c (.h), [.int .i64], 0⟩
abbrev CS28_6 : List CT := [.int .i64, .sl cL, .int .i64, .int .i64]
abbrev CO28_6 : List CT := []
abbrev CR28_6 : List CT := [.int .i64]
def SF28_6 : SF := ⟨55, [(3, .c (.h)), (36, .c (.h)), (37, .c (.h)), (38, .c (.h))], [], 0⟩
def SG28_6 : SF := ⟨55, [], [], 0⟩
def SH28_6 : SF := ⟨55, [(10, .c (.h))], [], 0⟩
def L28 (k : Nat) : List (Nat × LoopI) := [(6, loopB SF28_6 CS28_6 1 SG28_6 CO28_6 SH28_6 CR28_6 (impl_nestCode_6 k k))]
def I63 : FunI := ⟨[.agg [.h, .h, .h, .h], .c (.h)], [.int .i64, .int .i64, .sl cP, .sl cF, .int .i64], .c (.w), [.sl cP], 0⟩
def I97 : FunI := ⟨[.c (.h), .c (.h)], [.int .i64, .int .i64], .tup [(false, [.h]), (false, [.h])], [.int .i64, .int .i64], 0⟩
def J97 : Nat → List (Nat × CT) := fun n => match n with | 1 => [(13, .bool)] | _ => []
def I98 : FunI := ⟨[.c (.h), .c (.h)], [.int .i64, .int .i64], .tup [(false, [.h]), (false, [.h])], [.int .i64, .int .i64], 0⟩
def J98 : Nat → List (Nat × CT) := fun n => match n with | 1 => [(14, .bool)] | _ => []
def I64 : FunI := ⟨[.agg [.h, .h, .h], .agg [.h, .h, .h, .h, .h, .h, .h, .h, .h], .c (.h), .agg [.h, .h, .h, .h]], [.str, .int .i64, .int .i64, .str, .str, .int .i64, .str, .int .i64, .int .i64, .int .i64, .int .i64, .sl cB, .int .i64, .int .i64, .int .i64, .int .i64, .int .i64], .c (.h), [.int .i64], 0⟩
def I66 : FunI := ⟨[.c (.h)], [.sl cP], .tup [(true, [.h, .h]), (true, [.h, .h])], [.int .i64, .int .i64, .int .i64, .int .i64], 0⟩
abbrev CS66_3 : List CT := [.sl cP, .int .i64, .int .i64, .int .i64, .int .i64, .int .i64, .int .i64, .int .i64, .int .i64, .int .i64, .int .i64]
abbrev CO66_3 : List CT := [.int .i64, .int .i64, .int .i64, .int .i64, .int .i64, .int .i64, .int .i64, .int .i64]
def SF66_3 : SF := ⟨45, [(2, .c (.box 0 0)), (3, .c (.box 1 0)), (4, .c (.box 2 0)), (5, .c (.box 3 0)), (14, .c (.h)), (15, .c (.h)), (16, .c (.h))], [.box [.h, .h], .box [.h, .h], .box [.h, .h], .box [.h, .h]], 0⟩
def SG66_3 : SF := ⟨45, [(2, .c (.box 0 0)), (3, .c (.box 1 0)), (4, .c (.box 2 0)), (5, .c (.box 3 0))], [.box [.h, .h], .box [.h, .h], .box [.h, .h], .box [.h, .h]], 0⟩
def L66 (k : Nat) : List (Nat × LoopI) := [(3, loopA SF66_3 CS66_3 0 SG66_3 CO66_3 (impl_bounds_3 k k))]
def I67 : FunI := ⟨[.c (.h), .c (.h), .c (.h)], [.sl cP, .int .i64, .int .i64], .c (.w), [.sl cP], 0⟩
abbrev CS67_3 : List CT := [.int .i64, .int .i64, .sl cP, .int .i64, .int .i64, .sl cP]
abbrev CO67_3 : List CT := [.sl cP]
def SF67_3 : SF := ⟨31, [(1, .c (.h)), (2, .c (.h)), (7, .c (.ref 0)), (11, .c (.h)), (12, .c (.h)), (13, .c (.h))], [.row], 0⟩
def SG67_3 : SF := ⟨31, [(7, .c (.ref 0))], [.row], 0⟩
def L67 (k : Nat) : List (Nat × LoopI) := [(3, loopA SF67_3 CS67_3 0 SG67_3 CO67_3 (impl_shifted_3 k k))]
def I99 : FunI := ⟨[.agg [.h, .h], .c (.h)], [.int .i64, .int .i64, .int .i64], .agg [.h, .h], [.int .i64, .int .i64], 0⟩
def J99 : Nat → List (Nat × CT) := fun n => match n with | 1 => [(20, .bool)] | _ => []
abbrev CS99_6 : List CT := [.int .i64, .int .i64, .int .i64, .int .i64, .int .i64]
abbrev CO99_6 : List CT := [.int .i64, .int .i64, .int .i64, .int .i64]
def SF99_6 : SF := ⟨41, [(2, .c (.box 0 0)), (4, .c (.box 1 0)), (5, .c (.h))], [.box [.h, .h], .box [.h, .h]], 0⟩
def SG99_6 : SF := ⟨41, [(2, .c (.box 0 0)), (4, .c (.box 1 0))], [.box [.h, .h], .box [.h, .h]], 0⟩
def L99 (k : Nat) : List (Nat × LoopI) := [(6, loopA SF99_6 CS99_6 0 SG99_6 CO99_6 (impl_Turned_6 k k))]
def I100 : ProcI := ⟨[.c (.sub 1)], [.gone, .row], [.int .i64, .int .i64, .sl cP], .tup [], [.gone, .row], [.sl cP], true⟩
abbrev CS100_1 : List CT := [.int .i64, .int .i64, .int .i64, .int .i64, .sl cP]
abbrev CO100_1 : List CT := [.sl cP]
def SF100_1 : SF := ⟨28, [(0, .c (.sub 1)), (2, .c (.h)), (3, .c (.h))], [.gone, .row], 2⟩
def SG100_1 : SF := ⟨28, [], [.gone, .row], 2⟩
def L100 (k : Nat) : List (Nat × LoopI) := [(1, loopA SF100_1 CS100_1 0 SG100_1 CO100_1 (slices_Reverse_1 k k))]
def I65 : FunI := ⟨[.c (.h), .c (.h)], [.sl cP, .int .i64], .c (.w), [.sl cP], 0⟩
abbrev CS65_3 : List CT := [.int .i64, .sl cP, .int .i64, .int .i64, .sl cP]
abbrev CO65_3 : List CT := [.int .i64, .sl cP]
def SF65_3 : SF := ⟨42, [(1, .c (.h)), (5, .c (.ref 0)), (11, .c (.h)), (12, .c (.h)), (13, .c (.h))], [.row], 0⟩
def SG65_3 : SF := ⟨42, [(1, .c (.h)), (5, .c (.ref 0))], [.row], 0⟩
def L65 (k : Nat) : List (Nat × LoopI) := [(3, loopA SF65_3 CS65_3 0 SG65_3 CO65_3 (impl_turnPoints_3 k k))]
def I153 : FunI := ⟨[.c (.h)], [.sl cP], .c (.w), [.sl cP], 0⟩
def I169 : FunI := ⟨[.agg [.h, .h], .agg [.h, .h], .agg [.h, .h], .agg [.h, .h]], [.int .i64, .int .i64, .int .i64, .int .i64, .int .i64, .int .i64, .int .i64, .int .i64], .c (.h), [.bool], 0⟩
def I154 : FunI := ⟨[.c (.h), .c (.h)], [.sl cP, .int .i64], .c (.h), [.bool], 0⟩
def J154 : Nat → List (Nat × CT) := fun n => match n with | 8 => [(72, .bool)] | _ => []
abbrev CS154_6 : List CT := [.int .i64, .int .i64, .sl cP, .int .i64, .int .i64, .int .i64, .int .i64, .int .i64, .int .i64, .int .i64, .int .i64]
abbrev CO154_6 : List CT := []
abbrev CR154_6 : List CT := [.bool]
def SF154_6 : SF := ⟨74, [(1, .c (.h)), (5, .c (.h)), (6, .c (.box 0 0)), (7, .c (.box 1 0)), (8, .c (.box 2 0)), (38, .c (.h)), (39, .c (.h)), (40, .c (.h))], [.box [.h, .h], .box [.h, .h], .box [.h, .h]], 0⟩
def SG154_6 : SF := ⟨74, [], [], 0⟩
def SH154_6 : SF := ⟨74, [(4, .c (.h))], [], 0⟩
def L154 (k : Nat) : List (Nat × LoopI) := [(6, loopB SF154_6 CS154_6 0 SG154_6 CO154_6 SH154_6 CR154_6 (impl_ear_6 k k))]
def I128 : FunI := ⟨[.c (.h)], [.sl cP], .c (.w), [.sl (.sl cP)], 0⟩
abbrev CS128_5 : List CT := [.int .i64, .int .i64, .int .i64, .int .i64, .sl (.sl cP), .sl cP]
abbrev CO128_5 : List CT := [.int .i64, .int .i64, .sl (.sl cP), .sl cP]
def SF128_5 : SF := ⟨62, [(3, .c (.ref 0)), (4, .c (.ref 1)), (5, .c (.h)), (6, .c (.h)), (17, .c (.h)), (18, .c (.h))], [.row, .row], 0⟩
def SG128_5 : SF := ⟨62, [(3, .c (.ref 0)), (4, .c (.ref 1)), (5, .c (.h)), (6, .c (.h))], [.row, .row], 0⟩
abbrev CS128_2 : List CT := [.sl (.sl cP), .sl cP]
abbrev CO128_2 : List CT := [.sl (.sl cP), .sl cP]
abbrev CR128_2 : List CT := [.sl (.sl cP)]
def SF128_2 : SF := ⟨62, [(3, .c (.ref 0)), (4, .c (.ref 1))], [.row, .row], 0⟩
def SG128_2 : SF := ⟨62, [(3, .c (.ref 0)), (4, .c (.ref 1))], [.row, .row], 0⟩
def SH128_2 : SF := ⟨62, [(2, .c (.ref 0))], [.row], 0⟩
def L128 (k : Nat) : List (Nat × LoopI) := [(5, loopA SF128_5 CS128_5 2 SG128_5 CO128_5 (impl_triangles_5 k k)), (2, loopB SF128_2 CS128_2 0 SG128_2 CO128_2 SH128_2 CR128_2 (impl_triangles_2 k k))]
def I129 : FunI := ⟨[.c (.h), .c (.h)], [.sl cP, .sl cP], .c (.h), [.bool], 0⟩
abbrev CS129_6 : List CT := [.sl cP, .sl cP, .int .i64, .bool, .int .i64, .int .i64, .sl cP, .int .i64, .int .i64]
abbrev CO129_6 : List CT := [.sl cP, .sl cP, .bool, .int .i64, .int .i64]
def SF129_6 : SF := ⟨39, [(0, .c (.h)), (1, .c (.h)), (5, .c (.h)), (6, .c (.h)), (10, .c (.h)), (11, .c (.h)), (14, .c (.h)), (15, .c (.h)), (16, .c (.h))], [], 0⟩
def SG129_6 : SF := ⟨39, [(0, .c (.h)), (1, .c (.h)), (6, .c (.h)), (10, .c (.h)), (11, .c (.h))], [], 0⟩
abbrev CS129_2 : List CT := [.sl cP, .sl cP, .int .i64, .int .i64]
abbrev CO129_2 : List CT := []
abbrev CR129_2 : List CT := [.bool]
def SF129_2 : SF := ⟨39, [(0, .c (.h)), (1, .c (.h)), (10, .c (.h)), (11, .c (.h))], [], 0⟩
def SG129_2 : SF := ⟨39, [], [], 0⟩
def SH129_2 : SF := ⟨39, [(4, .c (.h))], [], 0⟩
def L129 (k : Nat) : List (Nat × LoopI) := [(6, loopA SF129_6 CS129_6 2 SG129_6 CO129_6 (impl_beside_6 k k)), (2, loopB SF129_2 CS129_2 0 SG129_2 CO129_2 SH129_2 CR129_2 (impl_beside_2 k k))]
def I101 : FunI := ⟨[.c (.h), .c (.h)], [.sl cP, .sl cP], .c (.h), [.bool], 0⟩
def J101 : Nat → List (Nat × CT) := fun n => match n with | 12 => [(74, .bool)] | 3 => [(49, .bool)] | _ => []
abbrev CS101_10 : List CT := [.sl (.sl cP), .sl cP, .sl (.sl cP), .int .i64, .int .i64, .sl (.sl cP), .int .i64, .int .i64]
abbrev CO101_10 : List CT := [.sl (.sl cP), .sl (.sl cP), .int .i64, .int .i64]
abbrev CR101_10 : List CT := [.bool]
def SF101_10 : SF := ⟨77, [(9, .c (.h)), (11, .c (.h)), (53, .c (.h)), (54, .c (.h)), (55, .c (.h)), (59, .c (.h)), (60, .c (.h)), (61, .c (.h))], [], 0⟩
def SG101_10 : SF := ⟨77, [(9, .c (.h)), (53, .c (.h)), (54, .c (.h)), (55, .c (.h))], [], 0⟩
def SH101_10 : SF := ⟨77, [(4, .c (.h))], [], 0⟩
abbrev CS101_7 : List CT := [.sl (.sl cP), .sl (.sl cP), .int .i64, .int .i64]
abbrev CO101_7 : List CT := []
abbrev CR101_7 : List CT := [.bool]
def SF101_7 : SF := ⟨77, [(9, .c (.h)), (53, .c (.h)), (54, .c (.h)), (55, .c (.h))], [], 0⟩
def SG101_7 : SF := ⟨77, [], [], 0⟩
def SH101_7 : SF := ⟨77, [(4, .c (.h))], [], 0⟩
def L101 (k : Nat) : List (Nat × LoopI) := [(10, loopB SF101_10 CS101_10 2 SG101_10 CO101_10 SH101_10 CR101_10 (impl_apart_10 k k)), (7, loopB SF101_7 CS101_7 0 SG101_7 CO101_7 SH101_7 CR101_7 (impl_apart_7 k k))]
def I102 : FunI := ⟨[.agg [.h, .h, .h, .h]], [.int .i64, .int .i64, .int .i64, .int .i64], .c (.w), [.sl cP], 0⟩
def I68 : FunI := ⟨[.c (.h), .agg [.h, .h, .h, .h, .h, .h, .h, .h, .h], .agg [.h, .h, .h, .h]], [.sl cP, .str, .str, .int .i64, .str, .int .i64, .int .i64, .int .i64, .int .i64, .sl cB, .int .i64, .int .i64, .int .i64, .int .i64], .c (.h), [.int .i64], 0⟩
def J68 : Nat → List (Nat × CT) := fun n => match n with | 2 => [(47, .bool)] | _ => []
abbrev CS68_5 : List CT := [.sl cP, .sl cB, .int .i64, .int .i64]
abbrev CO68_5 : List CT := []
abbrev CR68_5 : List CT := [.int .i64]
def SF68_5 : SF := ⟨61, [(0, .c (.h)), (49, .c (.h)), (50, .c (.h)), (51, .c (.h))], [], 0⟩
def SG68_5 : SF := ⟨61, [], [], 0⟩
def SH68_5 : SF := ⟨61, [(6, .c (.h))], [], 0⟩
def L68 (k : Nat) : List (Nat × LoopI) := [(5, loopB SF68_5 CS68_5 0 SG68_5 CO68_5 SH68_5 CR68_5 (impl_leafFault_5 k k))]
def I157 : FunI := ⟨[.c (.h), .agg [.h, .h]], [.sl cP, .int .i64, .int .i64], .c (.h), [.int .i64], 0⟩
abbrev CS157_3 : List CT := [.sl cP, .int .i64, .sl cP, .int .i64, .int .i64, .int .i64, .int .i64]
abbrev CO157_3 : List CT := [.int .i64]
abbrev CR157_3 : List CT := [.int .i64]
def SF157_3 : SF := ⟨57, [(0, .c (.h)), (3, .c (.box 0 0)), (5, .c (.h)), (10, .c (.h)), (11, .c (.h)), (12, .c (.h))], [.box [.h, .h]], 0⟩
def SG157_3 : SF := ⟨57, [(5, .c (.h))], [], 0⟩
def SH157_3 : SF := ⟨57, [(4, .c (.h))], [], 0⟩
def L157 (k : Nat) : List (Nat × LoopI) := [(3, loopB SF157_3 CS157_3 0 SG157_3 CO157_3 SH157_3 CR157_3 (impl_inside_3 k k))]
def I171 : FunI := ⟨[.agg [.h, .h], .agg [.h, .h]], [.int .i64, .int .i64, .int .i64, .int .i64], .c (.h), [.int .i64], 0⟩
def I172 : FunI := ⟨[.c (.h)], [.int .i64], .c (.h), [.int .i64], 0⟩
abbrev CS172_4 : List CT := [.int .i64, .int .i64, .int .i64]
abbrev CO172_4 : List CT := [.int .i64]
def SF172_4 : SF := ⟨25, [(0, .c (.h)), (3, .c (.h)), (4, .c (.h))], [], 0⟩
def SG172_4 : SF := ⟨25, [(3, .c (.h))], [], 0⟩
def L172 (k : Nat) : List (Nat × LoopI) := [(4, loopA SF172_4 CS172_4 0 SG172_4 CO172_4 (impl_RootOf_4 k k))]
def I173 : FunI := ⟨[.c (.h), .c (.h)], [.int .u64, .int .u64], .tup [(false, [.h]), (false, [.h])], [.int .u64, .int .u64], 0⟩
def I174 : FunI := ⟨[.c (.h), .c (.h), .c (.h)], [.int .u64, .int .u64, .int .u64], .tup [(false, [.h]), (false, [.h])], [.int .u64, .int .u64], 0⟩
def J174 : Nat → List (Nat × CT) := fun n => match n with | 24 => [(113, .bool)] | 17 => [(78, .bool)] | _ => []
def I170 : FunI := ⟨[.agg [.h, .h], .agg [.h, .h], .agg [.h, .h]], [.int .i64, .int .i64, .int .i64, .int .i64, .int .i64, .int .i64], .c (.h), [.int .i64], 0⟩
def I158 : FunI := ⟨[.agg [.h, .h], .agg [.h, .h], .agg [.h, .h], .agg [.h, .h]], [.int .i64, .int .i64, .int .i64, .int .i64, .int .i64, .int .i64, .int .i64, .int .i64], .c (.h), [.int .i64], 0⟩
def I130 : FunI := ⟨[.c (.h), .c (.h)], [.sl cP, .sl cP], .c (.h), [.int .i64], 0⟩
def J130 : Nat → List (Nat × CT) := fun n => match n with | 11 => [(64, .bool)] | 1 => [(22, .bool)] | _ => []
abbrev CS130_8 : List CT := [.sl cP, .sl cP, .int .i64, .int .i64, .int .i64, .int .i64, .int .i64, .int .i64]
abbrev CO130_8 : List CT := [.sl cP, .sl cP, .int .i64, .int .i64, .int .i64]
def SF130_8 : SF := ⟨69, [(0, .c (.h)), (1, .c (.h)), (5, .c (.h)), (6, .c (.h)), (24, .c (.h)), (25, .c (.h)), (29, .c (.h)), (30, .c (.h))], [], 0⟩
def SG130_8 : SF := ⟨69, [(0, .c (.h)), (1, .c (.h)), (5, .c (.h)), (24, .c (.h)), (25, .c (.h))], [], 0⟩
abbrev CS130_5 : List CT := [.sl cP, .sl cP, .int .i64, .int .i64, .int .i64]
abbrev CO130_5 : List CT := [.int .i64]
def SF130_5 : SF := ⟨69, [(0, .c (.h)), (1, .c (.h)), (5, .c (.h)), (24, .c (.h)), (25, .c (.h))], [], 0⟩
def SG130_5 : SF := ⟨69, [(5, .c (.h))], [], 0⟩
def L130 (k : Nat) : List (Nat × LoopI) := [(8, loopA SF130_8 CS130_8 2 SG130_8 CO130_8 (impl_gap_8 k k)), (5, loopA SF130_5 CS130_5 0 SG130_5 CO130_5 (impl_gap_5 k k))]
def I103 : FunI := ⟨[.c (.h), .c (.h), .agg [.h, .h, .h, .h]], [.sl cP, .sl cP, .int .i64, .int .i64, .int .i64, .int .i64], .c (.h), [.bool], 0⟩
def I69 : FunI := ⟨[.fp [.h, .h, .h, .h, .h, .h, .h, .h, .h, .h, .h, .h, .h, .h], .c (.h), .c (.h)], [.int .i64, .int .i64, .sl cP, .sl cF, .sl cV, .sl cL, .int .i64, .int .i64, .int .i64, .int .i64, .int .i64, .sl cQ, .sl (.sl cP), .int .i64, .int .i64, .sl cP], .c (.h), [.bool], 0⟩
def J69 : Nat → List (Nat × CT) := fun n => match n with | 4 => [(37, .bool)] | _ => []
abbrev CS69_2 : List CT := [.int .i64, .int .i64, .sl cP, .sl cF, .sl cV, .sl cL, .int .i64, .int .i64, .int .i64, .int .i64, .int .i64, .sl cQ, .sl (.sl cP), .int .i64, .int .i64, .sl cP, .sl cQ, .int .i64, .int .i64]
abbrev CO69_2 : List CT := []
abbrev CR69_2 : List CT := [.bool]
def SF69_2 : SF := ⟨39, [(0, .fp [.h, .h, .h, .h, .h, .h, .h, .h, .h, .h, .h, .h, .h, .h]), (1, .c (.h)), (2, .c (.h)), (12, .c (.h)), (13, .c (.h)), (14, .c (.h))], [], 0⟩
def SG69_2 : SF := ⟨39, [], [], 0⟩
def SH69_2 : SF := ⟨39, [(6, .c (.h))], [], 0⟩
def L69 (k : Nat) : List (Nat × LoopI) := [(2, loopB SF69_2 CS69_2 0 SG69_2 CO69_2 SH69_2 CR69_2 (impl_nest_free_2 k k))]
def I31 : ProcI := ⟨[.c (.box 1 0), .agg [.h, .h, .h, .h, .h], .c (.ref 2)], [.gone, .box [.h, .h, .h, .h, .h, .h, .h, .h, .h, .h, .h, .ref 3, .ref 4, .h], .row, .row, .row], [.int .i64, .int .i64, .int .i64, .int .i64, .int .i64, .int .i64, .int .i64, .sl cP, .sl cF, .sl cV, .sl cL, .int .i64, .int .i64, .int .i64, .int .i64, .int .i64, .int .i64, .sl cP, .sl cQ, .sl (.sl cP)], .tup [], [.gone, .box [.h, .h, .h, .h, .h, .h, .h, .h, .h, .h, .h, .ref 5, .ref 6, .h], .gone, .gone, .gone, .row, .row], [.int .i64, .int .i64, .sl cP, .sl cF, .sl cV, .sl cL, .int .i64, .int .i64, .int .i64, .int .i64, .int .i64, .int .i64, .sl cQ, .sl (.sl cP)], false⟩
def I30 : ProcI := ⟨[.agg [.h, .h, .h, .h, .h], .c (.ref 1), .c (.box 2 0)], [.gone, .row, .box [.box 3 0], .box [.h, .h, .h, .h, .h, .h, .h, .h, .h, .h, .h, .ref 4, .ref 5, .h], .row, .row], [.int .i64, .int .i64, .int .i64, .int .i64, .int .i64, .sl cP, .int .i64, .int .i64, .sl cP, .sl cF, .sl cV, .sl cL, .int .i64, .int .i64, .int .i64, .int .i64, .int .i64, .int .i64, .sl cQ, .sl (.sl cP)], .c (.cb false), [.gone, .gone, .box [.box 3 0], .box [.h, .h, .h, .h, .h, .h, .h, .h, .h, .h, .h, .ref 6, .ref 7, .h], .gone, .gone, .row, .row], [.int .i64, .int .i64, .sl cP, .sl cF, .sl cV, .sl cL, .int .i64, .int .i64, .int .i64, .int .i64, .int .i64, .int .i64, .sl cQ, .sl (.sl cP)], false⟩
def I29 : ProcI := ⟨[.c (.box 1 0), .c (.h), .fn 30 [.box 2 0]], [.gone, .box [.h, .h, .h, .h, .h, .h, .h, .h, .h, .h, .h, .ref 3, .ref 4, .h], .box [.box 1 0], .row, .row], [.int .i64, .int .i64, .int .i64, .sl cP, .sl cF, .sl cV, .sl cL, .int .i64, .int .i64, .int .i64, .int .i64, .int .i64, .int .i64, .sl cQ, .sl (.sl cP)], .tup [], [.gone, .box [.h, .h, .h, .h, .h, .h, .h, .h, .h, .h, .h, .ref 5, .ref 6, .h], .box [.box 1 0], .gone, .gone, .row, .row], [.int .i64, .int .i64, .sl cP, .sl cF, .sl cV, .sl cL, .int .i64, .int .i64, .int .i64, .int .i64, .int .i64, .int .i64, .sl cQ, .sl (.sl cP)], false⟩
def J29 : Nat → List (Nat × CT) := fun n => match n with | 17 => [(126, .bool)] | _ => []
abbrev CS29_14 : List CT := [.int .i64, .int .i64, .int .i64, .int .i64, .int .i64, .sl cL, .int .i64, .int .i64, .int .i64, .int .i64, .int .i64, .sl cP, .sl cF, .sl cV, .sl cL, .int .i64, .int .i64, .int .i64, .int .i64, .int .i64, .int .i64, .sl cQ, .sl (.sl cP), .sl cP, .str, .str, .int .i64, .str, .int .i64, .int .i64, .int .i64, .int .i64, .sl cB, .sl cP, .int .i64, .int .i64]
abbrev CO29_14 : List CT := [.int .i64, .int .i64, .int .i64, .int .i64, .sl cL, .int .i64, .int .i64, .int .i64, .int .i64, .int .i64, .sl cP, .sl cF, .sl cV, .sl cL, .int .i64, .int .i64, .int .i64, .int .i64, .int .i64, .int .i64, .sl cQ, .sl (.sl cP), .sl cP, .str, .str, .int .i64, .str, .int .i64, .int .i64, .int .i64, .int .i64, .sl cB, .sl cP, .int .i64, .int .i64]
abbrev CR29_14 : List CT := [.int .i64, .int .i64, .sl cP, .sl cF, .sl cV, .sl cL, .int .i64, .int .i64, .int .i64, .int .i64, .int .i64, .int .i64, .sl cQ, .sl (.sl cP)]
def SF29_14 : SF := ⟨139, [(0, .c (.box 1 0)), (1, .c (.h)), (2, .fn 30 [.box 2 0]), (6, .c (.ref 5)), (7, .c (.h)), (8, .c (.box 6 0)), (9, .c (.h)), (10, .c (.ref 7)), (12, .c (.box 8 0)), (13, .c (.h)), (14, .c (.h)), (26, .c (.h)), (27, .c (.h)), (28, .c (.h)), (33, .c (.h))], [.gone, .box [.h, .h, .h, .h, .h, .h, .h, .h, .h, .h, .h, .ref 3, .ref 4, .h], .box [.box 1 0], .row, .row, .row, .box [.h, .h, .h, .h, .h, .h, .h, .h, .h], .row, .box [.h, .h]], 5⟩
def SG29_14 : SF := ⟨139, [(0, .c (.box 1 0)), (1, .c (.h)), (2, .fn 30 [.box 2 0]), (6, .c (.ref 5)), (7, .c (.h)), (8, .c (.box 6 0)), (9, .c (.h)), (10, .c (.ref 7)), (12, .c (.box 8 0)), (13, .c (.h)), (26, .c (.h)), (27, .c (.h)), (28, .c (.h)), (33, .c (.h))], [.gone, .box [.h, .h, .h, .h, .h, .h, .h, .h, .h, .h, .h, .ref 3, .ref 4, .h], .box [.box 1 0], .row, .row, .row, .box [.h, .h, .h, .h, .h, .h, .h, .h, .h], .row, .box [.h, .h]], 5⟩
def SH29_14 : SF := ⟨139, [], [.gone, .box [.h, .h, .h, .h, .h, .h, .h, .h, .h, .h, .h, .ref 5, .ref 6, .h], .box [.box 1 0], .gone, .gone, .row, .row], 5⟩
abbrev CS29_11 : List CT := [.int .i64, .int .i64, .int .i64, .int .i64, .sl cL, .int .i64, .int .i64, .int .i64, .int .i64, .int .i64, .sl cP, .sl cF, .sl cV, .sl cL, .int .i64, .int .i64, .int .i64, .int .i64, .int .i64, .int .i64, .sl cQ, .sl (.sl cP), .sl cP, .str, .str, .int .i64, .str, .int .i64, .int .i64, .int .i64, .int .i64, .sl cB, .sl cP, .int .i64, .int .i64]
abbrev CO29_11 : List CT := [.int .i64, .int .i64, .sl cL, .int .i64, .int .i64, .int .i64, .int .i64, .int .i64, .sl cP, .sl cF, .sl cV, .sl cL, .int .i64, .int .i64, .int .i64, .int .i64, .int .i64, .int .i64, .sl cQ, .sl (.sl cP), .sl cP, .str, .str, .int .i64, .str, .int .i64, .int .i64, .int .i64, .int .i64, .sl cB]
abbrev CR29_11 : List CT := [.int .i64, .int .i64, .sl cP, .sl cF, .sl cV, .sl cL, .int .i64, .int .i64, .int .i64, .int .i64, .int .i64, .int .i64, .sl cQ, .sl (.sl cP)]
def SF29_11 : SF := ⟨139, [(0, .c (.box 1 0)), (1, .c (.h)), (2, .fn 30 [.box 2 0]), (6, .c (.ref 5)), (7, .c (.h)), (8, .c (.box 6 0)), (9, .c (.h)), (10, .c (.ref 7)), (12, .c (.box 8 0)), (13, .c (.h)), (26, .c (.h)), (27, .c (.h)), (28, .c (.h)), (33, .c (.h))], [.gone, .box [.h, .h, .h, .h, .h, .h, .h, .h, .h, .h, .h, .ref 3, .ref 4, .h], .box [.box 1 0], .row, .row, .row, .box [.h, .h, .h, .h, .h, .h, .h, .h, .h], .row, .box [.h, .h]], 5⟩
def SG29_11 : SF := ⟨139, [(0, .c (.box 1 0)), (1, .c (.h)), (2, .fn 30 [.box 2 0]), (6, .c (.ref 5)), (7, .c (.h)), (8, .c (.box 6 0)), (26, .c (.h)), (27, .c (.h)), (28, .c (.h)), (33, .c (.h))], [.gone, .box [.h, .h, .h, .h, .h, .h, .h, .h, .h, .h, .h, .ref 3, .ref 4, .h], .box [.box 1 0], .row, .row, .row, .box [.h, .h, .h, .h, .h, .h, .h, .h, .h]], 5⟩
def SH29_11 : SF := ⟨139, [], [.gone, .box [.h, .h, .h, .h, .h, .h, .h, .h, .h, .h, .h, .ref 5, .ref 6, .h], .box [.box 1 0], .gone, .gone, .row, .row], 5⟩
abbrev CS29_5 : List CT := [.int .i64, .int .i64, .sl cL, .int .i64, .int .i64, .int .i64, .int .i64, .int .i64, .sl cP, .sl cF, .sl cV, .sl cL, .int .i64, .int .i64, .int .i64, .int .i64, .int .i64, .int .i64, .sl cQ, .sl (.sl cP), .sl cP, .str, .str, .int .i64, .str, .int .i64, .int .i64, .int .i64, .int .i64, .sl cB]
abbrev CO29_5 : List CT := [.int .i64, .sl cL, .int .i64, .int .i64, .int .i64, .int .i64, .sl cP, .sl cF, .sl cV, .sl cL, .int .i64, .int .i64, .int .i64, .int .i64, .int .i64, .int .i64, .sl cQ, .sl (.sl cP), .sl cP]
abbrev CR29_5 : List CT := [.int .i64, .int .i64, .sl cP, .sl cF, .sl cV, .sl cL, .int .i64, .int .i64, .int .i64, .int .i64, .int .i64, .int .i64, .sl cQ, .sl (.sl cP)]
def SF29_5 : SF := ⟨139, [(0, .c (.box 1 0)), (1, .c (.h)), (2, .fn 30 [.box 2 0]), (6, .c (.ref 5)), (7, .c (.h)), (8, .c (.box 6 0)), (26, .c (.h)), (27, .c (.h)), (28, .c (.h)), (33, .c (.h))], [.gone, .box [.h, .h, .h, .h, .h, .h, .h, .h, .h, .h, .h, .ref 3, .ref 4, .h], .box [.box 1 0], .row, .row, .row, .box [.h, .h, .h, .h, .h, .h, .h, .h, .h]], 5⟩
def SG29_5 : SF := ⟨139, [(0, .c (.box 1 0)), (1, .c (.h)), (2, .fn 30 [.box 2 0]), (6, .c (.ref 5)), (26, .c (.h)), (27, .c (.h)), (28, .c (.h))], [.gone, .box [.h, .h, .h, .h, .h, .h, .h, .h, .h, .h, .h, .ref 3, .ref 4, .h], .box [.box 1 0], .row, .row, .row], 5⟩
def SH29_5 : SF := ⟨139, [], [.gone, .box [.h, .h, .h, .h, .h, .h, .h, .h, .h, .h, .h, .ref 5, .ref 6, .h], .box [.box 1 0], .gone, .gone, .row, .row], 5⟩
abbrev CS29_2 : List CT := [.int .i64, .sl cL, .int .i64, .int .i64, .int .i64, .int .i64, .sl cP, .sl cF, .sl cV, .sl cL, .int .i64, .int .i64, .int .i64, .int .i64, .int .i64, .int .i64, .sl cQ, .sl (.sl cP), .sl cP]
abbrev CO29_2 : List CT := [.int .i64, .int .i64, .sl cP, .sl cF, .sl cV, .sl cL, .int .i64, .int .i64, .int .i64, .int .i64, .int .i64, .int .i64, .sl cQ, .sl (.sl cP)]
abbrev CR29_2 : List CT := [.int .i64, .int .i64, .sl cP, .sl cF, .sl cV, .sl cL, .int .i64, .int .i64, .int .i64, .int .i64, .int .i64, .int .i64, .sl cQ, .sl (.sl cP)]
def SF29_2 : SF := ⟨139, [(0, .c (.box 1 0)), (1, .c (.h)), (2, .fn 30 [.box 2 0]), (6, .c (.ref 5)), (26, .c (.h)), (27, .c (.h)), (28, .c (.h))], [.gone, .box [.h, .h, .h, .h, .h, .h, .h, .h, .h, .h, .h, .ref 3, .ref 4, .h], .box [.box 1 0], .row, .row, .row], 5⟩
def SG29_2 : SF := ⟨139, [], [.gone, .box [.h, .h, .h, .h, .h, .h, .h, .h, .h, .h, .h, .ref 3, .ref 4, .h], .box [.box 1 0], .row, .row], 5⟩
def SH29_2 : SF := ⟨139, [], [.gone, .box [.h, .h, .h, .h, .h, .h, .h, .h, .h, .h, .h, .ref 5, .ref 6, .h], .box [.box 1 0], .gone, .gone, .row, .row], 5⟩
def L29 (k : Nat) : List (Nat × LoopI) := [(14, loopB SF29_14 CS29_14 6 SG29_14 CO29_14 SH29_14 CR29_14 (impl_nest_places_14 k k)), (11, loopB SF29_11 CS29_11 4 SG29_11 CO29_11 SH29_11 CR29_11 (impl_nest_places_11 k k)), (5, loopB SF29_5 CS29_5 2 SG29_5 CO29_5 SH29_5 CR29_5 (impl_nest_places_5 k k)), (2, loopB SF29_2 CS29_2 0 SG29_2 CO29_2 SH29_2 CR29_2 (impl_nest_places_2 k k))]
def I10 : FunI := ⟨[.agg [.h, .h, .h, .h, .h], .c (.h), .agg [.h, .h, .h, .h], .c (.h)], [.int .i64, .int .i64, .sl cP, .sl cF, .sl cV, .sl cL, .int .i64, .int .i64, .int .i64, .int .i64, .int .i64], .tup [(false, [.w]), (false, [.h])], [.sl cQ, .int .i64], 0⟩
abbrev CS10_6 : List CT := [.int .i64, .int .i64, .int .i64, .int .i64, .sl cP, .sl cF, .sl cV, .sl cL, .int .i64, .int .i64, .int .i64, .int .i64, .int .i64, .int .i64, .sl cQ, .sl (.sl cP)]
abbrev CO10_6 : List CT := [.int .i64, .int .i64, .sl cP, .sl cF, .sl cV, .sl cL, .int .i64, .int .i64, .int .i64, .int .i64, .int .i64, .int .i64, .sl cQ, .sl (.sl cP)]
abbrev CR10_6 : List CT := [.int .i64, .sl cQ]
def SF10_6 : SF := ⟨49, [(11, .c (.box 0 0)), (29, .c (.h)), (30, .c (.h))], [.box [.box 1 0], .box [.h, .h, .h, .h, .h, .h, .h, .h, .h, .h, .h, .ref 2, .ref 3, .h], .row, .row], 0⟩
def SG10_6 : SF := ⟨49, [(11, .c (.box 0 0))], [.box [.box 1 0], .box [.h, .h, .h, .h, .h, .h, .h, .h, .h, .h, .h, .ref 2, .ref 3, .h], .row, .row], 0⟩
def SH10_6 : SF := ⟨49, [(8, .c (.ref 0)), (9, .c (.h))], [.row], 0⟩
def L10 (k : Nat) : List (Nat × LoopI) := [(6, loopB SF10_6 CS10_6 0 SG10_6 CO10_6 SH10_6 CR10_6 (impl_GreedyNesting_6 k k))]
def I32 : FunI := ⟨[.agg [.h, .h, .h, .h, .h], .agg [.h, .h, .h, .h, .h]], [.int .i64, .int .i64, .int .i64, .int .i64, .int .i64, .int .i64, .int .i64, .int .i64, .int .i64, .int .i64], .c (.h), [.bool], 0⟩
def I11 : FunI := ⟨[.c (.h), .c (.h)], [.sl cQ, .sl cQ], .c (.h), [.bool], 0⟩
abbrev CS11_4 : List CT := [.sl cQ, .sl cQ, .int .i64]
abbrev CO11_4 : List CT := []
abbrev CR11_4 : List CT := [.bool]
def SF11_4 : SF := ⟨27, [(0, .c (.h)), (1, .c (.h)), (5, .c (.h))], [], 0⟩
def SG11_4 : SF := ⟨27, [], [], 0⟩
def SH11_4 : SF := ⟨27, [(4, .c (.h))], [], 0⟩
def L11 (k : Nat) : List (Nat × LoopI) := [(4, loopB SF11_4 CS11_4 0 SG11_4 CO11_4 SH11_4 CR11_4 (laws_eqPlacementS_4 k k))]
def I104 : FunI := ⟨[.agg [.h, .h], .agg [.h, .h]], [.int .i64, .int .i64, .int .i64, .int .i64], .c (.h), [.bool], 0⟩
def I70 : FunI := ⟨[.c (.h), .c (.h)], [.sl cP, .sl cP], .c (.h), [.bool], 0⟩
abbrev CS70_4 : List CT := [.sl cP, .sl cP, .int .i64]
abbrev CO70_4 : List CT := []
abbrev CR70_4 : List CT := [.bool]
def SF70_4 : SF := ⟨27, [(0, .c (.h)), (1, .c (.h)), (5, .c (.h))], [], 0⟩
def SG70_4 : SF := ⟨27, [], [], 0⟩
def SH70_4 : SF := ⟨27, [(4, .c (.h))], [], 0⟩
def L70 (k : Nat) : List (Nat × LoopI) := [(4, loopB SF70_4 CS70_4 0 SG70_4 CO70_4 SH70_4 CR70_4 (laws_eqPointS_4 k k))]
def I131 : FunI := ⟨[.c (.h), .c (.h)], [.sl (.int .i64), .sl (.int .i64)], .c (.h), [.bool], 0⟩
abbrev CS131_4 : List CT := [.sl (.int .i64), .sl (.int .i64), .int .i64]
abbrev CO131_4 : List CT := []
abbrev CR131_4 : List CT := [.bool]
def SF131_4 : SF := ⟨26, [(0, .c (.h)), (1, .c (.h)), (5, .c (.h))], [], 0⟩
def SG131_4 : SF := ⟨26, [], [], 0⟩
def SH131_4 : SF := ⟨26, [(4, .c (.h))], [], 0⟩
def L131 (k : Nat) : List (Nat × LoopI) := [(4, loopB SF131_4 CS131_4 0 SG131_4 CO131_4 SH131_4 CR131_4 (laws_eqInt64S_4 k k))]
def I105 : FunI := ⟨[.agg [.h, .h], .agg [.h, .h]], [.str, .sl (.int .i64), .str, .sl (.int .i64)], .c (.h), [.bool], 0⟩
def I71 : FunI := ⟨[.c (.h), .c (.h)], [.sl cF, .sl cF], .c (.h), [.bool], 0⟩
abbrev CS71_4 : List CT := [.sl cF, .sl cF, .int .i64]
abbrev CO71_4 : List CT := []
abbrev CR71_4 : List CT := [.bool]
def SF71_4 : SF := ⟨27, [(0, .c (.h)), (1, .c (.h)), (5, .c (.h))], [], 0⟩
def SG71_4 : SF := ⟨27, [], [], 0⟩
def SH71_4 : SF := ⟨27, [(4, .c (.h))], [], 0⟩
def L71 (k : Nat) : List (Nat × LoopI) := [(4, loopB SF71_4 CS71_4 0 SG71_4 CO71_4 SH71_4 CR71_4 (laws_eqFaceS_4 k k))]
def I33 : FunI := ⟨[.agg [.h, .h, .h, .h], .agg [.h, .h, .h, .h]], [.int .i64, .int .i64, .sl cP, .sl cF, .int .i64, .int .i64, .sl cP, .sl cF], .c (.h), [.bool], 0⟩
def I72 : FunI := ⟨[.agg [.h, .h, .h], .agg [.h, .h, .h]], [.str, .int .i64, .int .i64, .str, .int .i64, .int .i64], .c (.h), [.bool], 0⟩
def I34 : FunI := ⟨[.c (.h), .c (.h)], [.sl cV, .sl cV], .c (.h), [.bool], 0⟩
abbrev CS34_4 : List CT := [.sl cV, .sl cV, .int .i64]
abbrev CO34_4 : List CT := []
abbrev CR34_4 : List CT := [.bool]
def SF34_4 : SF := ⟨27, [(0, .c (.h)), (1, .c (.h)), (5, .c (.h))], [], 0⟩
def SG34_4 : SF := ⟨27, [], [], 0⟩
def SH34_4 : SF := ⟨27, [(4, .c (.h))], [], 0⟩
def L34 (k : Nat) : List (Nat × LoopI) := [(4, loopB SF34_4 CS34_4 0 SG34_4 CO34_4 SH34_4 CR34_4 (laws_eqVeneerS_4 k k))]
def I12 : FunI := ⟨[.agg [.h, .h, .h, .h, .h], .agg [.h, .h, .h, .h, .h]], [.int .i64, .int .i64, .sl cP, .sl cF, .sl cV, .int .i64, .int .i64, .sl cP, .sl cF, .sl cV], .c (.h), [.bool], 0⟩
def I106 : FunI := ⟨[.agg [.h, .h, .h, .h], .agg [.h, .h, .h, .h]], [.int .i64, .int .i64, .int .i64, .int .i64, .int .i64, .int .i64, .int .i64, .int .i64], .c (.h), [.bool], 0⟩
def I73 : FunI := ⟨[.c (.h), .c (.h)], [.sl cB, .sl cB], .c (.h), [.bool], 0⟩
abbrev CS73_4 : List CT := [.sl cB, .sl cB, .int .i64]
abbrev CO73_4 : List CT := []
abbrev CR73_4 : List CT := [.bool]
def SF73_4 : SF := ⟨27, [(0, .c (.h)), (1, .c (.h)), (5, .c (.h))], [], 0⟩
def SG73_4 : SF := ⟨27, [], [], 0⟩
def SH73_4 : SF := ⟨27, [(4, .c (.h))], [], 0⟩
def L73 (k : Nat) : List (Nat × LoopI) := [(4, loopB SF73_4 CS73_4 0 SG73_4 CO73_4 SH73_4 CR73_4 (laws_eqBoxS_4 k k))]
def I35 : FunI := ⟨[.agg [.h, .h, .h, .h, .h, .h, .h, .h, .h], .agg [.h, .h, .h, .h, .h, .h, .h, .h, .h]], [.str, .str, .int .i64, .str, .int .i64, .int .i64, .int .i64, .int .i64, .sl cB, .str, .str, .int .i64, .str, .int .i64, .int .i64, .int .i64, .int .i64, .sl cB], .c (.h), [.bool], 0⟩
def I13 : FunI := ⟨[.c (.h), .c (.h)], [.sl cL, .sl cL], .c (.h), [.bool], 0⟩
abbrev CS13_4 : List CT := [.sl cL, .sl cL, .int .i64]
abbrev CO13_4 : List CT := []
abbrev CR13_4 : List CT := [.bool]
def SF13_4 : SF := ⟨27, [(0, .c (.h)), (1, .c (.h)), (5, .c (.h))], [], 0⟩
def SG13_4 : SF := ⟨27, [], [], 0⟩
def SH13_4 : SF := ⟨27, [(4, .c (.h))], [], 0⟩
def L13 (k : Nat) : List (Nat × LoopI) := [(4, loopB SF13_4 CS13_4 0 SG13_4 CO13_4 SH13_4 CR13_4 (laws_eqLeafS_4 k k))]
def I74 : FunI := ⟨[.c (.w), .c (.h)], [.sl cP, .int .i64], .c (.h), [.int .i64, .sl cP], 1⟩
abbrev CS74_2 : List CT := [.int .i64, .int .i64, .sl cP]
abbrev CO74_2 : List CT := [.int .i64, .sl cP]
def SF74_2 : SF := ⟨27, [(0, .c (.ref 0)), (1, .c (.h)), (5, .c (.h))], [.row], 1⟩
def SG74_2 : SF := ⟨27, [(1, .c (.h))], [.row], 1⟩
def L74 (k : Nat) : List (Nat × LoopI) := [(2, loopA SF74_2 CS74_2 0 SG74_2 CO74_2 (laws_markPointS_2 k k))]
def I38 : FunI := ⟨[.c (.h)], [.int .i64], .c (.h), [.str], 0⟩
abbrev CS38_4 : List CT := [.int .i64, .str]
abbrev CO38_4 : List CT := [.str]
def SF38_4 : SF := ⟨20, [(0, .c (.h)), (3, .c (.h))], [], 0⟩
def SG38_4 : SF := ⟨20, [(3, .c (.h))], [], 0⟩
def L38 (k : Nat) : List (Nat × LoopI) := [(4, loopA SF38_4 CS38_4 0 SG38_4 CO38_4 (laws_markText_4 k k))]
def I107 : FunI := ⟨[.c (.w), .c (.h)], [.sl (.int .i64), .int .i64], .c (.h), [.int .i64, .sl (.int .i64)], 1⟩
abbrev CS107_2 : List CT := [.int .i64, .int .i64, .sl (.int .i64)]
abbrev CO107_2 : List CT := [.int .i64, .sl (.int .i64)]
def SF107_2 : SF := ⟨19, [(0, .c (.ref 0)), (1, .c (.h)), (5, .c (.h))], [.row], 1⟩
def SG107_2 : SF := ⟨19, [(1, .c (.h))], [.row], 1⟩
def L107 (k : Nat) : List (Nat × LoopI) := [(2, loopA SF107_2 CS107_2 0 SG107_2 CO107_2 (laws_markInt64S_2 k k))]
def I75 : FunI := ⟨[.c (.w), .c (.h)], [.sl cF, .int .i64], .c (.h), [.int .i64, .sl cF], 1⟩
abbrev CS75_2 : List CT := [.int .i64, .int .i64, .sl cF]
abbrev CO75_2 : List CT := [.int .i64, .sl cF]
def SF75_2 : SF := ⟨28, [(0, .c (.ref 0)), (1, .c (.h)), (5, .c (.h))], [.row], 1⟩
def SG75_2 : SF := ⟨28, [(1, .c (.h))], [.row], 1⟩
def L75 (k : Nat) : List (Nat × LoopI) := [(2, loopA SF75_2 CS75_2 0 SG75_2 CO75_2 (laws_markFaceS_2 k k))]
def I36 : FunI := ⟨[.agg [.h, .h, .w, .w], .c (.h)], [.int .i64, .int .i64, .sl cP, .sl cF, .int .i64], .c (.h), [.int .i64, .sl cP, .sl cF], 2⟩
def I37 : FunI := ⟨[.c (.w), .c (.h)], [.sl cV, .int .i64], .c (.h), [.int .i64, .sl cV], 1⟩
abbrev CS37_2 : List CT := [.int .i64, .int .i64, .sl cV]
abbrev CO37_2 : List CT := [.int .i64, .sl cV]
def SF37_2 : SF := ⟨35, [(0, .c (.ref 0)), (1, .c (.h)), (5, .c (.h))], [.row], 1⟩
def SG37_2 : SF := ⟨35, [(1, .c (.h))], [.row], 1⟩
def L37 (k : Nat) : List (Nat × LoopI) := [(2, loopA SF37_2 CS37_2 0 SG37_2 CO37_2 (laws_markVeneerS_2 k k))]
def I14 : FunI := ⟨[.agg [.h, .h, .w, .w, .w], .c (.h)], [.int .i64, .int .i64, .sl cP, .sl cF, .sl cV, .int .i64], .c (.h), [.int .i64, .sl cP, .sl cF, .sl cV], 3⟩
def I39 : FunI := ⟨[.c (.w), .c (.h)], [.sl cB, .int .i64], .c (.h), [.int .i64, .sl cB], 1⟩
abbrev CS39_2 : List CT := [.int .i64, .int .i64, .sl cB]
abbrev CO39_2 : List CT := [.int .i64, .sl cB]
def SF39_2 : SF := ⟨41, [(0, .c (.ref 0)), (1, .c (.h)), (5, .c (.h))], [.row], 1⟩
def SG39_2 : SF := ⟨41, [(1, .c (.h))], [.row], 1⟩
def L39 (k : Nat) : List (Nat × LoopI) := [(2, loopA SF39_2 CS39_2 0 SG39_2 CO39_2 (laws_markBoxS_2 k k))]
def I15 : FunI := ⟨[.c (.w), .c (.h)], [.sl cL, .int .i64], .c (.h), [.int .i64, .sl cL], 1⟩
abbrev CS15_2 : List CT := [.int .i64, .int .i64, .sl cL]
abbrev CO15_2 : List CT := [.int .i64, .sl cL]
def SF15_2 : SF := ⟨82, [(0, .c (.ref 0)), (1, .c (.h)), (5, .c (.h))], [.row], 1⟩
def SG15_2 : SF := ⟨82, [(1, .c (.h))], [.row], 1⟩
def L15 (k : Nat) : List (Nat × LoopI) := [(2, loopA SF15_2 CS15_2 0 SG15_2 CO15_2 (laws_markLeafS_2 k k))]
def I16 : FunI := ⟨[.c (.w), .c (.h)], [.sl cQ, .int .i64], .c (.h), [.int .i64, .sl cQ], 1⟩
abbrev CS16_2 : List CT := [.int .i64, .int .i64, .sl cQ]
abbrev CO16_2 : List CT := [.int .i64, .sl cQ]
def SF16_2 : SF := ⟨48, [(0, .c (.ref 0)), (1, .c (.h)), (5, .c (.h))], [.row], 1⟩
def SG16_2 : SF := ⟨48, [(1, .c (.h))], [.row], 1⟩
def L16 (k : Nat) : List (Nat × LoopI) := [(2, loopA SF16_2 CS16_2 0 SG16_2 CO16_2 (laws_markPlacementS_2 k k))]
def I17 : FunI := ⟨[.c (.h), .c (.h)], [.sl cQ, .int .i64], .c (.h), [.int .i64], 0⟩
abbrev CS17_2 : List CT := [.sl cQ, .int .i64, .int .i64]
abbrev CO17_2 : List CT := [.int .i64]
abbrev CR17_2 : List CT := [.int .i64]
def SF17_2 : SF := ⟨58, [(0, .c (.h)), (1, .c (.h)), (5, .c (.h))], [], 0⟩
def SG17_2 : SF := ⟨58, [(1, .c (.h))], [], 0⟩
def SH17_2 : SF := ⟨58, [(4, .c (.h))], [], 0⟩
def L17 (k : Nat) : List (Nat × LoopI) := [(2, loopB SF17_2 CS17_2 0 SG17_2 CO17_2 SH17_2 CR17_2 (laws_heldPlacementS_2 k k))]
def I3 : FunI := ⟨[.agg [.h, .h, .h, .h, .h], .c (.h), .agg [.h, .h, .h, .h], .c (.h)], [.int .i64, .int .i64, .sl cP, .sl cF, .sl cV, .sl cL, .int .i64, .int .i64, .int .i64, .int .i64, .int .i64], .c (.h), [.bool], 0⟩
def J3 : Nat → List (Nat × CT) := fun n => match n with | 32 => [(123, .bool)] | 21 => [(92, .bool)] | 12 => [(63, .bool)] | _ => []
end Go.Proofs.YtgcioclfplafkaaGreatV

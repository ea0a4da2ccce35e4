/- The types' table, the functions' table; slices.Clone; no condition. -/
import Derived.Test.YtgcioclfplafkaaGreatA01
import Derived.Test.YtgcioclfplafkaaGreatA10
import Derived.Test.YtgcioclfplafkaaGreatB01
import Derived.Test.YtgcioclfplafkaaGreatProg
import Derived.KernelRfl
set_option linter.all false
set_option maxRecDepth 100000
section
namespace Go.Proofs.YtgcioclfplafkaaGreatV
open Go
def ty : Nat → Option TI
 | 2 => some ⟨false, (.int .i64), 1, [], 0, 8, false⟩
 | 3 => some ⟨false, (.int .i64), 1, [], 0, 8, false⟩
 | 4 => some ⟨false, .bool, 1, [], 0, 1, false⟩
 | 5 => some ⟨false, (.int .u8), 1, [], 0, 1, false⟩
 | 6 => some ⟨false, (.int .u8), 1, [], 0, 1, false⟩
 | 7 => some ⟨true, (.pair (.int .i64) (.pair (.int .i64) (.pair .bool (.int .u8)))), 4, [0, 1, 2, 3], 0, 24, false⟩
 | 8 => some ⟨true, (.pair (.int .i64) (.pair (.int .i64) (.pair .bool (.int .u8)))), 4, [0, 1, 2, 3], 0, 24, false⟩
 | 9 => some ⟨false, .str, 1, [], 0, 16, false⟩
 | 10 => some ⟨false, .str, 1, [], 0, 16, false⟩
 | 11 => some ⟨false, .str, 1, [], 0, 16, false⟩
 | 12 => some ⟨false, (.int .u64), 1, [], 0, 8, false⟩
 | 13 => some ⟨true, (.pair .str (.int .u64)), 2, [0, 1], 0, 24, false⟩
 | 14 => some ⟨true, (.pair .str (.int .u64)), 2, [0, 1], 0, 24, false⟩
 | 15 => some ⟨false, .bool, 1, [], 220, 8, true⟩
 | 16 => some ⟨false, .bool, 1, [], 223, 8, true⟩
 | 17 => some ⟨false, .bool, 1, [], 233, 8, true⟩
 | 21 => some ⟨false, (.int .i32), 1, [], 0, 4, false⟩
 | 22 => some ⟨false, (.sl (.pair (.int .i64) (.int .i64))), 1, [], 153, 24, false⟩
 | 23 => some ⟨false, (.sl (.pair .str (.sl (.int .i64)))), 1, [], 140, 24, false⟩
 | 24 => some ⟨true, (.pair (.int .i64) (.pair (.int .i64) (.pair (.sl (.pair (.int .i64) (.int .i64))) (.sl (.pair .str (.sl (.int .i64))))))), 4, [0, 1, 2, 3], 0, 64, false⟩
 | 25 => some ⟨true, (.pair (.int .i64) (.pair (.int .i64) (.pair (.sl (.pair (.int .i64) (.int .i64))) (.sl (.pair .str (.sl (.int .i64))))))), 4, [0, 1, 2, 3], 0, 64, false⟩
 | 26 => some ⟨false, (.sl (.pair .str (.pair (.int .i64) (.int .i64)))), 1, [], 60, 24, false⟩
 | 27 => some ⟨true, (.pair (.int .i64) (.pair (.int .i64) (.pair (.sl (.pair (.int .i64) (.int .i64))) (.pair (.sl (.pair .str (.sl (.int .i64)))) (.sl (.pair .str (.pair (.int .i64) (.int .i64)))))))), 5, [0, 4], 0, 88, false⟩
 | 28 => some ⟨true, (.pair (.int .i64) (.pair (.int .i64) (.pair (.sl (.pair (.int .i64) (.int .i64))) (.pair (.sl (.pair .str (.sl (.int .i64)))) (.sl (.pair .str (.pair (.int .i64) (.int .i64)))))))), 5, [0, 4], 0, 88, false⟩
 | 29 => some ⟨false, (.sl (.pair .str (.pair .str (.pair (.int .i64) (.pair .str (.pair (.int .i64) (.pair (.int .i64) (.pair (.int .i64) (.pair (.int .i64) (.sl (.pair (.int .i64) (.pair (.int .i64) (.pair (.int .i64) (.int .i64)))))))))))))), 1, [], 63, 24, false⟩
 | 30 => some ⟨true, (.pair (.int .i64) (.pair (.int .i64) (.pair (.int .i64) (.int .i64)))), 4, [0, 1, 2, 3], 0, 32, false⟩
 | 31 => some ⟨true, (.pair (.int .i64) (.pair (.int .i64) (.pair (.int .i64) (.int .i64)))), 4, [0, 1, 2, 3], 0, 32, false⟩
 | 34 => some ⟨false, (.sl (.pair (.int .i64) (.pair (.int .i64) (.pair (.int .i64) (.pair (.int .i64) (.int .i64)))))), 1, [], 72, 24, false⟩
 | 37 => some ⟨false, (.sl (.pair (.int .i64) (.int .i64))), 1, [], 108, 24, false⟩
 | 38 => some ⟨false, (.sl (.pair .str (.sl (.int .i64)))), 1, [], 148, 24, false⟩
 | 39 => some ⟨true, (.pair (.int .i64) (.pair (.int .i64) (.pair (.sl (.pair (.int .i64) (.int .i64))) (.sl (.pair .str (.sl (.int .i64))))))), 4, [0, 1, 2, 3], 0, 64, false⟩
 | 40 => some ⟨true, (.pair (.int .i64) (.pair (.int .i64) (.pair (.sl (.pair (.int .i64) (.int .i64))) (.sl (.pair .str (.sl (.int .i64))))))), 4, [0, 1, 2, 3], 0, 64, false⟩
 | 41 => some ⟨false, (.sl (.pair .str (.pair (.int .i64) (.int .i64)))), 1, [], 75, 24, false⟩
 | 42 => some ⟨true, (.pair (.int .i64) (.pair (.int .i64) (.pair (.sl (.pair (.int .i64) (.int .i64))) (.pair (.sl (.pair .str (.sl (.int .i64)))) (.sl (.pair .str (.pair (.int .i64) (.int .i64)))))))), 5, [0, 4], 0, 88, false⟩
 | 43 => some ⟨true, (.pair (.int .i64) (.pair (.int .i64) (.pair (.sl (.pair (.int .i64) (.int .i64))) (.pair (.sl (.pair .str (.sl (.int .i64)))) (.sl (.pair .str (.pair (.int .i64) (.int .i64)))))))), 5, [0, 4], 0, 88, false⟩
 | 45 => some ⟨false, (.sl (.pair .str (.pair .str (.pair (.int .i64) (.pair .str (.pair (.int .i64) (.pair (.int .i64) (.pair (.int .i64) (.pair (.int .i64) (.sl (.pair (.int .i64) (.pair (.int .i64) (.pair (.int .i64) (.int .i64)))))))))))))), 1, [], 78, 24, false⟩
 | 47 => some ⟨true, (.pair (.int .i64) (.pair (.int .i64) (.pair (.int .i64) (.int .i64)))), 4, [0, 1, 2, 3], 0, 32, false⟩
 | 59 => some ⟨true, (.pair .str (.pair (.int .i64) (.int .i64))), 3, [0, 1, 2], 0, 32, false⟩
 | 60 => some ⟨true, (.pair .str (.pair (.int .i64) (.int .i64))), 3, [0, 1, 2], 0, 32, false⟩
 | 61 => some ⟨false, (.sl (.pair (.int .i64) (.pair (.int .i64) (.pair (.int .i64) (.int .i64))))), 1, [], 156, 24, false⟩
 | 62 => some ⟨true, (.pair .str (.pair .str (.pair (.int .i64) (.pair .str (.pair (.int .i64) (.pair (.int .i64) (.pair (.int .i64) (.pair (.int .i64) (.sl (.pair (.int .i64) (.pair (.int .i64) (.pair (.int .i64) (.int .i64))))))))))))), 9, [0, 1, 2, 3, 6, 7, 8], 0, 112, false⟩
 | 63 => some ⟨true, (.pair .str (.pair .str (.pair (.int .i64) (.pair .str (.pair (.int .i64) (.pair (.int .i64) (.pair (.int .i64) (.pair (.int .i64) (.sl (.pair (.int .i64) (.pair (.int .i64) (.pair (.int .i64) (.int .i64))))))))))))), 9, [0, 1, 2, 3, 6, 7, 8], 0, 112, false⟩
 | 65 => some ⟨false, .bool, 1, [], 43, 8, true⟩
 | 66 => some ⟨false, .bool, 1, [], 47, 8, true⟩
 | 70 => some ⟨false, .bool, 1, [], 72, 8, true⟩
 | 71 => some ⟨true, (.pair (.int .i64) (.pair (.int .i64) (.pair (.int .i64) (.pair (.int .i64) (.int .i64))))), 5, [0, 1, 2, 3, 4], 0, 40, false⟩
 | 72 => some ⟨true, (.pair (.int .i64) (.pair (.int .i64) (.pair (.int .i64) (.pair (.int .i64) (.int .i64))))), 5, [0, 1, 2, 3, 4], 0, 40, false⟩
 | 75 => some ⟨true, (.pair .str (.pair (.int .i64) (.int .i64))), 3, [0, 1, 2], 0, 32, false⟩
 | 76 => some ⟨false, (.sl (.pair (.int .i64) (.pair (.int .i64) (.pair (.int .i64) (.int .i64))))), 1, [], 136, 24, false⟩
 | 77 => some ⟨true, (.pair .str (.pair .str (.pair (.int .i64) (.pair .str (.pair (.int .i64) (.pair (.int .i64) (.pair (.int .i64) (.pair (.int .i64) (.sl (.pair (.int .i64) (.pair (.int .i64) (.pair (.int .i64) (.int .i64))))))))))))), 9, [0, 1, 2, 3, 6, 7, 8], 0, 112, false⟩
 | 78 => some ⟨true, (.pair .str (.pair .str (.pair (.int .i64) (.pair .str (.pair (.int .i64) (.pair (.int .i64) (.pair (.int .i64) (.pair (.int .i64) (.sl (.pair (.int .i64) (.pair (.int .i64) (.pair (.int .i64) (.int .i64))))))))))))), 9, [0, 1, 2, 3, 6, 7, 8], 0, 112, false⟩
 | 81 => some ⟨false, .bool, 1, [], 84, 8, true⟩
 | 82 => some ⟨false, (.sl (.sl (.pair (.int .i64) (.int .i64)))), 1, [], 37, 24, false⟩
 | 83 => some ⟨true, (.pair (.int .i64) (.pair (.int .i64) (.pair (.sl (.pair (.int .i64) (.int .i64))) (.pair (.sl (.pair .str (.sl (.int .i64)))) (.pair (.sl (.pair .str (.pair (.int .i64) (.int .i64)))) (.pair (.sl (.pair .str (.pair .str (.pair (.int .i64) (.pair .str (.pair (.int .i64) (.pair (.int .i64) (.pair (.int .i64) (.pair (.int .i64) (.sl (.pair (.int .i64) (.pair (.int .i64) (.pair (.int .i64) (.int .i64)))))))))))))) (.pair (.int .i64) (.pair (.int .i64) (.pair (.int .i64) (.pair (.int .i64) (.pair (.int .i64) (.pair (.sl (.pair (.int .i64) (.pair (.int .i64) (.pair (.int .i64) (.pair (.int .i64) (.int .i64)))))) (.pair (.sl (.sl (.pair (.int .i64) (.int .i64)))) (.int .i64)))))))))))))), 14, [0, 5, 6, 10, 11, 12, 13], 0, 208, false⟩
 | 84 => some ⟨true, (.pair (.int .i64) (.pair (.int .i64) (.pair (.sl (.pair (.int .i64) (.int .i64))) (.pair (.sl (.pair .str (.sl (.int .i64)))) (.pair (.sl (.pair .str (.pair (.int .i64) (.int .i64)))) (.pair (.sl (.pair .str (.pair .str (.pair (.int .i64) (.pair .str (.pair (.int .i64) (.pair (.int .i64) (.pair (.int .i64) (.pair (.int .i64) (.sl (.pair (.int .i64) (.pair (.int .i64) (.pair (.int .i64) (.int .i64)))))))))))))) (.pair (.int .i64) (.pair (.int .i64) (.pair (.int .i64) (.pair (.int .i64) (.pair (.int .i64) (.pair (.sl (.pair (.int .i64) (.pair (.int .i64) (.pair (.int .i64) (.pair (.int .i64) (.int .i64)))))) (.pair (.sl (.sl (.pair (.int .i64) (.int .i64)))) (.int .i64)))))))))))))), 14, [0, 5, 6, 10, 11, 12, 13], 0, 208, false⟩
 | 104 => some ⟨false, .bool, 1, [], 78, 8, true⟩
 | 106 => some ⟨false, .bool, 1, [], 75, 8, true⟩
 | 107 => some ⟨true, (.pair (.int .i64) (.int .i64)), 2, [0, 1], 0, 16, false⟩
 | 108 => some ⟨true, (.pair (.int .i64) (.int .i64)), 2, [0, 1], 0, 16, false⟩
 | 113 => some ⟨false, .bool, 1, [], 40, 8, true⟩
 | 134 => some ⟨false, (.sl (.int .u8)), 1, [], 5, 24, false⟩
 | 135 => some ⟨true, (.pair (.int .i64) (.pair (.int .i64) (.pair (.int .i64) (.int .i64)))), 4, [0, 1, 2, 3], 0, 32, false⟩
 | 136 => some ⟨true, (.pair (.int .i64) (.pair (.int .i64) (.pair (.int .i64) (.int .i64)))), 4, [0, 1, 2, 3], 0, 32, false⟩
 | 138 => some ⟨false, (.sl (.int .i64)), 1, [], 2, 24, false⟩
 | 139 => some ⟨true, (.pair .str (.sl (.int .i64))), 2, [0, 1], 0, 40, false⟩
 | 140 => some ⟨true, (.pair .str (.sl (.int .i64))), 2, [0, 1], 0, 40, false⟩
 | 148 => some ⟨true, (.pair .str (.sl (.int .i64))), 2, [0, 1], 0, 40, false⟩
 | 150 => some ⟨false, .bool, 1, [], 136, 8, true⟩
 | 153 => some ⟨true, (.pair (.int .i64) (.int .i64)), 2, [0, 1], 0, 16, false⟩
 | 156 => some ⟨true, (.pair (.int .i64) (.pair (.int .i64) (.pair (.int .i64) (.int .i64)))), 4, [0, 1, 2, 3], 0, 32, false⟩
 | 190 => some ⟨false, (.sl (.sl (.int .i64))), 1, [], 138, 24, false⟩
 | 203 => some ⟨false, (.sl .str), 1, [], 9, 24, false⟩
 | 209 => some ⟨false, (.int .u64), 1, [], 0, 8, false⟩
 | 213 => some ⟨false, (.int .u64), 1, [], 0, 8, false⟩
 | 217 => some ⟨false, .bool, 1, [], 236, 8, true⟩
 | 225 => some ⟨false, (.int .u32), 1, [], 0, 4, false⟩
 | 226 => some ⟨false, (.int .u8), 1, [], 0, 1, false⟩
 | 227 => some ⟨false, (.int .u8), 1, [], 0, 1, false⟩
 | 229 => some ⟨false, .bool, 1, [], 5, 8, true⟩
 | 230 => some ⟨false, (.int .i32), 1, [], 0, 4, false⟩
 | 231 => some ⟨false, (.int .i32), 1, [], 0, 4, false⟩
 | 235 => some ⟨true, .str, 1, [0], 0, 16, false⟩
 | 236 => some ⟨true, .str, 1, [0], 0, 16, false⟩
 | _ => none
def wr (n : Nat) : Bool := [74, 107, 75, 36, 37, 14, 39, 15, 16].contains n
def eqt (n : Nat) : Bool := [7, 8, 30, 31, 47, 59, 60, 71, 72, 75, 107, 108, 135, 136, 153, 156, 235, 236].contains n
end Go.Proofs.YtgcioclfplafkaaGreatV
end
section
namespace Go.Proofs.YtgcioclfplafkaaGreatV
open Go Go.RowKit Go.Proofs
def fzt (f : Nat) : Bool := Nat.beq f 139 || Nat.beq f 128
noncomputable def TB (C : List (Nat × CallI)) (D : List (Nat × PrI)) : Tab := TC ty wr eqt 9999 fzt C D
noncomputable def K0 (_k : Nat) : List (Nat × CallI) := []
noncomputable def D0 (_k : Nat) : List (Nat × PrI) := []
theorem mixed : Tryz.prog.follows .mixedOrders = true := by kernel_rfl
theorem enter_of {P : Program} {f : Nat} {fn : Func} (h : P.funcs[f]? = some fn) (h1 : (fn.name == "runtime.NumGoroutine") = false) (h2 : fn.body.isNone = false) : Enterable P f := ⟨fn, h, h1, h2⟩
theorem ty_small : ∀ t, 300 ≤ t → ty t = none := by
 intro t ht
 unfold ty
 split <;> first | omega | rfl
theorem ty_all : ((List.range 300).all fun t => match ty t with | some ti => tiOk Tryz.prog t ti && (!eqt t || eqOk Tryz.prog t ti) | none => true) = true := by kernel_rfl
theorem ty_both (t : Nat) (ti : TI) (h : ty t = some ti) : (tiOk Tryz.prog t ti && (!eqt t || eqOk Tryz.prog t ti)) = true := by
 rcases Nat.lt_or_ge t 300 with h1 | h1
 ·have := (List.all_eq_true.1 ty_all) t (List.mem_range.2 h1)
  simp only [h] at this
  exact this
 ·rw [ty_small t h1] at h; cases h
theorem and_l {a b : Bool} (h : (a && b) = true) : a = true := by cases a <;> simp_all
theorem and_r {a b : Bool} (h : (a && b) = true) : b = true := by cases a <;> simp_all
theorem or_r {a b : Bool} (h : (!a || b) = true) (ha : a = true) : b = true := by cases a <;> simp_all
theorem tab_ok : TabOK Tryz.prog (TB [] []) := ⟨fun t ti h => and_l (ty_both t ti h), fun t ti he h => or_r (and_r (ty_both t ti h)) he⟩
theorem t_nil (k : Nat) : TabFn Tryz.prog (TB (K0 k) (D0 k)) := tc_nil tab_ok
end Go.Proofs.YtgcioclfplafkaaGreatV
end
section
namespace Go.Proofs.YtgcioclfplafkaaGreatV
open Go Go.RowKit
def restK (T : Tab) (fn : Func) (cnd r3 : Code) (st : St) : Option (TV × List CV) := ev T (.seq cnd (.seq r3 .ret)) st fun e st => match e with | .exit _ => none | _ => finish T fn 0 st
theorem part_ok {P : Program} {T : Tab} {W : List Gh} {w0 : World} {c1 c2 : Code} (h1 : CodeOK P T W w0 c1 (fun st K => ev T c1 st K)) (h2 : CodeOK P T W w0 c2 (fun st K => ev T c2 st K)) {R : Type} {st : St} {K : Ex → St → Option R} {r : R} {a : Act} {w : World} {Q : Exit → Act → World → Prop}
  (hR : RelN T W w0 st a w) (hk : ev T (.seq c1 c2) st K = some r) (hQ : ∀ e st' a' w', RelN T W w0 st' a' w' → K e st' = some r → Q e.out a' w') : c1.wp P (Exit.then (c2.wp P Q) Q) a w := by
 simp only [ev] at hk
 refine h1 st _ r a w _ hR hk (fun e st' a' w' hR' hK => ?_)
 cases e with
 | normal => exact h2 st' K r a' w' Q hR' hK hQ
 | exit i => exact hQ (.exit i) st' a' w' hR' hK
 | ret => exact hQ .ret st' a' w' hR' hK
theorem clone_ok {P : Program} {T : Tab} (hP : P.follows .mixedOrders = true) (hT : TabFn P T) (hnp : T.np = false) {f : Nat} {fn : Func} {t e : Nat} {r : CT} {B : Nat} {i0 i1 : Nat} {o0 o1 o2 : Oper} {cnd r3 : Code} (hf : P.funcs[f]? = some fn)
  (hc : fn.body = some (.seq (.region i0 #[o0] false) (.seq (.seq (.region i1 #[o1, o2] false) cnd) (.seq r3 .ret)))) (hn : fn.ntmps = 8)
  (h0 : o0.op = .assign (.const (.slice none 0 0)) ∧ o0.dst = some 2 ∧ o0.guard = none) (h1 : o1.op = .move (.tmp 0) ∧ o1.dst = some 3 ∧ o1.guard = none) (h2 : o2.op = .binOp .eql t (.tmp 3) (.const (.slice none 0 0)) t ∧ o2.dst = some 4 ∧ o2.guard = none)
  (hu : P.underlying t = some (.slice e)) (hl : AllLoops (fun _ => False) (.seq cnd (.seq r3 .ret)))
  (hy : ∀ xs : List (El r), restK T fn cnd r3 ⟨[.c (.fz r xs), .dead, .c (.nilS r), .c (.fz r xs), .c (.bool true), .dead, .dead, .dead], []⟩ = some (.c (.new r []), []))
  (hno : ∀ xs : List (El r), restK T fn cnd r3 ⟨[.c (.fz r xs), .dead, .c (.nilS r), .c (.fz r xs), .c (.bool false), .dead, .dead, .dead], []⟩ = bif decide ((0 + xs.length) * B ≤ 140737488355328) then some (.c (.new r xs), []) else none) :
  CallOK P f ((⟨[.c .h], [.sl r], .c .w, [.sl r], 0⟩ : FunI).call (fun xs : List (El r) => bif decide ((0 + xs.length) * B ≤ 140737488355328) then some xs else none)) := by
 intro args res ms h w vals S g hargs hobs hnd hlt hS
 have h := h (fun v m => some (v, m))
 unfold FunI.call at h
 obtain ⟨xs, hx, h⟩ := Option.bind_eq_some_iff.1 h
 obtain ⟨y, hy', h⟩ := Option.bind_eq_some_iff.1 h
 obtain ⟨hs, hd, hx⟩ := Option.bind_eq_some_iff.1 hx
 have hinst : instTs [.c .h] (toCVs [.sl r] xs) = (args, []) := by
  rw [toCVs_from hx]
  have := ts_inst hd []
  rwa [List.append_nil] at this
 have hargs2 : args = [.c (.fz r xs)] := by
  have := congrArg Prod.fst hinst
  exact this.symm
 subst hargs2
 obtain ⟨u, hv, hu2⟩ : ∃ u, vals = [u] ∧ FzC w S (.sl r) #[u] 0 xs := by
  simp only [openA, openT, openC] at hargs
  cases vals with
  | nil => exact hargs.elim
  | cons u vals =>
   cases vals with
   | nil => exact ⟨u, rfl, hargs.1⟩
   | cons _ _ => exact hargs.2.elim
 subst hv
 have hg : g = [] := by
  simp only [openA, openT, openC] at hobs
  cases g with
  | nil => rfl
  | cons _ _ => exact hobs.elim
 subst hg
 obtain ⟨ad, cap, hcell, hcap, hnz⟩ := hu2
 simp only [List.getElem?_toArray, List.getElem?_cons_zero, Option.some.injEq] at hcell
 have hy' : (bif decide ((0 + List.length (α := El r) xs) * B ≤ 140737488355328) then some xs else none) = some y := hy'
 cases hdec : decide ((0 + List.length (α := El r) xs) * B ≤ 140737488355328) with
 | false => rw [hdec] at hy'; cases hy'
 | true =>
 rw [hdec] at hy'
 simp only [cond_true, Option.some.injEq] at hy'
 subst hy'
 have hres : res = .c (.new r xs) ∧ ms = [] := by
  simp only [TT.inst, SC.inst, toCVs, toCV, Option.some.injEq, Prod.mk.injEq] at h
  exact ⟨h.1.symm, h.2.symm⟩
 obtain ⟨rfl, rfl⟩ := hres
 have key : ∀ b : Bool, ∃ ys, restK T fn cnd r3 ⟨[.c (.fz r xs), .dead, .c (.nilS r), .c (.fz r xs), .c (.bool b), .dead, .dead, .dead], []⟩ = some (.c (.new r ys), []) ∧ (ad.isNone = b → ys = xs) := by
  intro b
  cases b with
  | true => exact ⟨[], hy xs, fun e => by
    cases xs with
    | nil => rfl
    | cons x xs =>
     obtain ⟨b, off, _, _, _, e2, _⟩ := hnz (by simp)
     rw [e2] at e; cases e⟩
  | false => exact ⟨xs, by rw [hno xs, hdec]; rfl, fun _ => rfl⟩
 obtain ⟨ys, hk, hys⟩ := key ad.isNone
 have hys := hys rfl
 subst hys
 refine calls_of_wp hf hc ?_
 have hsz : (#[u] ++ Array.replicate (fn.ntmps - #[u].size) undef : Array Value) = #[u, undef, undef, undef, undef, undef, undef, undef] := by rw [hn]; rfl
 show Code.wp P _ _ { tmps := #[u] ++ Array.replicate (fn.ntmps - #[u].size) undef, defers := [] } w
 rw [hsz]
 refine wp_seq (wp_region_list ?_)
 unfold wpList
 have w0 : ∀ a : Act, Region.wanted o0 (yielded #[o0] a.tmps) = true := fun a => by unfold Region.wanted; rw [h0.2.2]
 have w1 : ∀ a : Act, Region.wanted o1 (yielded #[o1, o2] a.tmps) = true := fun a => by unfold Region.wanted; rw [h1.2.2]
 have w2 : ∀ a : Act, Region.wanted o2 (yielded #[o1, o2] a.tmps) = true := fun a => by unfold Region.wanted; rw [h2.2.2]
 rw [if_pos (w0 _)]
 left
 unfold Oper.wp
 have e0 : (execOp ({ tmps := #[u, undef, undef, undef, undef, undef, undef, undef], defers := [] } : Act).eval o0).run P w = .ok (.value (.slice none 0 0)) w := by
  unfold execOp; rw [h0.1]; simp [Act.eval]
 rw [e0]
 have p0 : ({ tmps := #[u, undef, undef, undef, undef, undef, undef, undef], defers := [] } : Act).put (some 2) (.slice none 0 0) = { tmps := #[u, undef, .slice none 0 0, undef, undef, undef, undef, undef], defers := [] } := rfl
 simp only [Oper.upon, h0.2.1]
 rw [p0]
 unfold wpList
 refine wp_seq (wp_seq (wp_region_list ?_))
 unfold wpList
 rw [if_pos (w1 _)]
 left
 unfold Oper.wp
 have e1 : (execOp ({ tmps := #[u, undef, .slice none 0 0, undef, undef, undef, undef, undef], defers := [] } : Act).eval o1).run P w = .ok (.value u) w := by
  unfold execOp; rw [h1.1]; simp [Act.eval]
 rw [e1]
 have p1 : ({ tmps := #[u, undef, .slice none 0 0, undef, undef, undef, undef, undef], defers := [] } : Act).put (some 3) u = { tmps := #[u, undef, .slice none 0 0, u, undef, undef, undef, undef], defers := [] } := rfl
 simp only [Oper.upon, h1.2.1]
 rw [p1]
 unfold wpList
 rw [if_pos (w2 _)]
 left
 unfold Oper.wp
 have e2 : (execOp ({ tmps := #[u, undef, .slice none 0 0, u, undef, undef, undef, undef], defers := [] } : Act).eval o2).run P w = .ok (.value (.bool ad.isNone)) w := by
  unfold execOp; rw [h2.1]
  subst hcell
  have hb : (Op.equal t (.slice ad (List.length (α := El r) ys) cap) (.slice none 0 0)).run P w = .ok ad.isNone w := by
   unfold Op.equal
   obtain ⟨dd, hdd⟩ : ∃ d, Op.maxDepth = d + 1 := ⟨Op.maxDepth - 1, by decide⟩
   rw [hdd]
   unfold Op.equalIn
   rw [Sem.run_bind, run_underlying hu]
   simp only [Result.andThen]
   cases ad <;> rfl
  have hg : ∀ (x y : Operand), eqGuard .eql t x y (.slice ad (List.length (α := El r) ys) cap) (.slice none 0 0) = pure () := fun _ _ => rfl
  have hbin : binOp .eql t (.slice ad (List.length (α := El r) ys) cap) (.slice none 0 0) = (do pure (.bool (← Op.equal t (.slice ad (List.length (α := El r) ys) cap) (.slice none 0 0)))) := rfl
  have ev1 : ({ tmps := #[.slice ad (List.length (α := El r) ys) cap, undef, .slice none 0 0, .slice ad (List.length (α := El r) ys) cap, undef, undef, undef, undef], defers := [] } : Act).eval (.tmp 3) = .slice ad (List.length (α := El r) ys) cap := rfl
  have ev2 : ∀ a : Act, a.eval (.const (.slice none 0 0)) = .slice none 0 0 := fun _ => rfl
  simp only [ev1, ev2, hg, hbin, Sem.run_bind, Sem.run_pure, Result.andThen, hb]
 rw [e2]
 have p2 : ({ tmps := #[u, undef, .slice none 0 0, u, undef, undef, undef, undef], defers := [] } : Act).put (some 4) (.bool ad.isNone) = { tmps := #[u, undef, .slice none 0 0, u, .bool ad.isNone, undef, undef, undef], defers := [] } := rfl
 simp only [Oper.upon, h2.2.1]
 rw [p2]
 unfold wpList
 have hfz : FzC w (Stable w []) (.sl r) #[u] 0 ys := FzC_mono (fun b hb => ⟨hS b hb, rfl⟩) ⟨ad, cap, by simpa using hcell, hcap, hnz⟩
 have hR : RelN T [] w ⟨[.c (.fz r ys), .dead, .c (.nilS r), .c (.fz r ys), .c (.bool ad.isNone), .dead, .dead, .dead], []⟩ { tmps := #[u, undef, .slice none 0 0, u, .bool ad.isNone, undef, undef, undef], defers := [] } w := by
  refine ⟨⟨[], ⟨⟨hfz, trivial, rfl, hfz, rfl, trivial, trivial, trivial, trivial⟩, trivial, by simp [allB], by simp [allB], Keep.refl _ _, ⟨fun i t hi => by simp at hi, fun i x _ hi => by simp at hi⟩, rfl⟩⟩, fun hn => by rw [hnp] at hn; cases hn⟩
 have loops : ∀ c, AllLoops (fun _ => False) c → AllLoops (LoopsOK P T [] w) c := by
  intro c
  induction c with
  | seq a b iha ihb => exact fun h => ⟨iha h.1, ihb h.2⟩
  | cond _ a b iha ihb => exact fun h => ⟨iha h.1, ihb h.2⟩
  | block _ c ih => exact ih
  | loop c ih => exact fun h => h.elim
  | _ => exact fun _ => trivial
 have endd : ∀ (st' : St) (a' : Act) (w' : World), RelN T [] w st' a' w' → finish T fn 0 st' = some (.c (.new r ys), []) → a'.defers = [] ∧ ∃ z, (results fn a'.tmps).run P w' = .ok z w' ∧ (∃ v_1, Ending.returned z = Ending.returned v_1 ∧ Keep (allB []) w w' ∧ BackOK w' [] [] ∧ ResOK w w' (.c (.new r ys)) v_1) := by
  intro st' a' w' hR' hfi
  obtain ⟨⟨g', hR'⟩, _⟩ := hR'
  obtain ⟨u2, hu2, hres, hback⟩ := finish_ok (W := []) hT.toTabOK hR' (by simp) hfi
  exact ⟨hR'.df, u2, hu2, u2, rfl, hR'.keep, hback, hres⟩
 refine part_ok (code_ok hP hT cnd (loops cnd hl.1)) (code_ok hP hT _ (loops _ hl.2)) hR hk (fun e st' a' w' hR' hK => ?_)
 cases e with
 | normal => exact endd st' a' w' hR' hK
 | exit i => cases hK
 | ret => exact endd st' a' w' hR' hK
end Go.Proofs.YtgcioclfplafkaaGreatV
end
section
namespace Go.Proofs.YtgcioclfplafkaaGreatV
open Go Go.RowKit Go.Proofs
set_option maxHeartbeats 4000000
@[reducible] def TM (t : Tab) (l : List (Nat × LoopI)) (j : Nat → List (Nat × CT)) : Tab := { t with loop := lookL l, join := j, np := false, hasP := false }
@[reducible] def TN (t : Tab) (l : List (Nat × LoopI)) (j : Nat → List (Nat × CT)) : Tab := { t with loop := lookL l, join := j, np := true, hasP := false }
@[reducible] def TQ (t : Tab) (l : List (Nat × LoopI)) (j : Nat → List (Nat × CT)) : Tab := { t with loop := lookL l, join := j, np := false, hasP := true }
abbrev N : Nat → List (Nat × CT) := fun _ => []
abbrev TF (K : List (Nat × CallI)) (D : List (Nat × PrI)) : Prop := TabFn Tryz.prog (TB K D)
theorem fo {K : List (Nat × CallI)} {D : List (Nat × PrI)} {l : List (Nat × LoopI)} {j : Nat → List (Nat × CT)} {f : Nat} {fn : Func} {c : Code} (h : TF K D) (I : FunI) (F : HT I.cs → Option (HT I.co)) (hl : RowsL (TM (TB K D) l j) I.m c l) (hf : Tryz.prog.funcs[f]? = some fn) (hb : fn.body = some c := by kernel_rfl) (heq : ∀ x, F x = I.body (TM (TB K D) l j) fn c x := by intro x; kernel_rfl) (hm : wnTs I.at_ = I.m := by kernel_rfl) (hm2 : I.m < 1000 := by decide) (hk : nodupB ((bodies c).map (·.1)) = true := by kernel_rfl) : CallOK Tryz.prog f (I.call F) :=
 fun_ok (T := TM (TB K D) l j) (ls := l) mixed (tab_with h _ _ false false (fun h => by cases h)) I F hf hb hm hm2 rfl hk hl heq (fun h => Bool.noConfusion h)
theorem fq {K : List (Nat × CallI)} {D : List (Nat × PrI)} {l : List (Nat × LoopI)} {j : Nat → List (Nat × CT)} {f : Nat} {fn : Func} {c : Code} (h : TF K D) (I : FunI) (F : HT I.cs → Option (HT I.co)) (hl : RowsL (TQ (TB K D) l j) I.m c l) (hf : Tryz.prog.funcs[f]? = some fn) (hb : fn.body = some c := by kernel_rfl) (heq : ∀ x, F x = I.body (TQ (TB K D) l j) fn c x := by intro x; kernel_rfl) (hm : wnTs I.at_ = I.m := by kernel_rfl) (hm2 : I.m < 1000 := by decide) (hk : nodupB ((bodies c).map (·.1)) = true := by kernel_rfl) : CallOK Tryz.prog f (I.call F) :=
 fun_ok (T := TQ (TB K D) l j) (ls := l) mixed (tab_with h _ _ false true (fun _ => rfl)) I F hf hb hm hm2 rfl hk hl heq (fun h => Bool.noConfusion h)
theorem rA {T : Tab} {m : Nat} (f g : SF) (cs co : List CT) {e : Nat} {d : Code} (k : Nat) (lf : Nat → HT cs → Option (HT co)) (h1 : ∀ n x, lf (n + 1) x = ev T d (f.mk' cs x) (outA e g co f cs (lf n)) := by intro n x; kernel_rfl) (hm : m ≤ f.m ∧ m ≤ g.m := by decide) (h0 : ∀ x, lf 0 x = none := by intro x; rfl) : RowL T m (loopA f cs e g co (lf k)) d := rowA k lf hm h0 h1
theorem rB {T : Tab} {m : Nat} (f g h : SF) (cs co cr : List CT) {e : Nat} {d : Code} (k : Nat) (lf : Nat → HT cs → Option (HT co ⊕ HT cr)) (h1 : ∀ n x, lf (n + 1) x = ev T d (f.mk' cs x) (outB e g co h cr f cs (lf n)) := by intro n x; kernel_rfl) (hm : m ≤ f.m ∧ m ≤ g.m ∧ m ≤ h.m := by decide) (h0 : ∀ x, lf 0 x = none := by intro x; rfl) : RowL T m (loopB f cs e g co h cr (lf k)) d := rowB k lf hm h0 h1
theorem tn {C : List (Nat × CallI)} {D : List (Nat × PrI)} {f : Nat} {c : CallI} {fn : Func} (h : TF C D) (hc : CallOK Tryz.prog f (c.I.call c.F)) (hf : Tryz.prog.funcs[f]? = some fn) (hr : Nat.beq f 9999 = false := by kernel_rfl) (h1 : (fn.name == "runtime.NumGoroutine") = false := by kernel_rfl) (h2 : fn.body.isNone = false := by kernel_rfl) : TF ((f, c) :: C) D := tc_cons h hr hc (enter_of hf h1 h2)
noncomputable def b40 : Code := Tryz.f40.body.getD .skip
noncomputable def K1 (k : Nat) : List (Nat × CallI) := (40, ⟨I40, laws_szPointS k⟩) :: K0 k
noncomputable def b108 : Code := Tryz.f108.body.getD .skip
noncomputable def K2 (k : Nat) : List (Nat × CallI) := (108, ⟨I108, laws_szInt64S k⟩) :: K1 k
noncomputable def b76 : Code := Tryz.f76.body.getD .skip
noncomputable def K3 (k : Nat) : List (Nat × CallI) := (76, ⟨I76, laws_szFace k⟩) :: K2 k
noncomputable def b41 : Code := Tryz.f41.body.getD .skip
noncomputable def K4 (k : Nat) : List (Nat × CallI) := (41, ⟨I41, laws_szFaceS k⟩) :: K3 k
noncomputable def b18 : Code := Tryz.f18.body.getD .skip
noncomputable def K5 (k : Nat) : List (Nat × CallI) := (18, ⟨I18, laws_szDrawing k⟩) :: K4 k
noncomputable def b42 : Code := Tryz.f42.body.getD .skip
noncomputable def K6 (k : Nat) : List (Nat × CallI) := (42, ⟨I42, laws_szVeneer k⟩) :: K5 k
noncomputable def b19 : Code := Tryz.f19.body.getD .skip
noncomputable def K7 (k : Nat) : List (Nat × CallI) := (19, ⟨I19, laws_szVeneerS k⟩) :: K6 k
noncomputable def b4 : Code := Tryz.f4.body.getD .skip
noncomputable def K8 (k : Nat) : List (Nat × CallI) := (4, ⟨I4, laws_szPicture k⟩) :: K7 k
noncomputable def b43 : Code := Tryz.f43.body.getD .skip
noncomputable def K9 (k : Nat) : List (Nat × CallI) := (43, ⟨I43, laws_szBoxS k⟩) :: K8 k
noncomputable def b20 : Code := Tryz.f20.body.getD .skip
noncomputable def K10 (k : Nat) : List (Nat × CallI) := (20, ⟨I20, laws_szLeaf k⟩) :: K9 k
noncomputable def b5 : Code := Tryz.f5.body.getD .skip
noncomputable def K11 (k : Nat) : List (Nat × CallI) := (5, ⟨I5, laws_szLeafS k⟩) :: K10 k
noncomputable def b47 : Code := Tryz.f47.body.getD .skip
noncomputable def K12 (k : Nat) : List (Nat × CallI) := (47, ⟨I47, spec_l00In k⟩) :: K11 k
noncomputable def b86 : Code := Tryz.f86.body.getD .skip
noncomputable def K13 (k : Nat) : List (Nat × CallI) := (86, ⟨I86, spec_l05Ring k⟩) :: K12 k
noncomputable def b109 : Code := Tryz.f109.body.getD .skip
noncomputable def K14 (k : Nat) : List (Nat × CallI) := (109, ⟨I109, spec_l05Points k⟩) :: K13 k
noncomputable def b132 : Code := Tryz.f132.body.getD .skip
noncomputable def K15 (k : Nat) : List (Nat × CallI) := (132, ⟨I132, spec_l01Small k⟩) :: K14 k
noncomputable def b133 : Code := Tryz.f133.body.getD .skip
noncomputable def K16 (k : Nat) : List (Nat × CallI) := (133, ⟨I133, spec_l01Digit k⟩) :: K15 k
noncomputable def b110 : Code := Tryz.f110.body.getD .skip
noncomputable def K17 (k : Nat) : List (Nat × CallI) := (110, ⟨I110, spec_l01Name k⟩) :: K16 k
noncomputable def b134 : Code := Tryz.f134.body.getD .skip
noncomputable def K18 (k : Nat) : List (Nat × CallI) := (134, ⟨I134, spec_l02Ok k⟩) :: K17 k
noncomputable def b80 : Code := Tryz.f80.body.getD .skip
noncomputable def K19 (k : Nat) : List (Nat × CallI) := (80, ⟨I80, spec_l00Max k⟩) :: K18 k
noncomputable def b83 : Code := Tryz.f83.body.getD .skip
noncomputable def K20 (k : Nat) : List (Nat × CallI) := (83, ⟨I83, spec_l00Min k⟩) :: K19 k
noncomputable def b162 : Code := Tryz.f162.body.getD .skip
noncomputable def K21 (k : Nat) : List (Nat × CallI) := (162, ⟨I162, spec_l02Cross k⟩) :: K20 k
noncomputable def b142 : Code := Tryz.f142.body.getD .skip
noncomputable def K22 (k : Nat) : List (Nat × CallI) := (142, ⟨I142, spec_l02Side k⟩) :: K21 k
noncomputable def b135 : Code := Tryz.f135.body.getD .skip
noncomputable def K23 (k : Nat) : List (Nat × CallI) := (135, ⟨I135, spec_l02On k⟩) :: K22 k
noncomputable def b159 : Code := Tryz.f159.body.getD .skip
noncomputable def K24 (k : Nat) : List (Nat × CallI) := (159, ⟨I159, spec_l02Crosses k⟩) :: K23 k
noncomputable def b136 : Code := Tryz.f136.body.getD .skip
noncomputable def K25 (k : Nat) : List (Nat × CallI) := (136, ⟨I136, spec_l03Meet k⟩) :: K24 k
noncomputable def b137 : Code := Tryz.f137.body.getD .skip
noncomputable def K26 (k : Nat) : List (Nat × CallI) := (137, ⟨I137, spec_l03Area k⟩) :: K25 k
noncomputable def b111 : Code := Tryz.f111.body.getD .skip
noncomputable def K27 (k : Nat) : List (Nat × CallI) := (111, ⟨I111, spec_l03Ok k⟩) :: K26 k
noncomputable def b77 : Code := Tryz.f77.body.getD .skip
noncomputable def K28 (k : Nat) : List (Nat × CallI) := (77, ⟨I77, spec_l05Ok k⟩) :: K27 k
noncomputable def b160 : Code := Tryz.f160.body.getD .skip
noncomputable def K29 (k : Nat) : List (Nat × CallI) := (160, ⟨I160, spec_l07Names k⟩) :: K28 k
noncomputable def b138 : Code := Tryz.f138.body.getD .skip
noncomputable def K30 (k : Nat) : List (Nat × CallI) := (138, ⟨I138, spec_l07Find k⟩) :: K29 k
noncomputable def b139 : Code := Tryz.f139.body.getD .skip
noncomputable def K31 (k : Nat) : List (Nat × CallI) := (139, ⟨I139, spec_l07Table k⟩) :: K30 k
noncomputable def b140 : Code := Tryz.f140.body.getD .skip
noncomputable def K32 (k : Nat) : List (Nat × CallI) := (140, ⟨I140, spec_l07Grain k⟩) :: K31 k
noncomputable def b112 : Code := Tryz.f112.body.getD .skip
noncomputable def K33 (k : Nat) : List (Nat × CallI) := (112, ⟨I112, spec_l07Ok k⟩) :: K32 k
noncomputable def b78 : Code := Tryz.f78.body.getD .skip
noncomputable def K34 (k : Nat) : List (Nat × CallI) := (78, ⟨I78, spec_l08Veneers k⟩) :: K33 k
noncomputable def b44 : Code := Tryz.f44.body.getD .skip
noncomputable def K35 (k : Nat) : List (Nat × CallI) := (44, ⟨I44, spec_l08Ok k⟩) :: K34 k
noncomputable def b113 : Code := Tryz.f113.body.getD .skip
noncomputable def K36 (k : Nat) : List (Nat × CallI) := (113, ⟨I113, spec_l09Box k⟩) :: K35 k
noncomputable def b79 : Code := Tryz.f79.body.getD .skip
noncomputable def K37 (k : Nat) : List (Nat × CallI) := (79, ⟨I79, spec_l09One k⟩) :: K36 k
noncomputable def b45 : Code := Tryz.f45.body.getD .skip
noncomputable def K38 (k : Nat) : List (Nat × CallI) := (45, ⟨I45, spec_l09Ok k⟩) :: K37 k
noncomputable def b46 : Code := Tryz.f46.body.getD .skip
noncomputable def K39 (k : Nat) : List (Nat × CallI) := (46, ⟨I46, spec_l11Rules k⟩) :: K38 k
noncomputable def b21 : Code := Tryz.f21.body.getD .skip
noncomputable def K40 (k : Nat) : List (Nat × CallI) := (21, ⟨I21, spec_l11Ask k⟩) :: K39 k
noncomputable def b22 : Code := Tryz.f22.body.getD .skip
noncomputable def K41 (k : Nat) : List (Nat × CallI) := (22, ⟨I22, spec_l11Step k⟩) :: K40 k
noncomputable def b81 : Code := Tryz.f81.body.getD .skip
noncomputable def K42 (k : Nat) : List (Nat × CallI) := (81, ⟨I81, spec_l07Angle k⟩) :: K41 k
noncomputable def b82 : Code := Tryz.f82.body.getD .skip
noncomputable def K43 (k : Nat) : List (Nat × CallI) := (82, ⟨I82, spec_l07Turned k⟩) :: K42 k
noncomputable def b48 : Code := Tryz.f48.body.getD .skip
noncomputable def K44 (k : Nat) : List (Nat × CallI) := (48, ⟨I48, spec_l11Veneer k⟩) :: K43 k
noncomputable def b49 : Code := Tryz.f49.body.getD .skip
noncomputable def K45 (k : Nat) : List (Nat × CallI) := (49, ⟨I49, spec_l03Bounds k⟩) :: K44 k
noncomputable def b84 : Code := Tryz.f84.body.getD .skip
noncomputable def K46 (k : Nat) : List (Nat × CallI) := (84, ⟨I84, spec_l02Turned k⟩) :: K45 k
noncomputable def b85 : Code := Tryz.f85.body.getD .skip
noncomputable def K47 (k : Nat) : List (Nat × CallI) := (85, ⟨I85, spec_l03Shifted k⟩) :: K46 k
noncomputable def b50 : Code := Tryz.f50.body.getD .skip
noncomputable def K48 (k : Nat) : List (Nat × CallI) := (50, ⟨I50, spec_l03Turned k⟩) :: K47 k
noncomputable def b51 : Code := Tryz.f51.body.getD .skip
noncomputable def K49 (k : Nat) : List (Nat × CallI) := (51, ⟨I51, spec_l05Polygon k⟩) :: K48 k
noncomputable def b161 : Code := Tryz.f161.body.getD .skip
noncomputable def K50 (k : Nat) : List (Nat × CallI) := (161, ⟨I161, spec_l04In k⟩) :: K49 k
noncomputable def b141 : Code := Tryz.f141.body.getD .skip
noncomputable def K51 (k : Nat) : List (Nat × CallI) := (141, ⟨I141, spec_l04Ear k⟩) :: K50 k
noncomputable def b114 : Code := Tryz.f114.body.getD .skip
noncomputable def K52 (k : Nat) : List (Nat × CallI) := (114, ⟨I114, spec_l04Triangles k⟩) :: K51 k
noncomputable def b115 : Code := Tryz.f115.body.getD .skip
noncomputable def K53 (k : Nat) : List (Nat × CallI) := (115, ⟨I115, spec_l04Parted k⟩) :: K52 k
noncomputable def b87 : Code := Tryz.f87.body.getD .skip
noncomputable def K54 (k : Nat) : List (Nat × CallI) := (87, ⟨I87, spec_l04Disjoint k⟩) :: K53 k
noncomputable def b88 : Code := Tryz.f88.body.getD .skip
noncomputable def K55 (k : Nat) : List (Nat × CallI) := (88, ⟨I88, spec_l11Box k⟩) :: K54 k
noncomputable def b52 : Code := Tryz.f52.body.getD .skip
noncomputable def K56 (k : Nat) : List (Nat × CallI) := (52, ⟨I52, spec_l11Leaf k⟩) :: K55 k
noncomputable def b53 : Code := Tryz.f53.body.getD .skip
noncomputable def K57 (k : Nat) : List (Nat × CallI) := (53, ⟨I53, spec_l11Polygon k⟩) :: K56 k
noncomputable def b23 : Code := Tryz.f23.body.getD .skip
noncomputable def K58 (k : Nat) : List (Nat × CallI) := (23, ⟨I23, spec_l11Places k⟩) :: K57 k
noncomputable def b116 : Code := Tryz.f116.body.getD .skip
noncomputable def K59 (k : Nat) : List (Nat × CallI) := (116, ⟨I116, spec_l03Inside k⟩) :: K58 k
noncomputable def b143 : Code := Tryz.f143.body.getD .skip
noncomputable def K60 (k : Nat) : List (Nat × CallI) := (143, ⟨I143, spec_l02Touches k⟩) :: K59 k
noncomputable def b163 : Code := Tryz.f163.body.getD .skip
noncomputable def K61 (k : Nat) : List (Nat × CallI) := (163, ⟨I163, spec_l02Square k⟩) :: K60 k
noncomputable def b165 : Code := Tryz.f165.body.getD .skip
noncomputable def K62 (k : Nat) : List (Nat × CallI) := (165, ⟨I165, spec_l01Root k⟩) :: K61 k
noncomputable def b164 : Code := Tryz.f164.body.getD .skip
noncomputable def K63 (k : Nat) : List (Nat × CallI) := (164, ⟨I164, spec_l02Apart k⟩) :: K62 k
noncomputable def b144 : Code := Tryz.f144.body.getD .skip
noncomputable def K64 (k : Nat) : List (Nat × CallI) := (144, ⟨I144, spec_l02Far k⟩) :: K63 k
noncomputable def b117 : Code := Tryz.f117.body.getD .skip
noncomputable def K65 (k : Nat) : List (Nat × CallI) := (117, ⟨I117, spec_l02Gap k⟩) :: K64 k
noncomputable def b89 : Code := Tryz.f89.body.getD .skip
noncomputable def K66 (k : Nat) : List (Nat × CallI) := (89, ⟨I89, spec_l04Distance k⟩) :: K65 k
noncomputable def b54 : Code := Tryz.f54.body.getD .skip
noncomputable def K67 (k : Nat) : List (Nat × CallI) := (54, ⟨I54, spec_l11Near k⟩) :: K66 k
noncomputable def b24 : Code := Tryz.f24.body.getD .skip
noncomputable def K68 (k : Nat) : List (Nat × CallI) := (24, ⟨I24, spec_l11Free k⟩) :: K67 k
noncomputable def b6 : Code := Tryz.f6.body.getD .skip
noncomputable def K69 (k : Nat) : List (Nat × CallI) := (6, ⟨I6, spec_GreedyNesting k⟩) :: K68 k
noncomputable def b90 : Code := Tryz.f90.body.getD .skip
noncomputable def K70 (k : Nat) : List (Nat × CallI) := (90, ⟨I90, laws_toPoint k⟩) :: K69 k
noncomputable def b55 : Code := Tryz.f55.body.getD .skip
noncomputable def K71 (k : Nat) : List (Nat × CallI) := (55, ⟨I55, laws_toPointS k⟩) :: K70 k
noncomputable def b118 : Code := Tryz.f118.body.getD .skip
noncomputable def K72 (k : Nat) : List (Nat × CallI) := (118, ⟨I118, laws_toInt64S k⟩) :: K71 k
noncomputable def b91 : Code := Tryz.f91.body.getD .skip
noncomputable def K73 (k : Nat) : List (Nat × CallI) := (91, ⟨I91, laws_toFace k⟩) :: K72 k
noncomputable def b56 : Code := Tryz.f56.body.getD .skip
noncomputable def T56 (k : Nat) : Tab := TN (TB (K73 k) (D0 k)) (L56 k) N
noncomputable def K74 (k : Nat) : List (Nat × CallI) := (56, ⟨I56, laws_toFaceS k⟩) :: K73 k
noncomputable def b25 : Code := Tryz.f25.body.getD .skip
noncomputable def K75 (k : Nat) : List (Nat × CallI) := (25, ⟨I25, laws_toDrawing k⟩) :: K74 k
noncomputable def b57 : Code := Tryz.f57.body.getD .skip
noncomputable def K76 (k : Nat) : List (Nat × CallI) := (57, ⟨I57, laws_toVeneer k⟩) :: K75 k
noncomputable def b26 : Code := Tryz.f26.body.getD .skip
noncomputable def K77 (k : Nat) : List (Nat × CallI) := (26, ⟨I26, laws_toVeneerS k⟩) :: K76 k
noncomputable def b7 : Code := Tryz.f7.body.getD .skip
noncomputable def K78 (k : Nat) : List (Nat × CallI) := (7, ⟨I7, laws_toPicture k⟩) :: K77 k
noncomputable def b92 : Code := Tryz.f92.body.getD .skip
noncomputable def K79 (k : Nat) : List (Nat × CallI) := (92, ⟨I92, laws_toBox k⟩) :: K78 k
noncomputable def b58 : Code := Tryz.f58.body.getD .skip
noncomputable def K80 (k : Nat) : List (Nat × CallI) := (58, ⟨I58, laws_toBoxS k⟩) :: K79 k
noncomputable def b27 : Code := Tryz.f27.body.getD .skip
noncomputable def K81 (k : Nat) : List (Nat × CallI) := (27, ⟨I27, laws_toLeaf k⟩) :: K80 k
noncomputable def b8 : Code := Tryz.f8.body.getD .skip
noncomputable def T8 (k : Nat) : Tab := TN (TB (K81 k) (D0 k)) (L8 k) N
noncomputable def K82 (k : Nat) : List (Nat × CallI) := (8, ⟨I8, laws_toLeafS k⟩) :: K81 k
noncomputable def b9 : Code := Tryz.f9.body.getD .skip
noncomputable def K83 (k : Nat) : List (Nat × CallI) := (9, ⟨I9, laws_toRules k⟩) :: K82 k
noncomputable def b62 : Code := Tryz.f62.body.getD .skip
noncomputable def K84 (k : Nat) : List (Nat × CallI) := (62, ⟨I62, impl_within k⟩) :: K83 k
noncomputable def b96 : Code := Tryz.f96.body.getD .skip
noncomputable def K85 (k : Nat) : List (Nat × CallI) := (96, ⟨I96, impl_ringPolygon k⟩) :: K84 k
noncomputable def b145 : Code := Tryz.f145.body.getD .skip
noncomputable def K86 (k : Nat) : List (Nat × CallI) := (145, ⟨I145, slices_Index k⟩) :: K85 k
noncomputable def b119 : Code := Tryz.f119.body.getD .skip
noncomputable def K87 (k : Nat) : List (Nat × CallI) := (119, ⟨I119, slices_Contains k⟩) :: K86 k
noncomputable def b120 : Code := Tryz.f120.body.getD .skip
noncomputable def K88 (k : Nat) : List (Nat × CallI) := (120, ⟨I120, impl_IsName k⟩) :: K87 k
noncomputable def b166 : Code := Tryz.f166.body.getD .skip
noncomputable def K89 (k : Nat) : List (Nat × CallI) := (166, ⟨I166, impl_ValidPoint k⟩) :: K88 k
noncomputable def b146 : Code := Tryz.f146.body.getD .skip
noncomputable def K90 (k : Nat) : List (Nat × CallI) := (146, ⟨I146, impl_validPoints k⟩) :: K89 k
noncomputable def b156 : Code := Tryz.f156.body.getD .skip
noncomputable def K91 (k : Nat) : List (Nat × CallI) := (156, ⟨I156, impl_side k⟩) :: K90 k
noncomputable def b147 : Code := Tryz.f147.body.getD .skip
noncomputable def K92 (k : Nat) : List (Nat × CallI) := (147, ⟨I147, impl_on k⟩) :: K91 k
noncomputable def b167 : Code := Tryz.f167.body.getD .skip
noncomputable def K93 (k : Nat) : List (Nat × CallI) := (167, ⟨I167, impl_crossing k⟩) :: K92 k
noncomputable def b148 : Code := Tryz.f148.body.getD .skip
noncomputable def K94 (k : Nat) : List (Nat × CallI) := (148, ⟨I148, impl_touching k⟩) :: K93 k
noncomputable def b149 : Code := Tryz.f149.body.getD .skip
noncomputable def K95 (k : Nat) : List (Nat × CallI) := (149, ⟨I149, impl_doubled k⟩) :: K94 k
noncomputable def b121 : Code := Tryz.f121.body.getD .skip
noncomputable def K96 (k : Nat) : List (Nat × CallI) := (121, ⟨I121, impl_ValidPolygon k⟩) :: K95 k
noncomputable def b93 : Code := Tryz.f93.body.getD .skip
noncomputable def K97 (k : Nat) : List (Nat × CallI) := (93, ⟨I93, impl_ValidDrawing k⟩) :: K96 k
noncomputable def b168 : Code := Tryz.f168.body.getD .skip
noncomputable def K98 (k : Nat) : List (Nat × CallI) := (168, ⟨I168, impl_SpeciesData k⟩) :: K97 k
noncomputable def b151 : Code := Tryz.f151.body.getD .skip
noncomputable def K99 (k : Nat) : List (Nat × CallI) := (151, ⟨I151, impl_speciesShade k⟩) :: K98 k
noncomputable def b124 : Code := Tryz.f124.body.getD .skip
noncomputable def K100 (k : Nat) : List (Nat × CallI) := (124, ⟨I124, impl_ValidVeneer k⟩) :: K99 k
noncomputable def b123 : Code := Tryz.f123.body.getD .skip
noncomputable def K101 (k : Nat) : List (Nat × CallI) := (123, ⟨I123, impl_validVeneers_1 k⟩) :: K100 k
noncomputable def b150 : Code := Tryz.f150.body.getD .skip
noncomputable def K102 (k : Nat) : List (Nat × CallI) := (150, ⟨I150, slices_IndexFunc k⟩) :: K101 k
noncomputable def b122 : Code := Tryz.f122.body.getD .skip
noncomputable def K103 (k : Nat) : List (Nat × CallI) := (122, ⟨I122, slices_ContainsFunc k⟩) :: K102 k
noncomputable def b94 : Code := Tryz.f94.body.getD .skip
noncomputable def K104 (k : Nat) : List (Nat × CallI) := (94, ⟨I94, impl_validVeneers k⟩) :: K103 k
noncomputable def b59 : Code := Tryz.f59.body.getD .skip
noncomputable def K105 (k : Nat) : List (Nat × CallI) := (59, ⟨I59, impl_ValidPicture k⟩) :: K104 k
noncomputable def b127 : Code := Tryz.f127.body.getD .skip
noncomputable def K106 (k : Nat) : List (Nat × CallI) := (127, ⟨I127, impl_boxWithin k⟩) :: K105 k
noncomputable def b126 : Code := Tryz.f126.body.getD .skip
noncomputable def T126 (k : Nat) : Tab := TQ (TB (K106 k) (D0 k)) [] N
noncomputable def D1 (k : Nat) : List (Nat × PrI) := (126, ⟨I126.call (impl_ValidLeaf_1 k)⟩) :: D0 k
noncomputable def b152 : Code := Tryz.f152.body.getD .skip
noncomputable def T152 (k : Nat) : Tab := TQ (TB (K106 k) (D1 k)) (L152 k) N
noncomputable def D2 (k : Nat) : List (Nat × PrI) := (152, ⟨I152.call (slices_IndexFunc_152 k)⟩) :: D1 k
noncomputable def b125 : Code := Tryz.f125.body.getD .skip
noncomputable def T125 (k : Nat) : Tab := TQ (TB (K106 k) (D2 k)) [] N
noncomputable def D3 (k : Nat) : List (Nat × PrI) := (125, ⟨I125.call (slices_ContainsFunc_125 k)⟩) :: D2 k
noncomputable def b95 : Code := Tryz.f95.body.getD .skip
noncomputable def K107 (k : Nat) : List (Nat × CallI) := (95, ⟨I95, impl_ValidLeaf k⟩) :: K106 k
noncomputable def b60 : Code := Tryz.f60.body.getD .skip
noncomputable def K108 (k : Nat) : List (Nat × CallI) := (60, ⟨I60, impl_ValidLeaves k⟩) :: K107 k
noncomputable def b61 : Code := Tryz.f61.body.getD .skip
noncomputable def K109 (k : Nat) : List (Nat × CallI) := (61, ⟨I61, impl_ValidRules k⟩) :: K108 k
noncomputable def b28 : Code := Tryz.f28.body.getD .skip
noncomputable def K110 (k : Nat) : List (Nat × CallI) := (28, ⟨I28, impl_nestCode k⟩) :: K109 k
noncomputable def b63 : Code := Tryz.f63.body.getD .skip
noncomputable def K111 (k : Nat) : List (Nat × CallI) := (63, ⟨I63, impl_facePolygon k⟩) :: K110 k
noncomputable def b97 : Code := Tryz.f97.body.getD .skip
noncomputable def K112 (k : Nat) : List (Nat × CallI) := (97, ⟨I97, impl_TurnGrain k⟩) :: K111 k
noncomputable def b98 : Code := Tryz.f98.body.getD .skip
noncomputable def K113 (k : Nat) : List (Nat × CallI) := (98, ⟨I98, impl_GrainAngle k⟩) :: K112 k
noncomputable def b64 : Code := Tryz.f64.body.getD .skip
noncomputable def K114 (k : Nat) : List (Nat × CallI) := (64, ⟨I64, impl_veneerFault k⟩) :: K113 k
noncomputable def b66 : Code := Tryz.f66.body.getD .skip
noncomputable def K115 (k : Nat) : List (Nat × CallI) := (66, ⟨I66, impl_bounds k⟩) :: K114 k
noncomputable def b67 : Code := Tryz.f67.body.getD .skip
noncomputable def K116 (k : Nat) : List (Nat × CallI) := (67, ⟨I67, impl_shifted k⟩) :: K115 k
noncomputable def b99 : Code := Tryz.f99.body.getD .skip
noncomputable def K117 (k : Nat) : List (Nat × CallI) := (99, ⟨I99, impl_Turned k⟩) :: K116 k
noncomputable def b100 : Code := Tryz.f100.body.getD .skip
noncomputable def T100 (k : Nat) : Tab := TQ (TB (K117 k) (D3 k)) (L100 k) N
noncomputable def D4 (k : Nat) : List (Nat × PrI) := (100, ⟨I100.call (slices_Reverse k)⟩) :: D3 k
noncomputable def b65 : Code := Tryz.f65.body.getD .skip
noncomputable def K118 (k : Nat) : List (Nat × CallI) := (65, ⟨I65, impl_turnPoints k⟩) :: K117 k
noncomputable def K119 (k : Nat) : List (Nat × CallI) := (153, ⟨I153, slices_Clone k⟩) :: K118 k
noncomputable def b169 : Code := Tryz.f169.body.getD .skip
noncomputable def K120 (k : Nat) : List (Nat × CallI) := (169, ⟨I169, impl_inTriangle k⟩) :: K119 k
noncomputable def b154 : Code := Tryz.f154.body.getD .skip
noncomputable def K121 (k : Nat) : List (Nat × CallI) := (154, ⟨I154, impl_ear k⟩) :: K120 k
noncomputable def D5 (k : Nat) : List (Nat × PrI) := (155, ⟨delH⟩) :: D4 k
noncomputable def b128 : Code := Tryz.f128.body.getD .skip
noncomputable def K122 (k : Nat) : List (Nat × CallI) := (128, ⟨I128, impl_triangles k⟩) :: K121 k
noncomputable def b129 : Code := Tryz.f129.body.getD .skip
noncomputable def K123 (k : Nat) : List (Nat × CallI) := (129, ⟨I129, impl_beside k⟩) :: K122 k
noncomputable def b101 : Code := Tryz.f101.body.getD .skip
noncomputable def K124 (k : Nat) : List (Nat × CallI) := (101, ⟨I101, impl_apart k⟩) :: K123 k
noncomputable def b102 : Code := Tryz.f102.body.getD .skip
noncomputable def K125 (k : Nat) : List (Nat × CallI) := (102, ⟨I102, impl_boxPolygon k⟩) :: K124 k
noncomputable def b68 : Code := Tryz.f68.body.getD .skip
noncomputable def K126 (k : Nat) : List (Nat × CallI) := (68, ⟨I68, impl_leafFault k⟩) :: K125 k
noncomputable def b157 : Code := Tryz.f157.body.getD .skip
noncomputable def K127 (k : Nat) : List (Nat × CallI) := (157, ⟨I157, impl_inside k⟩) :: K126 k
noncomputable def b171 : Code := Tryz.f171.body.getD .skip
noncomputable def K128 (k : Nat) : List (Nat × CallI) := (171, ⟨I171, impl_squared k⟩) :: K127 k
noncomputable def b172 : Code := Tryz.f172.body.getD .skip
noncomputable def K129 (k : Nat) : List (Nat × CallI) := (172, ⟨I172, impl_RootOf k⟩) :: K128 k
noncomputable def K130 (k : Nat) : List (Nat × CallI) := (173, ⟨I173, bits_Mul64 k⟩) :: K129 k
noncomputable def b174 : Code := Tryz.f174.body.getD .skip
noncomputable def K131 (k : Nat) : List (Nat × CallI) := (174, ⟨I174, bits_Div64 k⟩) :: K130 k
noncomputable def b170 : Code := Tryz.f170.body.getD .skip
noncomputable def K132 (k : Nat) : List (Nat × CallI) := (170, ⟨I170, impl_toSegment k⟩) :: K131 k
noncomputable def b158 : Code := Tryz.f158.body.getD .skip
noncomputable def K133 (k : Nat) : List (Nat × CallI) := (158, ⟨I158, impl_betweenSegments k⟩) :: K132 k
noncomputable def b130 : Code := Tryz.f130.body.getD .skip
noncomputable def K134 (k : Nat) : List (Nat × CallI) := (130, ⟨I130, impl_gap k⟩) :: K133 k
noncomputable def b103 : Code := Tryz.f103.body.getD .skip
noncomputable def K135 (k : Nat) : List (Nat × CallI) := (103, ⟨I103, impl_tooNear k⟩) :: K134 k
noncomputable def b69 : Code := Tryz.f69.body.getD .skip
noncomputable def K136 (k : Nat) : List (Nat × CallI) := (69, ⟨I69, impl_nest_free k⟩) :: K135 k
noncomputable def b31 : Code := Tryz.f31.body.getD .skip
noncomputable def T31 (k : Nat) : Tab := TQ (TB (K136 k) (D5 k)) [] N
noncomputable def D6 (k : Nat) : List (Nat × PrI) := (31, ⟨I31.call (impl_nest_put k)⟩) :: D5 k
noncomputable def b30 : Code := Tryz.f30.body.getD .skip
noncomputable def T30 (k : Nat) : Tab := TQ (TB (K136 k) (D6 k)) [] N
noncomputable def D7 (k : Nat) : List (Nat × PrI) := (30, ⟨I30.call (impl_GreedyNesting_1 k)⟩) :: D6 k
noncomputable def b29 : Code := Tryz.f29.body.getD .skip
noncomputable def T29 (k : Nat) : Tab := TQ (TB (K136 k) (D7 k)) (L29 k) J29
noncomputable def D8 (k : Nat) : List (Nat × PrI) := (29, ⟨I29.call (impl_nest_places k)⟩) :: D7 k
noncomputable def b10 : Code := Tryz.f10.body.getD .skip
noncomputable def K137 (k : Nat) : List (Nat × CallI) := (10, ⟨I10, impl_GreedyNesting k⟩) :: K136 k
noncomputable def b32 : Code := Tryz.f32.body.getD .skip
noncomputable def K138 (k : Nat) : List (Nat × CallI) := (32, ⟨I32, laws_eqPlacement k⟩) :: K137 k
noncomputable def b11 : Code := Tryz.f11.body.getD .skip
noncomputable def K139 (k : Nat) : List (Nat × CallI) := (11, ⟨I11, laws_eqPlacementS k⟩) :: K138 k
noncomputable def b104 : Code := Tryz.f104.body.getD .skip
noncomputable def K140 (k : Nat) : List (Nat × CallI) := (104, ⟨I104, laws_eqPoint k⟩) :: K139 k
noncomputable def b70 : Code := Tryz.f70.body.getD .skip
noncomputable def K141 (k : Nat) : List (Nat × CallI) := (70, ⟨I70, laws_eqPointS k⟩) :: K140 k
noncomputable def b131 : Code := Tryz.f131.body.getD .skip
noncomputable def K142 (k : Nat) : List (Nat × CallI) := (131, ⟨I131, laws_eqInt64S k⟩) :: K141 k
noncomputable def b105 : Code := Tryz.f105.body.getD .skip
noncomputable def K143 (k : Nat) : List (Nat × CallI) := (105, ⟨I105, laws_eqFace k⟩) :: K142 k
noncomputable def b71 : Code := Tryz.f71.body.getD .skip
noncomputable def K144 (k : Nat) : List (Nat × CallI) := (71, ⟨I71, laws_eqFaceS k⟩) :: K143 k
noncomputable def b33 : Code := Tryz.f33.body.getD .skip
noncomputable def K145 (k : Nat) : List (Nat × CallI) := (33, ⟨I33, laws_eqDrawing k⟩) :: K144 k
noncomputable def b72 : Code := Tryz.f72.body.getD .skip
noncomputable def K146 (k : Nat) : List (Nat × CallI) := (72, ⟨I72, laws_eqVeneer k⟩) :: K145 k
noncomputable def b34 : Code := Tryz.f34.body.getD .skip
noncomputable def K147 (k : Nat) : List (Nat × CallI) := (34, ⟨I34, laws_eqVeneerS k⟩) :: K146 k
noncomputable def b12 : Code := Tryz.f12.body.getD .skip
noncomputable def K148 (k : Nat) : List (Nat × CallI) := (12, ⟨I12, laws_eqPicture k⟩) :: K147 k
noncomputable def b106 : Code := Tryz.f106.body.getD .skip
noncomputable def K149 (k : Nat) : List (Nat × CallI) := (106, ⟨I106, laws_eqBox k⟩) :: K148 k
noncomputable def b73 : Code := Tryz.f73.body.getD .skip
noncomputable def K150 (k : Nat) : List (Nat × CallI) := (73, ⟨I73, laws_eqBoxS k⟩) :: K149 k
noncomputable def b35 : Code := Tryz.f35.body.getD .skip
noncomputable def K151 (k : Nat) : List (Nat × CallI) := (35, ⟨I35, laws_eqLeaf k⟩) :: K150 k
noncomputable def b13 : Code := Tryz.f13.body.getD .skip
noncomputable def K152 (k : Nat) : List (Nat × CallI) := (13, ⟨I13, laws_eqLeafS k⟩) :: K151 k
noncomputable def b74 : Code := Tryz.f74.body.getD .skip
noncomputable def K153 (k : Nat) : List (Nat × CallI) := (74, ⟨I74, laws_markPointS k⟩) :: K152 k
noncomputable def b38 : Code := Tryz.f38.body.getD .skip
noncomputable def K154 (k : Nat) : List (Nat × CallI) := (38, ⟨I38, laws_markText k⟩) :: K153 k
noncomputable def b107 : Code := Tryz.f107.body.getD .skip
noncomputable def K155 (k : Nat) : List (Nat × CallI) := (107, ⟨I107, laws_markInt64S k⟩) :: K154 k
noncomputable def b75 : Code := Tryz.f75.body.getD .skip
noncomputable def K156 (k : Nat) : List (Nat × CallI) := (75, ⟨I75, laws_markFaceS k⟩) :: K155 k
noncomputable def b36 : Code := Tryz.f36.body.getD .skip
noncomputable def K157 (k : Nat) : List (Nat × CallI) := (36, ⟨I36, laws_markDrawing k⟩) :: K156 k
noncomputable def b37 : Code := Tryz.f37.body.getD .skip
noncomputable def K158 (k : Nat) : List (Nat × CallI) := (37, ⟨I37, laws_markVeneerS k⟩) :: K157 k
noncomputable def b14 : Code := Tryz.f14.body.getD .skip
noncomputable def K159 (k : Nat) : List (Nat × CallI) := (14, ⟨I14, laws_markPicture k⟩) :: K158 k
noncomputable def b39 : Code := Tryz.f39.body.getD .skip
noncomputable def K160 (k : Nat) : List (Nat × CallI) := (39, ⟨I39, laws_markBoxS k⟩) :: K159 k
noncomputable def b15 : Code := Tryz.f15.body.getD .skip
noncomputable def K161 (k : Nat) : List (Nat × CallI) := (15, ⟨I15, laws_markLeafS k⟩) :: K160 k
noncomputable def b16 : Code := Tryz.f16.body.getD .skip
noncomputable def K162 (k : Nat) : List (Nat × CallI) := (16, ⟨I16, laws_markPlacementS k⟩) :: K161 k
noncomputable def b17 : Code := Tryz.f17.body.getD .skip
noncomputable def K163 (k : Nat) : List (Nat × CallI) := (17, ⟨I17, laws_heldPlacementS k⟩) :: K162 k
noncomputable def b3 : Code := Tryz.f3.body.getD .skip
end Go.Proofs.YtgcioclfplafkaaGreatV
end

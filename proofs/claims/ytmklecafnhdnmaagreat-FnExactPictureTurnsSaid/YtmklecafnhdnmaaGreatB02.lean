/- The types' table; slices.Clone and slices.Reverse; no condition. -/
import Derived.Test.YtmklecafnhdnmaaGreatA01
import Derived.Test.YtmklecafnhdnmaaGreatA09
import Derived.Test.YtmklecafnhdnmaaGreatB01
import Derived.Test.YtmklecafnhdnmaaGreatProg
import Derived.KernelRfl
import Derived.Shelf.SlicesG.Reverse
set_option linter.all false
section
/- The layouts of the translation's types. -/
namespace Go.Proofs.YtmklecafnhdnmaaGreatV
open Go
def ty : Nat → Option TI
  | 2 => some ⟨false, (.int .i64), 1, [], 0, 8, false⟩
  | 3 => some ⟨false, (.int .i64), 1, [], 0, 8, false⟩
  | 4 => some ⟨false, .bool, 1, [], 0, 1, false⟩
  | 5 => some ⟨false, (.int .u8), 1, [], 0, 1, false⟩
  | 6 => some ⟨false, (.int .u8), 1, [], 0, 1, false⟩
  | 7 => some ⟨true, (.pair (.int .i64) (.pair (.int .i64) (.pair .bool (.int .u8)))), 4, [0, 1, 2, 3], 0, 24, false⟩
  | 8 => some ⟨true, (.pair (.int .i64) (.pair (.int .i64) (.pair .bool (.int .u8)))), 4, [0, 1, 2, 3], 0, 24, false⟩
  | 9 => some ⟨false, .str, 1, [], 0, 16, false⟩
  | 10 => some ⟨false, .str, 1, [], 0, 16, false⟩
  | 11 => some ⟨false, .str, 1, [], 0, 16, false⟩
  | 12 => some ⟨false, (.int .u64), 1, [], 0, 8, false⟩
  | 13 => some ⟨true, (.pair .str (.int .u64)), 2, [0, 1], 0, 24, false⟩
  | 14 => some ⟨true, (.pair .str (.int .u64)), 2, [0, 1], 0, 24, false⟩
  | 15 => some ⟨false, .bool, 1, [], 138, 8, true⟩
  | 16 => some ⟨false, .bool, 1, [], 141, 8, true⟩
  | 17 => some ⟨false, .bool, 1, [], 151, 8, true⟩
  | 21 => some ⟨false, (.int .i32), 1, [], 0, 4, false⟩
  | 22 => some ⟨false, (.sl (.pair (.int .i64) (.int .i64))), 1, [], 106, 24, false⟩
  | 23 => some ⟨false, (.sl (.pair .str (.sl (.int .i64)))), 1, [], 99, 24, false⟩
  | 24 => some ⟨true, (.pair (.int .i64) (.pair (.int .i64) (.pair (.sl (.pair (.int .i64) (.int .i64))) (.sl (.pair .str (.sl (.int .i64))))))), 4, [0, 1, 2, 3], 0, 64, false⟩
  | 25 => some ⟨true, (.pair (.int .i64) (.pair (.int .i64) (.pair (.sl (.pair (.int .i64) (.int .i64))) (.sl (.pair .str (.sl (.int .i64))))))), 4, [0, 1, 2, 3], 0, 64, false⟩
  | 26 => some ⟨false, (.sl (.pair .str (.pair (.int .i64) (.int .i64)))), 1, [], 67, 24, false⟩
  | 27 => some ⟨true, (.pair (.int .i64) (.pair (.int .i64) (.pair (.sl (.pair (.int .i64) (.int .i64))) (.pair (.sl (.pair .str (.sl (.int .i64)))) (.sl (.pair .str (.pair (.int .i64) (.int .i64)))))))), 5, [0, 4], 0, 88, false⟩
  | 28 => some ⟨true, (.pair (.int .i64) (.pair (.int .i64) (.pair (.sl (.pair (.int .i64) (.int .i64))) (.pair (.sl (.pair .str (.sl (.int .i64)))) (.sl (.pair .str (.pair (.int .i64) (.int .i64)))))))), 5, [0, 4], 0, 88, false⟩
  | 30 => some ⟨false, (.sl (.int .i64)), 1, [], 2, 24, false⟩
  | 33 => some ⟨false, (.sl (.pair (.int .i64) (.int .i64))), 1, [], 74, 24, false⟩
  | 34 => some ⟨false, (.sl (.pair .str (.sl (.int .i64)))), 1, [], 78, 24, false⟩
  | 35 => some ⟨true, (.pair (.int .i64) (.pair (.int .i64) (.pair (.sl (.pair (.int .i64) (.int .i64))) (.sl (.pair .str (.sl (.int .i64))))))), 4, [0, 1, 2, 3], 0, 64, false⟩
  | 36 => some ⟨true, (.pair (.int .i64) (.pair (.int .i64) (.pair (.sl (.pair (.int .i64) (.int .i64))) (.sl (.pair .str (.sl (.int .i64))))))), 4, [0, 1, 2, 3], 0, 64, false⟩
  | 37 => some ⟨false, (.sl (.pair .str (.pair (.int .i64) (.int .i64)))), 1, [], 58, 24, false⟩
  | 38 => some ⟨true, (.pair (.int .i64) (.pair (.int .i64) (.pair (.sl (.pair (.int .i64) (.int .i64))) (.pair (.sl (.pair .str (.sl (.int .i64)))) (.sl (.pair .str (.pair (.int .i64) (.int .i64)))))))), 5, [0, 4], 0, 88, false⟩
  | 39 => some ⟨true, (.pair (.int .i64) (.pair (.int .i64) (.pair (.sl (.pair (.int .i64) (.int .i64))) (.pair (.sl (.pair .str (.sl (.int .i64)))) (.sl (.pair .str (.pair (.int .i64) (.int .i64)))))))), 5, [0, 4], 0, 88, false⟩
  | 49 => some ⟨false, .bool, 1, [], 39, 8, true⟩
  | 57 => some ⟨true, (.pair .str (.pair (.int .i64) (.int .i64))), 3, [0, 1, 2], 0, 32, false⟩
  | 58 => some ⟨true, (.pair .str (.pair (.int .i64) (.int .i64))), 3, [0, 1, 2], 0, 32, false⟩
  | 67 => some ⟨true, (.pair .str (.pair (.int .i64) (.int .i64))), 3, [0, 1, 2], 0, 32, false⟩
  | 69 => some ⟨false, .bool, 1, [], 36, 8, true⟩
  | 73 => some ⟨true, (.pair (.int .i64) (.int .i64)), 2, [0, 1], 0, 16, false⟩
  | 74 => some ⟨true, (.pair (.int .i64) (.int .i64)), 2, [0, 1], 0, 16, false⟩
  | 77 => some ⟨true, (.pair .str (.sl (.int .i64))), 2, [0, 1], 0, 40, false⟩
  | 78 => some ⟨true, (.pair .str (.sl (.int .i64))), 2, [0, 1], 0, 40, false⟩
  | 99 => some ⟨true, (.pair .str (.sl (.int .i64))), 2, [0, 1], 0, 40, false⟩
  | 103 => some ⟨false, .bool, 1, [], 58, 8, true⟩
  | 106 => some ⟨true, (.pair (.int .i64) (.int .i64)), 2, [0, 1], 0, 16, false⟩
  | 119 => some ⟨false, (.sl (.int .u8)), 1, [], 5, 24, false⟩
  | 123 => some ⟨false, (.sl (.sl (.int .i64))), 1, [], 30, 24, false⟩
  | 132 => some ⟨false, (.sl .str), 1, [], 9, 24, false⟩
  | 143 => some ⟨false, (.int .u32), 1, [], 0, 4, false⟩
  | 144 => some ⟨false, (.int .u8), 1, [], 0, 1, false⟩
  | 145 => some ⟨false, (.int .u8), 1, [], 0, 1, false⟩
  | 147 => some ⟨false, .bool, 1, [], 5, 8, true⟩
  | 148 => some ⟨false, (.int .i32), 1, [], 0, 4, false⟩
  | 149 => some ⟨false, (.int .i32), 1, [], 0, 4, false⟩
  | _ => none
def wr (n : Nat) : Bool := [56, 11, 57, 26, 27, 10, 48].contains n
def eqt (n : Nat) : Bool := [7, 8, 57, 58, 67, 73, 74, 106].contains n
end Go.Proofs.YtmklecafnhdnmaaGreatV
end

section
/- The program's types, as the evaluator's table has them; no condition. -/
namespace Go.Proofs.YtmklecafnhdnmaaGreatV
open Go Go.RowKit Go.Proofs
noncomputable def TB (C : List (Nat × CallI)) : Tab := TC ty wr eqt 48 92 C
noncomputable def K0 (_k : Nat) : List (Nat × CallI) := []
theorem mixed : Tryz.prog.follows .mixedOrders = true := by kernel_rfl
theorem enter_of {P : Program} {f : Nat} {fn : Func} (h : P.funcs[f]? = some fn) (h1 : (fn.name == "runtime.NumGoroutine") = false) (h2 : fn.body.isNone = false) : Enterable P f := ⟨fn, h, h1, h2⟩
theorem ty_small : ∀ t, 200 ≤ t → ty t = none := by
  intro t ht
  unfold ty
  split <;> first | omega | rfl
theorem ty_all : ((List.range 200).all fun t => match ty t with | some ti => tiOk Tryz.prog t ti && (!eqt t || eqOk Tryz.prog t ti) | none => true) = true := by kernel_rfl
theorem ty_both (t : Nat) (ti : TI) (h : ty t = some ti) : (tiOk Tryz.prog t ti && (!eqt t || eqOk Tryz.prog t ti)) = true := by
  rcases Nat.lt_or_ge t 200 with h1 | h1
  · have := (List.all_eq_true.1 ty_all) t (List.mem_range.2 h1)
    simp only [h] at this
    exact this
  · rw [ty_small t h1] at h; cases h
theorem and_l {a b : Bool} (h : (a && b) = true) : a = true := by cases a <;> simp_all
theorem and_r {a b : Bool} (h : (a && b) = true) : b = true := by cases a <;> simp_all
theorem or_r {a b : Bool} (h : (!a || b) = true) (ha : a = true) : b = true := by cases a <;> simp_all
theorem tab_ok : TabOK Tryz.prog (TB []) := ⟨fun t ti h => and_l (ty_both t ti h), fun t ti he h => or_r (and_r (ty_both t ti h)) he⟩
theorem t_nil (k : Nat) : TabFn Tryz.prog (TB (K0 k)) := tc_nil tab_ok
end Go.Proofs.YtmklecafnhdnmaaGreatV
end

section
/- slices.Clone, whatever the element; no condition. -/
namespace Go.Proofs.YtmklecafnhdnmaaGreatV
open Go Go.RowKit
/-- what stands behind the question whether the slice is nil -/
def restK (T : Tab) (fn : Func) (cnd r3 : Code) (st : St) : Option (TV × List CV) := ev T (.seq cnd (.seq r3 .ret)) st fun e st => match e with | .exit _ => none | _ => finish T fn 0 st
theorem part_ok {P : Program} {T : Tab} {W : List Gh} {w0 : World} {c1 c2 : Code} (h1 : CodeOK P T W w0 c1 (fun st K => ev T c1 st K)) (h2 : CodeOK P T W w0 c2 (fun st K => ev T c2 st K)) {R : Type} {st : St} {K : Ex → St → Option R} {r : R} {a : Act} {w : World} {Q : Exit → Act → World → Prop}
    (hR : RelN T W w0 st a w) (hk : ev T (.seq c1 c2) st K = some r) (hQ : ∀ e st' a' w', RelN T W w0 st' a' w' → K e st' = some r → Q e.out a' w') : c1.wp P (Exit.then (c2.wp P Q) Q) a w := by
  simp only [ev] at hk
  refine h1 st _ r a w _ hR hk (fun e st' a' w' hR' hK => ?_)
  cases e with
  | normal => exact h2 st' K r a' w' Q hR' hK hQ
  | exit i => exact hQ (.exit i) st' a' w' hR' hK
  | ret => exact hQ .ret st' a' w' hR' hK
theorem clone_ok {P : Program} {T : Tab} (hP : P.follows .mixedOrders = true) (hT : TabFn P T) (hnp : T.np = false) {f : Nat} {fn : Func} {t e : Nat} {r : CT} {B : Nat} {i0 i1 : Nat} {o0 o1 o2 : Oper} {cnd r3 : Code} (hf : P.funcs[f]? = some fn)
    (hc : fn.body = some (.seq (.region i0 #[o0] false) (.seq (.seq (.region i1 #[o1, o2] false) cnd) (.seq r3 .ret)))) (hn : fn.ntmps = 8)
    (h0 : o0.op = .assign (.const (.slice none 0 0)) ∧ o0.dst = some 2 ∧ o0.guard = none) (h1 : o1.op = .move (.tmp 0) ∧ o1.dst = some 3 ∧ o1.guard = none) (h2 : o2.op = .binOp .eql t (.tmp 3) (.const (.slice none 0 0)) t ∧ o2.dst = some 4 ∧ o2.guard = none)
    (hu : P.underlying t = some (.slice e)) (hl : AllLoops (fun _ => False) (.seq cnd (.seq r3 .ret)))
    (hy : ∀ xs : List (El r), restK T fn cnd r3 ⟨[.c (.fz r xs), .dead, .c (.nilS r), .c (.fz r xs), .c (.bool true), .dead, .dead, .dead], []⟩ = some (.c (.new r []), []))
    (hno : ∀ xs : List (El r), restK T fn cnd r3 ⟨[.c (.fz r xs), .dead, .c (.nilS r), .c (.fz r xs), .c (.bool false), .dead, .dead, .dead], []⟩ = bif decide ((0 + xs.length) * B ≤ 140737488355328) then some (.c (.new r xs), []) else none) :
    CallOK P f ((⟨[.c .h], [.sl r], .c .w, [.sl r], 0⟩ : FunI).call (fun xs : List (El r) => bif decide ((0 + xs.length) * B ≤ 140737488355328) then some xs else none)) := by
  intro args res ms h w vals S g hargs hobs hnd hlt hS
  have h := h (fun v m => some (v, m))
  unfold FunI.call at h
  obtain ⟨xs, hx, h⟩ := Option.bind_eq_some_iff.1 h
  obtain ⟨y, hy', h⟩ := Option.bind_eq_some_iff.1 h
  obtain ⟨hs, hd, hx⟩ := Option.bind_eq_some_iff.1 hx
  have hinst : instTs [.c .h] (toCVs [.sl r] xs) = (args, []) := by
    rw [toCVs_from hx]
    have := ts_inst hd []
    rwa [List.append_nil] at this
  have hargs2 : args = [.c (.fz r xs)] := by
    have := congrArg Prod.fst hinst
    exact this.symm
  subst hargs2
  obtain ⟨u, hv, hu2⟩ : ∃ u, vals = [u] ∧ FzC w S (.sl r) #[u] 0 xs := by
    simp only [openA, openT, openC] at hargs
    cases vals with
    | nil => exact hargs.elim
    | cons u vals =>
      cases vals with
      | nil => exact ⟨u, rfl, hargs.1⟩
      | cons _ _ => exact hargs.2.elim
  subst hv
  have hg : g = [] := by
    simp only [openA, openT, openC] at hobs
    cases g with
    | nil => rfl
    | cons _ _ => exact hobs.elim
  subst hg
  obtain ⟨ad, cap, hcell, hcap, hnz⟩ := hu2
  simp only [List.getElem?_toArray, List.getElem?_cons_zero, Option.some.injEq] at hcell
  -- which way?
  have hy' : (bif decide ((0 + List.length (α := El r) xs) * B ≤ 140737488355328) then some xs else none) = some y := hy'
  cases hdec : decide ((0 + List.length (α := El r) xs) * B ≤ 140737488355328) with
  | false => rw [hdec] at hy'; cases hy'
  | true =>
  rw [hdec] at hy'
  simp only [cond_true, Option.some.injEq] at hy'
  subst hy'
  have hres : res = .c (.new r xs) ∧ ms = [] := by
    simp only [TT.inst, SC.inst, toCVs, toCV, Option.some.injEq, Prod.mk.injEq] at h
    exact ⟨h.1.symm, h.2.symm⟩
  obtain ⟨rfl, rfl⟩ := hres
  have key : ∀ b : Bool, ∃ ys, restK T fn cnd r3 ⟨[.c (.fz r xs), .dead, .c (.nilS r), .c (.fz r xs), .c (.bool b), .dead, .dead, .dead], []⟩ = some (.c (.new r ys), []) ∧ (ad.isNone = b → ys = xs) := by
    intro b
    cases b with
    | true => exact ⟨[], hy xs, fun e => by
        cases xs with
        | nil => rfl
        | cons x xs =>
          obtain ⟨b, off, _, _, _, e2, _⟩ := hnz (by simp)
          rw [e2] at e; cases e⟩
    | false => exact ⟨xs, by rw [hno xs, hdec]; rfl, fun _ => rfl⟩
  obtain ⟨ys, hk, hys⟩ := key ad.isNone
  have hys := hys rfl
  subst hys
  refine calls_of_wp hf hc ?_
  have hsz : (#[u] ++ Array.replicate (fn.ntmps - #[u].size) undef : Array Value) = #[u, undef, undef, undef, undef, undef, undef, undef] := by rw [hn]; rfl
  show Code.wp P _ _ { tmps := #[u] ++ Array.replicate (fn.ntmps - #[u].size) undef, defers := [] } w
  rw [hsz]
  refine wp_seq (wp_region_list ?_)
  unfold wpList
  have w0 : ∀ a : Act, Region.wanted o0 (yielded #[o0] a.tmps) = true := fun a => by unfold Region.wanted; rw [h0.2.2]
  have w1 : ∀ a : Act, Region.wanted o1 (yielded #[o1, o2] a.tmps) = true := fun a => by unfold Region.wanted; rw [h1.2.2]
  have w2 : ∀ a : Act, Region.wanted o2 (yielded #[o1, o2] a.tmps) = true := fun a => by unfold Region.wanted; rw [h2.2.2]
  rw [if_pos (w0 _)]
  left
  unfold Oper.wp
  have e0 : (execOp ({ tmps := #[u, undef, undef, undef, undef, undef, undef, undef], defers := [] } : Act).eval o0).run P w = .ok (.value (.slice none 0 0)) w := by
    unfold execOp; rw [h0.1]; simp [Act.eval]
  rw [e0]
  have p0 : ({ tmps := #[u, undef, undef, undef, undef, undef, undef, undef], defers := [] } : Act).put (some 2) (.slice none 0 0) = { tmps := #[u, undef, .slice none 0 0, undef, undef, undef, undef, undef], defers := [] } := rfl
  simp only [Oper.upon, h0.2.1]
  rw [p0]
  unfold wpList
  refine wp_seq (wp_seq (wp_region_list ?_))
  unfold wpList
  rw [if_pos (w1 _)]
  left
  unfold Oper.wp
  have e1 : (execOp ({ tmps := #[u, undef, .slice none 0 0, undef, undef, undef, undef, undef], defers := [] } : Act).eval o1).run P w = .ok (.value u) w := by
    unfold execOp; rw [h1.1]; simp [Act.eval]
  rw [e1]
  have p1 : ({ tmps := #[u, undef, .slice none 0 0, undef, undef, undef, undef, undef], defers := [] } : Act).put (some 3) u = { tmps := #[u, undef, .slice none 0 0, u, undef, undef, undef, undef], defers := [] } := rfl
  simp only [Oper.upon, h1.2.1]
  rw [p1]
  unfold wpList
  rw [if_pos (w2 _)]
  left
  unfold Oper.wp
  have e2 : (execOp ({ tmps := #[u, undef, .slice none 0 0, u, undef, undef, undef, undef], defers := [] } : Act).eval o2).run P w = .ok (.value (.bool ad.isNone)) w := by
    unfold execOp; rw [h2.1]
    subst hcell
    have hb : (Op.equal t (.slice ad (List.length (α := El r) ys) cap) (.slice none 0 0)).run P w = .ok ad.isNone w := by
      unfold Op.equal
      obtain ⟨dd, hdd⟩ : ∃ d, Op.maxDepth = d + 1 := ⟨Op.maxDepth - 1, by decide⟩
      rw [hdd]
      unfold Op.equalIn
      rw [Sem.run_bind, run_underlying hu]
      simp only [Result.andThen]
      cases ad <;> rfl
    have hg : ∀ (x y : Operand), eqGuard .eql t x y (.slice ad (List.length (α := El r) ys) cap) (.slice none 0 0) = pure () := fun _ _ => rfl
    have hbin : binOp .eql t (.slice ad (List.length (α := El r) ys) cap) (.slice none 0 0) = (do pure (.bool (← Op.equal t (.slice ad (List.length (α := El r) ys) cap) (.slice none 0 0)))) := rfl
    have ev1 : ({ tmps := #[.slice ad (List.length (α := El r) ys) cap, undef, .slice none 0 0, .slice ad (List.length (α := El r) ys) cap, undef, undef, undef, undef], defers := [] } : Act).eval (.tmp 3) = .slice ad (List.length (α := El r) ys) cap := rfl
    have ev2 : ∀ a : Act, a.eval (.const (.slice none 0 0)) = .slice none 0 0 := fun _ => rfl
    simp only [ev1, ev2, hg, hbin, Sem.run_bind, Sem.run_pure, Result.andThen, hb]
  rw [e2]
  have p2 : ({ tmps := #[u, undef, .slice none 0 0, u, undef, undef, undef, undef], defers := [] } : Act).put (some 4) (.bool ad.isNone) = { tmps := #[u, undef, .slice none 0 0, u, .bool ad.isNone, undef, undef, undef], defers := [] } := rfl
  simp only [Oper.upon, h2.2.1]
  rw [p2]
  unfold wpList
  have hfz : FzC w (Stable w []) (.sl r) #[u] 0 ys := FzC_mono (fun b hb => ⟨hS b hb, rfl⟩) ⟨ad, cap, by simpa using hcell, hcap, hnz⟩
  have hR : RelN T [] w ⟨[.c (.fz r ys), .dead, .c (.nilS r), .c (.fz r ys), .c (.bool ad.isNone), .dead, .dead, .dead], []⟩ { tmps := #[u, undef, .slice none 0 0, u, .bool ad.isNone, undef, undef, undef], defers := [] } w := by
    refine ⟨⟨[], ⟨⟨hfz, trivial, rfl, hfz, rfl, trivial, trivial, trivial, trivial⟩, trivial, by simp [allB], by simp [allB], Keep.refl _ _, fun i t hi => by simp at hi, rfl⟩⟩, fun hn => by rw [hnp] at hn; cases hn⟩
  have loops : ∀ c, AllLoops (fun _ => False) c → AllLoops (LoopsOK P T [] w) c := by
    intro c
    induction c with
    | seq a b iha ihb => exact fun h => ⟨iha h.1, ihb h.2⟩
    | cond _ a b iha ihb => exact fun h => ⟨iha h.1, ihb h.2⟩
    | block _ c ih => exact ih
    | loop c ih => exact fun h => h.elim
    | _ => exact fun _ => trivial
  have endd : ∀ (st' : St) (a' : Act) (w' : World), RelN T [] w st' a' w' → finish T fn 0 st' = some (.c (.new r ys), []) → a'.defers = [] ∧ ∃ z, (results fn a'.tmps).run P w' = .ok z w' ∧ (∃ v_1, Ending.returned z = Ending.returned v_1 ∧ Keep (allB []) w w' ∧ BackOK w' [] [] ∧ ResOK w w' (.c (.new r ys)) v_1) := by
    intro st' a' w' hR' hfi
    obtain ⟨⟨g', hR'⟩, _⟩ := hR'
    obtain ⟨u2, hu2, hres, hback⟩ := finish_ok (W := []) hT.toTabOK hR' (by simp) hfi
    exact ⟨hR'.df, u2, hu2, u2, rfl, hR'.keep, hback, hres⟩
  refine part_ok (code_ok hP hT cnd (loops cnd hl.1)) (code_ok hP hT _ (loops _ hl.2)) hR hk (fun e st' a' w' hR' hK => ?_)
  cases e with
  | normal => exact endd st' a' w' hR' hK
  | exit i => cases hK
  | ret => exact endd st' a' w' hR' hK
end Go.Proofs.YtmklecafnhdnmaaGreatV
end

section
/- The library's slices.Reverse at []int64, by the shelf's contract; slices.Clone; no condition. -/
namespace Go.Proofs
open Go.Shelf
def Tryz.laysSlN35_f48_ren : Go.Shelf.Ren := ⟨fun | 35 => 48 | n => n, fun | 22 => 30 | 23 => 2 | 3 => 3 | 4 => 4 | 0 => 0 | n => n, fun | n => n⟩
theorem Tryz.laysSlN35_f48 : Go.Proofs.SlLaysN.n35 Tryz.prog Tryz.laysSlN35_f48_ren := {
 mixed := by kernel_rfl
 f35 := ⟨Tryz.f48.name, by decide, Tryz.func48.trans (congrArg some (by kernel_rfl))⟩
 t0 := Tryz.underlying0
 a0 := Tryz.isAgg0
 z0 := Tryz.sizeOf0
 v0 := Tryz.zeroValue0
 t3 := Tryz.underlying3
 a3 := Tryz.isAgg3
 z3 := Tryz.sizeOf3
 v3 := Tryz.zeroValue3
 t4 := Tryz.underlying4
 a4 := Tryz.isAgg4
 z4 := Tryz.sizeOf4
 v4 := Tryz.zeroValue4
 t22 := Tryz.underlying30
 a22 := Tryz.isAgg30
 z22 := Tryz.sizeOf30
 v22 := Tryz.zeroValue30
 t23 := Tryz.underlying2
 a23 := Tryz.isAgg2
 z23 := Tryz.sizeOf2
 v23 := Tryz.zeroValue2 }
open Go.RowKit Go.Lib Go.Sort in
theorem Tryz.slices_Reverse_int (blk off cap : Nat) (zs : List Int) (w : World) (hH : Holds (Value.int .i64) w blk off zs.toArray) (hsz : zs.length ≤ 9223372036854775807) :
   Calls Tryz.prog 48 #[.slice (some ⟨blk, off, none⟩) zs.length cap] w fun e w' => e = .returned (.tuple #[]) ∧ ∃ n, w' = putRow (Value.int .i64) (Sort.ahead w n) blk off zs.reverse.toArray := AnyG.slices_Reverse_int Tryz.laysSlN35_f48 blk off cap zs w hH hsz
open Go.RowKit Go.Lib Go.Sort in
theorem Tryz.slices_Reverse_int_empty (a : Option Addr) (cap : Nat) (w : World) :
   Calls Tryz.prog 48 #[.slice a 0 cap] w fun e w' => e = .returned (.tuple #[]) ∧ w' = w := AnyG.slices_Reverse_int_empty Tryz.laysSlN35_f48 a cap w
end Go.Proofs
namespace Go.Proofs.YtmklecafnhdnmaaGreatV
open Go Go.RowKit Go.Proofs Go.Sort
theorem rev48 : RevCalls Tryz.prog 48 := by
  refine ⟨enter_of Tryz.func48 (by kernel_rfl) (by kernel_rfl), fun ys b off cap cells t w h0 hm hh hc => ?_, fun a cap w => ?_⟩
  · have hH : Holds (Value.int .i64) w b off ys.toArray := by
      intro j hj
      have hj' : j < ys.length := by simpa using hj
      refine ⟨?_, by simp [World.frozen?, hh]⟩
      have := hc j hj'
      rw [List.getD_eq_getElem?_getD, List.getElem?_eq_getElem hj', Option.getD_some] at this
      simp [World.cell?, hh, this, hj']
    have hml : ys.length ≤ 9223372036854775807 := Nat.le_trans hm (by decide)
    refine (Tryz.slices_Reverse_int b off cap ys w hH hml).mono fun e w' h => ?_
    obtain ⟨rfl, n, rfl⟩ := h
    have hheap : ∀ k, (putRow (Value.int .i64) (Sort.ahead w n) b off ys.reverse.toArray).heap[k]? = if k = b then some (.cells (putCells (Value.int .i64) off ys.reverse.toArray cells) t (0, 0)) else w.heap[k]? := by
      intro k
      show (w.heap.modify b (onCells (putCells (Value.int .i64) off ys.reverse.toArray)))[k]? = _
      rw [Array.getElem?_modify]
      by_cases e : b = k
      · subst e
        rw [if_pos rfl, if_pos rfl, hh]; rfl
      · rw [if_neg e, if_neg (fun h => e h.symm)]
    refine ⟨rfl, ⟨rfl, rfl, rfl, by simp [putRow, mapBlock, Sort.ahead], fun k hk hkb => ?_⟩, putCells (Value.int .i64) off ys.reverse.toArray cells, by rw [hheap, if_pos rfl], by simp [putCells], fun k => ?_⟩
    · rw [hheap, if_neg (by simpa using hkb)]
    · simp only [putCells, Array.getElem?_mapIdx]
      cases hk : cells[k]? with
      | none =>
        rw [Option.map_none]
        split
        · rename_i hin
          have := hc (k - off) (by omega)
          rw [show off + (k - off) = k by omega, hk] at this
          cases this
        · rfl
      | some v =>
        simp only [Option.map_some]
        by_cases hin : off ≤ k ∧ k < off + ys.length
        · rw [if_pos hin, if_pos (by simpa using hin)]
          have hl : k - off < ys.reverse.length := by simp; omega
          rw [List.getD_eq_getElem?_getD, List.getElem?_eq_getElem hl, Option.getD_some, getElem!_pos _ _ (by simpa using hl)]
          simp
        · rw [if_neg hin, if_neg (by simpa using hin)]
  · refine (Tryz.slices_Reverse_int_empty a cap w).mono fun e w' h => ?_
    obtain ⟨rfl, rfl⟩ := h
    exact ⟨rfl, Keep.refl _ _⟩
theorem rev_call (k : Nat) (args : List TV) (p : TV × List CV) (h : I48.call (slices_Reverse k) args (fun v m => some (v, m)) = some p) : ∃ ys : List Int, args = [.c (.new (.int .i64) ys)] ∧ p = (.tup [], [.fz (.int .i64) ys.reverse]) := by
  unfold FunI.call at h
  obtain ⟨xs, hx, h⟩ := Option.bind_eq_some_iff.1 h
  obtain ⟨y, hy, h⟩ := Option.bind_eq_some_iff.1 h
  obtain ⟨hs, hd, hx⟩ := Option.bind_eq_some_iff.1 hx
  have hinst : instTs I48.at_ (toCVs I48.cs xs) = (args, []) := by
    rw [toCVs_from hx]
    have := ts_inst hd []
    rwa [List.append_nil] at this
  refine ⟨xs, (congrArg Prod.fst hinst).symm, ?_⟩
  injection hy with hy
  subst hy
  injection h with h
  exact h.symm
theorem c100 (k : Nat) : CallOK Tryz.prog 100 (I100.call (slices_Clone k)) := clone_ok (T := TB (K0 k)) (B := 16) mixed (t_nil k) rfl Tryz.func100 (by exact rfl) rfl (by exact ⟨rfl, rfl, rfl⟩) (by exact ⟨rfl, rfl, rfl⟩) (by exact ⟨rfl, rfl, rfl⟩) Tryz.underlying33 (by exact ⟨⟨⟨trivial, trivial⟩, trivial⟩, trivial, trivial⟩) (fun xs => by kernel_rfl) (fun xs => by kernel_rfl)
theorem c101 (k : Nat) : CallOK Tryz.prog 101 (I101.call (slices_Clone_101 k)) := clone_ok (T := TB (K0 k)) (B := 8) mixed (t_nil k) rfl Tryz.func101 (by exact rfl) rfl (by exact ⟨rfl, rfl, rfl⟩) (by exact ⟨rfl, rfl, rfl⟩) (by exact ⟨rfl, rfl, rfl⟩) Tryz.underlying30 (by exact ⟨⟨⟨trivial, trivial⟩, trivial⟩, trivial, trivial⟩) (fun xs => by kernel_rfl) (fun xs => by kernel_rfl)
theorem c76 (k : Nat) : CallOK Tryz.prog 76 (I76.call (slices_Clone_76 k)) := clone_ok (T := TB (K0 k)) (B := 32) mixed (t_nil k) rfl Tryz.func76 (by exact rfl) rfl (by exact ⟨rfl, rfl, rfl⟩) (by exact ⟨rfl, rfl, rfl⟩) (by exact ⟨rfl, rfl, rfl⟩) Tryz.underlying37 (by exact ⟨⟨⟨trivial, trivial⟩, trivial⟩, trivial, trivial⟩) (fun xs => by kernel_rfl) (fun xs => by kernel_rfl)
end Go.Proofs.YtmklecafnhdnmaaGreatV
end

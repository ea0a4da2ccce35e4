/- Drawn regions; a function's end; no condition. -/
import Derived.Test.YtmklecafnhdnmaaGreatA08
import Derived.Laws.Sem
set_option linter.all false
section
/- An operation in another state that agrees on what it reads; no condition. -/
namespace Go.Proofs.YtmklecafnhdnmaaGreatV
open Go Go.RowKit
/-- what operation o does as number i of a region -/
structure Eff where
  rd : List Pt
  v : TV
  ups : List (Nat × Md)
def Eff.wr (e : Eff) : List Pt := e.ups.map wrOf
def stepE (T : Tab) (lo n0 : Nat) (ops : Array Oper) (i : Nat) (o : Oper) (st : St) : Option Eff :=
  askG ops st o (fun st => (opSem T st (n0 + 8 * i) o pk).bind fun p => if (decide (p.2.1.length ≤ 8) && (unbornAt st.objs (n0 + 8 * i) p.2.1.length && ((p.2.2.all fun m => decide (lo ≤ m.1)) && npOK T p.1 p.2.1 p.2.2))) = true then some ⟨idsOf T st o, p.1, upsOf (n0 + 8 * i) p.2.2 p.2.1⟩ else none)
    (fun _ => some ⟨[], .undef, []⟩)
/-- a guard's question, answered by the state -/
theorem askG_iff {R : Type} {ops : Array Oper} {st : St} {o : Oper} {yes no : St → Option R} {r : R} (h : askG ops st o yes no = some r) :
    (yes st = some r ∧ ∀ (S : Type) (y n : St → Option S), askG ops st o y n = y st) ∨ (no st = some r ∧ ∀ (S : Type) (y n : St → Option S), askG ops st o y n = n st) := by
  unfold askG at *
  split at h
  · exact .inl ⟨h, fun _ _ _ => by first | rfl | trivial⟩
  · rename_i j want hg
    split at h
    · rename_i d hd
      split at h
      · rename_i b hb
        have hp := put_get hb (by simp)
        cases b <;> cases want <;> simp only [cond_true, cond_false, if_true, Bool.false_eq_true, if_false] at h <;> rw [hp] at h <;> simp only [hd, hb, cond_true, cond_false, if_true, Bool.false_eq_true, if_false, hp]
        · exact .inl ⟨h, fun _ _ _ => by first | rfl | trivial⟩
        · exact .inr ⟨h, fun _ _ _ => by first | rfl | trivial⟩
        · exact .inr ⟨h, fun _ _ _ => by first | rfl | trivial⟩
        · exact .inl ⟨h, fun _ _ _ => by first | rfl | trivial⟩
      · rename_i hb
        simp only [hd, hb]
        exact .inr ⟨h, fun _ _ _ => by first | rfl | trivial⟩
      · cases h
    · cases h
theorem askG_same {ops : Array Oper} {st st' : St} {o : Oper} (h : ∀ t ∈ o.looksAt ops, st.get t = st'.get t) {S : Type} {s : S} :
    (∀ (R : Type) (y n : St → Option R), askG ops st o y n = y st) → askG ops st o (fun _ => some s) (fun _ => none) = askG ops st' o (fun _ => some s) (fun _ => none) := by
  intro _
  unfold askG
  split
  · rfl
  · rename_i j want hg
    split
    · rename_i d hd
      have : st.get d = st'.get d := h d (by simp [Oper.looksAt, hg, hd])
      rw [this]
    · rfl
theorem askG_trans {ops : Array Oper} {st st' : St} {o : Oper} (h : ∀ t ∈ o.looksAt ops, st.get t = st'.get t) {R : Type} (y n : Option R) :
    askG ops st o (fun _ => y) (fun _ => n) = askG ops st' o (fun _ => y) (fun _ => n) := by
  unfold askG
  split
  · rfl
  · rename_i j want hg
    split
    · rename_i d hd
      have : st.get d = st'.get d := h d (by simp [Oper.looksAt, hg, hd])
      rw [this]
    · rfl
theorem take_eq {l l' : List CV} {off n : Nat} (h : ∀ k, off ≤ k → k < off + n → l[k]? = l'[k]?) : (l.drop off).take n = (l'.drop off).take n := by
  apply List.ext_getElem?
  intro k
  rw [List.getElem?_take, List.getElem?_take]
  split
  · rw [List.getElem?_drop, List.getElem?_drop]
    exact h _ (by omega) (by omega)
  · rfl
theorem giveC_take {R : Type} (K : Kont R) {ti : TI} {l l' : List CV} (hs : ti.size ≠ 0) (h : l.take ti.size = l'.take ti.size) : giveC ti l K = giveC ti l' K := by
  unfold giveC
  rw [h]
  split
  · rfl
  · obtain ⟨n, hn⟩ := Nat.exists_eq_succ_of_ne_zero hs
    rw [hn] at h
    cases l <;> cases l' <;> simp only [List.take_nil, List.take_succ_cons] at h
    · rfl
    · cases h
    · cases h
    · injection h with h1 h2
      rw [h1]
theorem opSem_agree {T : Tab} {st st' : St} {nid : Nat} {o : Oper} {v : TV} {new : List Ob} {mods : List (Nat × Md)} {L : List Nat} {ps : List Pt} (h : opSem T st nid o pk = some (v, new, mods)) (hA : Agree L ps st st')
    (hL : ∀ t, Operand.tmp t ∈ o.op.operands → t ∈ L) (hr : ∀ p ∈ idsOf T st o, p ∈ ps) (hw : ∀ m ∈ mods, wrOf m ∈ ps) : opSem T st' nid o pk = some (v, new, mods) := by
  have hρ : ∀ x ∈ o.op.operands.toList, ∀ t, opd T st t x = opd T st' t x := fun x hx t => opd_tmps (fun n e => hA.tm n (hL n (by rw [← e]; simpa using hx))) t
  have all : idsOf T st o = closeI st.objs (o.op.operands.toList.flatMap fun | .tmp t => idT (st.get t) | _ => []) → opSem T st' nid o pk = some (v, new, mods) := by
    intro e
    rw [← opSem_eq pk nid o hρ ?_]
    · exact h
    · intro x hx t
      have hsub : ∀ id ∈ idT (opd T st t x), id ∈ o.op.operands.toList.flatMap fun | .tmp t => idT (st.get t) | _ => [] := by
        intro id hi
        rw [opd_ids] at hi
        exact List.mem_flatMap.2 ⟨x, hx, (by cases x <;> first | exact hi | cases hi)⟩
      have h0 : ∀ id, (⟨id, 0, 0⟩ : Pt) ∈ idsOf T st o → Ob.at st.objs id = Ob.at st'.objs id := fun id hi => by
        rcases hA.ob _ (hr _ hi) with h | ⟨h, _⟩
        · exact h
        · exact absurd rfl h
      refine ⟨fun id hi => h0 id ?_, fun id hi c hc j hj => h0 j ?_⟩
      · rw [e]; exact List.mem_map.2 ⟨id, List.mem_append_left _ (hsub id hi), rfl⟩
      · rw [e]; exact List.mem_map.2 ⟨j, List.mem_append_right _ (List.mem_flatMap.2 ⟨id, hsub id hi, by rw [hc]; exact hj⟩), rfl⟩
  by_cases hm : ∃ x, o.op = .move x
  · obtain ⟨x, hx⟩ := hm
    have := hρ x (by rw [hx]; simp [Op.operands])
    unfold opSem at *
    rw [hx] at h ⊢
    simp only at h ⊢
    rw [← this]; exact h
  by_cases hl : ∃ t a, o.op = .load t (.tmp a)
  · obtain ⟨t, a, ho⟩ := hl
    have hρa := hρ (.tmp a) (by rw [ho]; simp [Op.operands]) o.type
    simp only [opd] at hρa
    cases hT : T.ty t with
    | none => exact all (by unfold idsOf; rw [ho]; simp only [hT]; split <;> first | rfl | (rename_i e; cases e))
    | some ti =>
      by_cases hb : ∃ id off, st.get a = .c (.box id off)
      · obtain ⟨id, off, hb⟩ := hb
        by_cases hz : ti.size = 0
        · exact all (by unfold idsOf; rw [ho]; simp only [hT, hb, hz, if_true]; rfl)
        · have hp : (⟨id, off, ti.size⟩ : Pt) ∈ ps := hr _ (by unfold idsOf; rw [ho]; simp only [hT, hb, if_neg hz]; exact List.mem_singleton.2 rfl)
          unfold opSem at h ⊢
          simp only [ho, hT, opd, loadC] at h ⊢
          rw [← hρa, hb]
          rw [hb] at h
          simp only at h ⊢
          rcases hA.ob _ hp with e | ⟨_, l, l', h1, h2, h3, h4⟩
          · simp only at e
            rw [← e]; exact h
          · simp only at h1 h2 h3 h4
            rw [h1] at h
            rw [h2]
            simp only at h ⊢
            rw [← giveC_take pk hz (take_eq h4)]
            exact h
      · refine all ?_
        unfold idsOf
        rw [ho]
        simp only
        split
        · rename_i id off _ h1 _; exact absurd ⟨id, off, h1⟩ hb
        · rfl
  by_cases hst : ∃ t a x, o.op = .store t (.tmp a) x
  · obtain ⟨t, a, x, ho⟩ := hst
    have hρa := hρ (.tmp a) (by rw [ho]; simp [Op.operands]) o.type
    have hρx := hρ x (by rw [ho]; simp [Op.operands]) t
    simp only [opd] at hρa
    cases hT : T.ty t with
    | none => exact all (by unfold idsOf; rw [ho]; simp only [hT]; split <;> first | rfl | (rename_i e; cases e))
    | some ti =>
      by_cases hb : ∃ id off, st.get a = .c (.box id off)
      · obtain ⟨id, off, hb⟩ := hb
        have hids : Eqs st.objs st'.objs (idT (opd T st t x)) := fun i hi => by
          rw [opd_ids] at hi
          have : (⟨i, 0, 0⟩ : Pt) ∈ ps := hr _ (by
            unfold idsOf
            rw [ho]
            simp only [hT, hb]
            exact List.mem_map.2 ⟨i, (by cases x <;> first | exact hi | cases hi), rfl⟩)
          rcases hA.ob _ this with e | ⟨e, _⟩
          · exact e
          · exact absurd rfl e
        unfold opSem at h ⊢
        simp only [ho, hT] at h ⊢
        rw [← hρx]
        have e1 : opd T st o.type (.tmp a) = .c (.box id off) := hb
        have e2 : opd T st' o.type (.tmp a) = .c (.box id off) := by
          show st'.get a = _
          rw [← hρa, hb]
        rw [e1] at h
        rw [e2]
        have hns : ∀ x, nestS (.c (.box id off)) x = false := fun x => rfl
        simp only [hns, Bool.and_false, Bool.false_eq_true, if_false] at h ⊢
        unfold storeC at h ⊢
        rw [← cellsOf_eq hids]
        split at h
        · rename_i vs hvs
          rw [← allAlive_eq (objs := st.objs) (objs' := st'.objs) (l := vs) (fun j hj => hids j (cellsOf_ids hvs j hj))]
          simp only
          split at h
          · rename_i hc
            rw [if_pos hc]
            simp only at h
            split at h
            · rename_i l hl
              split at h
              · rename_i hle
                obtain ⟨rfl, rfl, rfl⟩ := pk_inj h
                have hp := hw (id, .cells off vs) (List.mem_singleton.2 rfl)
                rcases hA.ob _ hp with e | ⟨_, l1, l2, h1, h2, h3, _⟩
                · simp only [wrOf] at e
                  rw [← e, hl]
                  simp only
                  first | (rw [if_pos hle]; done) | (rw [if_pos hle]; exact h)
                · simp only [wrOf] at h1 h2
                  rw [hl] at h1
                  injection h1 with h1
                  subst h1
                  rw [h2]
                  simp only
                  first | (rw [← h3, if_pos hle]; done) | (rw [← h3, if_pos hle]; exact h)
              · cases h
            · cases h
          · cases h
        · cases h
      · refine all ?_
        unfold idsOf
        rw [ho]
        simp only
        split
        · rename_i id off _ h1 _; exact absurd ⟨id, off, h1⟩ hb
        · rfl
  · refine all ?_
    unfold idsOf
    simp only
    split
    · rename_i t a ho; exact absurd ⟨t, a, ho⟩ hl
    · rename_i t a x ho; exact absurd ⟨t, a, x, ho⟩ hst
    · rename_i x ho; exact absurd ⟨x, ho⟩ hm
    · rfl
end Go.Proofs.YtmklecafnhdnmaaGreatV
end

section
/- Regions whose order is drawn; no condition. -/
namespace Go.Proofs.YtmklecafnhdnmaaGreatV
open Go Go.RowKit
def app (X : Nat → Bool) : Nat → List Oper → List Eff → St → St
  | i, o :: os, e :: es, st => app X (i + 1) os es (bif X i then st.upd o.dst e.v e.ups else st)
  | _, _, _, st => st
theorem app_congr {X Y : Nat → Bool} : ∀ {os : List Oper} {es : List Eff} {i : Nat} {st : St}, (∀ k, k < os.length → X (i + k) = Y (i + k)) → app X i os es st = app Y i os es st
  | [], _, _, _, _ => rfl
  | _ :: _, [], _, _, _ => rfl
  | o :: os, e :: es, i, st, h => by
    simp only [app]
    rw [show X i = Y i from h 0 (by simp)]
    exact app_congr (fun k hk => by rw [Nat.add_right_comm]; exact h (k + 1) (by simpa using hk))
theorem app_false {X : Nat → Bool} : ∀ {os : List Oper} {es : List Eff} {i : Nat} {st : St}, (∀ k, k < os.length → X (i + k) = false) → app X i os es st = st
  | [], _, _, _, _ => rfl
  | _ :: _, [], _, _, _ => rfl
  | o :: os, e :: es, i, st, h => by
    simp only [app]
    rw [show X i = false from h 0 (by simp), cond_false]
    exact app_false (fun k hk => by rw [Nat.add_right_comm]; exact h (k + 1) (by simpa using hk))
theorem agree_app {X Y : Nat → Bool} {L : List Nat} {ps : List Pt} : ∀ {os : List Oper} {es : List Eff} {i : Nat} {st st' : St}, Agree L ps st st' →
    (∀ k o e, os[k]? = some o → es[k]? = some e → X (i + k) = Y (i + k) ∨ ((∀ t, o.dst = some t → t ∉ L) ∧ ∀ m ∈ e.ups, ∀ p ∈ ps, (wrOf m).meets p = false)) → Agree L ps (app X i os es st) (app Y i os es st')
  | [], _, _, _, _, h, _ => h
  | _ :: _, [], _, _, _, h, _ => h
  | o :: os, e :: es, i, st, st', h, hk => by
    simp only [app]
    refine agree_app ?_ (fun k o' e' h1 h2 => by rw [Nat.add_right_comm]; exact hk (k + 1) o' e' (by simpa using h1) (by simpa using h2))
    rcases hk 0 o e rfl rfl with h0 | ⟨hd, hu⟩
    · rw [show X i = Y i from h0]
      cases Y i
      · exact h
      · exact agree_both h _ _ _
    · cases X i <;> cases Y i <;> simp only [cond_true, cond_false]
      · exact h
      · exact (agree_one h.symm _ _ _ hd hu).symm
      · exact agree_one h _ _ _ hd hu
      · exact agree_both h _ _ _
def Apt (o : Oper) (e : Eff) (o' : Oper) (e' : Eff) : Prop := (∀ t, o.dst = some t → o'.dst ≠ some t) ∧ ∀ m ∈ e.ups, ∀ n ∈ e'.ups, (wrOf m).meets (wrOf n) = false
theorem app_upd {X : Nat → Bool} {oj : Oper} {ej : Eff} : ∀ {os : List Oper} {es : List Eff} {i : Nat} {st : St}, (∀ k o e, os[k]? = some o → es[k]? = some e → X (i + k) = true → Apt oj ej o e) →
    app X i os es (st.upd oj.dst ej.v ej.ups) = (app X i os es st).upd oj.dst ej.v ej.ups
  | [], _, _, _, _ => rfl
  | _ :: _, [], _, _, _ => rfl
  | o :: os, e :: es, i, st, h => by
    simp only [app]
    have ih := fun st => app_upd (X := X) (oj := oj) (ej := ej) (os := os) (es := es) (i := i + 1) (st := st) (fun k o' e' h1 h2 => by rw [Nat.add_right_comm]; exact h (k + 1) o' e' (by simpa using h1) (by simpa using h2))
    cases hX : X i
    · simp only [cond_false]; exact ih _
    · simp only [cond_true]
      obtain ⟨h1, h2⟩ := h 0 o e rfl rfl hX
      rw [upd_comm st ej.v e.v h1 h2]
      exact ih _
theorem app_ins {X Y : Nat → Bool} {oj : Oper} {ej : Eff} : ∀ {os : List Oper} {es : List Eff} {i j : Nat} {st : St}, os[j]? = some oj → es[j]? = some ej → X (i + j) = false → Y (i + j) = true → (∀ k, k ≠ j → Y (i + k) = X (i + k)) →
    (∀ k o e, os[k]? = some o → es[k]? = some e → j < k → X (i + k) = true → Apt oj ej o e) → app Y i os es st = (app X i os es st).upd oj.dst ej.v ej.ups
  | [], _, _, _, _, h, _, _, _, _, _ => by simp at h
  | _ :: _, [], _, _, _, _, h, _, _, _, _ => by simp at h
  | o :: os, e :: es, i, 0, st, h1, h2, hX, hY, hXY, hc => by
    simp only [List.getElem?_cons_zero, Option.some.injEq] at h1 h2
    subst h1 h2
    simp only [app]
    rw [show X i = false from hX, show Y i = true from hY, cond_true, cond_false]
    rw [app_congr (X := Y) (Y := X) (fun k hk => by rw [Nat.add_right_comm]; exact hXY (k + 1) (by omega))]
    exact app_upd (fun k o' e' h1 h2 => by rw [Nat.add_right_comm]; exact hc (k + 1) o' e' (by simpa using h1) (by simpa using h2) (by omega))
  | o :: os, e :: es, i, j + 1, st, h1, h2, hX, hY, hXY, hc => by
    simp only [app]
    rw [show Y i = X i from hXY 0 (by omega)]
    refine app_ins (j := j) (by simpa using h1) (by simpa using h2) (by rw [Nat.add_right_comm]; exact hX) (by rw [Nat.add_right_comm]; exact hY) (fun k hk => by rw [Nat.add_right_comm]; exact hXY (k + 1) (by omega)) (fun k o' e' h1 h2 h3 => by rw [Nat.add_right_comm]; exact hc (k + 1) o' e' (by simpa using h1) (by simpa using h2) (by omega))
section
variable {T : Tab} {ops : Array Oper} {M : Array Nat} {lo n0 : Nat} {R : Type}
theorem evD_cons (hL : LeafCall T) (i : Nat) (o : Oper) (rest : List Oper) (acc : List Seen) (st : St) (K : St → Option R) {r : R} (h : evD T lo ops M n0 i (o :: rest) acc st K = some r) :
    ∃ e, stepE T lo n0 ops i o st = some e ∧ seenOk ops M ⟨o, i, e.rd, e.wr⟩ acc = true ∧ evD T lo ops M n0 (i + 1) rest (acc ++ [⟨o, i, e.rd, e.wr⟩]) (st.upd o.dst e.v e.ups) K = some r := by
  simp only [evD] at h
  unfold stepE
  rcases askG_iff h with ⟨h1, h2⟩ | ⟨h1, h2⟩
  · rw [h2]
    rw [opSem_k _ _ hL] at h1
    cases hp : opSem T st (n0 + 8 * i) o pk with
    | none => rw [hp] at h1; cases h1
    | some p =>
      obtain ⟨v, new, mods⟩ := p
      rw [hp] at h1
      simp only [Option.bind_some, kk] at h1 ⊢
      split at h1
      · rename_i hc
        simp only [Bool.and_eq_true] at hc
        rw [if_pos (by simp only [Bool.and_eq_true]; exact ⟨hc.1, hc.2.1, hc.2.2.1, hc.2.2.2.1⟩)]
        exact ⟨_, rfl, hc.2.2.2.2, h1⟩
      · cases h1
  · rw [h2]
    split at h1
    · rename_i hc
      exact ⟨_, rfl, hc, h1⟩
    · cases h1
/-- a pair of operations, the earlier first -/
def PairOk (ops : Array Oper) (M : Array Nat) (i : Nat) (o : Oper) (e : Eff) (j : Nat) (o' : Oper) (e' : Eff) : Prop :=
  (M.getD j 0).testBit i = true ∨ Seen.apart ops ⟨o, i, e.rd, e.wr⟩ ⟨o', j, e'.rd, e'.wr⟩ = true
theorem evD_run (hL : LeafCall T) {K : St → Option R} {r : R} : ∀ {rest : List Oper} {i : Nat} {acc : List Seen} {st : St}, evD T lo ops M n0 i rest acc st K = some r →
    ∃ es : List Eff, es.length = rest.length ∧ K (app (fun _ => true) i rest es st) = some r ∧
      ∀ k o e, rest[k]? = some o → es[k]? = some e → stepE T lo n0 ops (i + k) o (app (fun x => decide (x < i + k)) i rest es st) = some e ∧
        (∀ y ∈ acc, (M.getD (i + k) 0).testBit y.i = true ∨ y.apart ops ⟨o, i + k, e.rd, e.wr⟩ = true) ∧
        ∀ k' o' e', k' < k → rest[k']? = some o' → es[k']? = some e' → PairOk ops M (i + k') o' e' (i + k) o e
  | [], i, acc, st, h => ⟨[], rfl, h, fun k o e h1 => by simp at h1⟩
  | o :: rest, i, acc, st, h => by
    obtain ⟨e, h1, h2, h3⟩ := evD_cons hL i o rest acc st K h
    obtain ⟨es, h4, h5, h6⟩ := evD_run hL h3
    refine ⟨e :: es, by simp [h4], by simpa only [app, cond_true] using h5, fun k => ?_⟩
    cases k with
    | zero =>
      intro o1 e1 g1 g2
      simp only [List.getElem?_cons_zero, Option.some.injEq] at g1 g2
      subst g1 g2
      refine ⟨?_, ?_, fun k' _ _ hk => by omega⟩
      · simp only [app, Nat.add_zero, Nat.lt_irrefl, decide_false, cond_false]
        rw [app_false (fun k hk => decide_eq_false (by omega))]
        exact h1
      · unfold seenOk at h2
        rw [List.all_eq_true] at h2
        intro y hy
        have := h2 y hy
        rwa [Bool.or_eq_true] at this
    | succ k =>
      intro o1 e1 g1 g2
      simp only [List.getElem?_cons_succ] at g1 g2
      obtain ⟨a1, a2, a3⟩ := h6 k o1 e1 g1 g2
      rw [Nat.add_right_comm] at a1 a2 a3
      refine ⟨?_, fun y hy => a2 y (by simp [hy]), fun k' o' e' hk q1 q2 => ?_⟩
      · simp only [app]
        rw [decide_eq_true (show i < i + (k + 1) by omega), cond_true]
        exact a1
      · cases k' with
        | zero =>
          simp only [List.getElem?_cons_zero, Option.some.injEq] at q1 q2
          subst q1 q2
          exact a2 ⟨o, i, e.rd, e.wr⟩ (by simp)
        | succ k' =>
          have := a3 k' o' e' (by omega) (by simpa using q1) (by simpa using q2)
          rw [Nat.add_right_comm] at this
          exact this
theorem apart_pts {o o' : Oper} {i j : Nat} {e e' : Eff} (h : Seen.apart ops ⟨o, i, e.rd, e.wr⟩ ⟨o', j, e'.rd, e'.wr⟩ = true) :
    (∀ t, o.dst = some t → t ∉ o'.looksAt ops) ∧ (∀ t, o'.dst = some t → t ∉ o.looksAt ops) ∧ (∀ t, o.dst = some t → o'.dst ≠ some t) ∧ (∀ m ∈ e.ups, ∀ p ∈ e'.rd ++ e'.wr, (wrOf m).meets p = false) ∧ (∀ m ∈ e'.ups, ∀ p ∈ e.rd ++ e.wr, (wrOf m).meets p = false) := by
  unfold Seen.apart at h
  simp only [Bool.and_eq_true] at h
  obtain ⟨⟨⟨⟨h1, h2⟩, h3⟩, h4⟩, h5⟩ := h
  obtain ⟨a1, a2, a3⟩ := Oper.apart_spec h1
  have dj : ∀ {a b : List Pt}, disj a b = true → ∀ x ∈ a, ∀ y ∈ b, x.meets y = false := fun {a b} h x hx y hy => by
    unfold disj at h
    rw [List.all_eq_true] at h
    have := h x hx
    rw [List.all_eq_true] at this
    have := this y hy
    simpa using this
  refine ⟨a1, a3, a2, fun m hm p hp => ?_, fun m hm p hp => ?_⟩
  · rcases List.mem_append.1 hp with hp | hp
    · exact dj h3 _ (List.mem_map_of_mem hm) _ hp
    · exact dj h4 _ (List.mem_map_of_mem hm) _ hp
  · rcases List.mem_append.1 hp with hp | hp
    · exact dj h5 _ (List.mem_map_of_mem hm) _ hp
    · exact meets_comm (dj h4 _ hp _ (List.mem_map_of_mem hm))
end
end Go.Proofs.YtmklecafnhdnmaaGreatV
end

section
/- Regions whose order is drawn, in any world; no condition. -/
namespace Go.Proofs.YtmklecafnhdnmaaGreatV
open Go Go.RowKit
section
variable {P : Program} {T : Tab} {W : List Gh} {w0 : World} {ops : Array Oper} {lo n0 : Nat} {M : Array Nat}
theorem unborn_at {objs : List Ob} {n : Nat} : ∀ {k : Nat}, unbornAt objs n k = true → ∀ i, i < k → Ob.at objs (n + i) = .unborn
  | 0, _, _, h => by omega
  | k + 1, h, i, hi => by
    simp only [unbornAt, Bool.and_eq_true] at h
    by_cases e : i = k
    · subst e
      have := h.1
      split at this
      · assumption
      · cases this
    · exact unborn_at h.2 i (by omega)
theorem gh_unborn {w : World} {S : Nat → Prop} {h : List Gh} : ∀ {objs : List Ob} {g : List Gh} {i : Nat}, ObsOK w S h objs g → Ob.at objs i = .unborn → g[i]? = some .unborn
  | [], _, i, _, e => by simp [Ob.at] at e
  | o :: objs, [], i, h, _ => h.elim
  | o :: objs, x :: g, 0, h, e => by
    simp [Ob.at] at e
    subst e
    have h1 := h.1
    cases x <;> first | rfl | exact h1.elim
  | o :: objs, x :: g, i + 1, h, e => by
    rw [List.getElem?_cons_succ]
    exact gh_unborn h.2 (by simpa [Ob.at] using e)
theorem step_world (hT : TabFn P T) {i : Nat} {o : Oper} (ho : ops[i]? = some o) {st st' : St} {e : Eff} (h : stepE T lo n0 ops i o st = some e) (hA : Agree (o.looksAt ops) (e.rd ++ e.wr) st st')
    {g : List Gh} {a : Act} {w : World} (hR : RelG W w0 g st' a w) (hnp : NPS T W st') {K : Act → World → Prop} {Q : Exit → Act → World → Prop} (hK : ∀ u w' g', RelG W w0 g' (st'.upd o.dst e.v e.ups) (a.put o.dst u) w' → K (a.put o.dst u) w') :
    wpOp P ops Q i K a w := by
  unfold wpOp
  simp only [ho]
  unfold stepE at h
  rcases askG_iff h with ⟨h1, h2⟩ | ⟨h1, h2⟩
  · cases hp : opSem T st (n0 + 8 * i) o pk with
    | none => rw [hp] at h1; cases h1
    | some p =>
      obtain ⟨v, new, mods⟩ := p
      rw [hp] at h1
      simp only [Option.bind_some] at h1
      split at h1
      · rename_i hc
        simp only [Bool.and_eq_true, decide_eq_true_eq] at hc
        injection h1 with h1
        subst h1
        have hask : askG ops st' o (fun _ => some true) (fun _ => some false) = some true := by
          rw [← askG_trans hA.tm (some true) (some false), h2]
        rcases askG_ok hR hask with ⟨hw, _⟩ | ⟨hw, _, _, _, hn⟩
        · rw [hw]
          simp only [if_true]
          left
          have hop := opSem_agree (st' := st') hp hA (fun t ht => List.mem_append_left _ (List.mem_filterMap.2 ⟨.tmp t, by simpa using ht, rfl⟩)) (fun p hp => List.mem_append_left _ hp) (fun m hm => List.mem_append_right _ (List.mem_map_of_mem (List.mem_append_left _ hm)))
          refine step_ok hT hR hnp (fun k hk => gh_unborn hR.ob ?_) hop K Q (fun u w' g' hg => hK u w' g' hg)
          have h3 := unborn_at hc.2.1 k hk
          have : (⟨n0 + 8 * i + k, 0, 0⟩ : Pt) ∈ idsOf T st o ++ (upsOf (n0 + 8 * i) mods new).map wrOf := by
            refine List.mem_append_right _ (List.mem_map.2 ⟨(n0 + 8 * i + k, .ob new[k]), List.mem_append_right _ ?_, rfl⟩)
            refine List.mem_map.2 ⟨(n0 + 8 * i + k, new[k]), ?_, rfl⟩
            have : ∀ (l : List Ob) (n k : Nat) (h : k < l.length), (n + k, l[k]) ∈ numb n l := by
              intro l
              induction l with
              | nil => intro n k h; simp at h
              | cons x l ih =>
                intro n k h
                cases k with
                | zero => simp [numb]
                | succ k =>
                  have := ih (n + 1) k (by simpa using h)
                  rw [Nat.add_right_comm, Nat.add_assoc] at this
                  simp only [numb, List.getElem_cons_succ, List.mem_cons]
                  exact .inr this
            exact this new _ k hk
          rcases hA.ob _ this with e | ⟨e, _⟩
          · rw [← e]; exact h3
          · exact absurd rfl e
        · cases hn
      · cases h1
  · injection h1 with h1
    subst h1
    have hask : askG ops st' o (fun _ => some true) (fun _ => some false) = some false := by
      rw [← askG_trans hA.tm (some true) (some false), h2]
    rcases askG_ok hR hask with ⟨hw, _, _, _, hn⟩ | ⟨hw, _⟩
    · cases hn
    · rw [hw]
      simp only [Bool.false_eq_true, if_false]
      refine hK undef w g ?_
      have := rel_skip hR o.dst
      exact this
/-- what is listed is done -/
structure Lst (ops : Array Oper) (M : Array Nat) (listed : Array Bool) : Prop where
  size : listed.size = ops.size
  down : ∀ i, i < ops.size → listed.getD i true = true → ∀ k, k < ops.size → (M.getD i 0).testBit k = true → listed.getD k true = true
theorem getD_tt {listed : Array Bool} {i : Nat} (h : i < listed.size) : listed.getD i true = listed.getD i false := by simp [h]
theorem getD_lt {listed : Array Bool} {i : Nat} (h : listed.getD i false = true) : i < listed.size := by
  rcases Nat.lt_or_ge i listed.size with h' | h'
  · exact h'
  · simp [h'] at h
theorem stepE_np {i : Nat} {o : Oper} {st : St} {e : Eff} (hT : T.np = true) (h : stepE T lo n0 ops i o st = some e) : npT e.v = true ∧ (e.ups.all fun m => npM m.2) = true := by
  unfold stepE at h
  rcases askG_iff h with ⟨h1, _⟩ | ⟨h1, _⟩
  · cases hp : opSem T st (n0 + 8 * i) o pk with
    | none => rw [hp] at h1; cases h1
    | some p =>
      obtain ⟨v, new, mods⟩ := p
      rw [hp] at h1
      simp only [Option.bind_some] at h1
      split at h1
      · rename_i hc
        simp only [Bool.and_eq_true] at hc
        injection h1 with h1
        subst h1
        obtain ⟨h2, _, _, h3⟩ := np_ups (nid := n0 + 8 * i) hT hc.2.2.2
        exact ⟨h2, h3⟩
      · cases h1
  · injection h1 with h1
    subst h1
    exact ⟨rfl, rfl⟩
theorem np_app {X : Nat → Bool} : ∀ {os : List Oper} {es : List Eff} {i : Nat} {st : St}, npSt st = true → (∀ e ∈ es, npT e.v = true ∧ (e.ups.all fun m => npM m.2) = true) → npSt (app X i os es st) = true
  | [], _, _, _, h, _ => h
  | _ :: _, [], _, _, h, _ => h
  | o :: os, e :: es, i, st, h, he => by
    simp only [app]
    refine np_app ?_ (fun e' he' => he e' (by simp [he']))
    cases X i
    · exact h
    · exact np_upd h (he e (by simp)).1 (he e (by simp)).2
theorem any_ok (hT : TabFn P T) {st0 : St} (hnp : NPS T W st0) {es : List Eff} (hlen : es.length = ops.size) (hM : maskOk ops M = true) (hon : ∀ j o, ops[j]? = some o → ∀ e ∈ o.after, Region.binds .any e = true → e.on < j)
    (htr : ∀ k o e, ops[k]? = some o → es[k]? = some e → stepE T lo n0 ops k o (app (fun x => decide (x < k)) 0 ops.toList es st0) = some e ∧ ∀ k' o' e', k' < k → ops[k']? = some o' → es[k']? = some e' → PairOk ops M k' o' e' k o e)
    {Q : Exit → Act → World → Prop} (hQ : ∀ a w, RelN T W w0 (app (fun _ => true) 0 ops.toList es st0) a w → Q .normal a w) :
    ∀ (fuel : Nat) (listed : Array Bool) (g : List Gh) (a : Act) (w : World), listed.toList.countP (fun b => !b) ≤ fuel → Lst ops M listed → RelG W w0 g (app (fun i => listed.getD i true) 0 ops.toList es st0) a w → wpAny P .any ops Q fuel listed a w := by
  have hnpX : ∀ X, NPS T W (app X 0 ops.toList es st0) := fun X hn => ⟨np_app (hnp hn).1 (fun e he => by
    obtain ⟨k, hk, e1⟩ := List.getElem_of_mem he
    have hk2 : k < ops.size := by omega
    exact stepE_np hn (htr k ops[k] e (Array.getElem?_eq_getElem hk2) (by rw [List.getElem?_eq_getElem hk, e1])).1), (hnp hn).2⟩
  have hnone : ∀ (listed : Array Bool) (g : List Gh) (a : Act) (w : World), Lst ops M listed → RelG W w0 g (app (fun i => listed.getD i true) 0 ops.toList es st0) a w → Region.ready .any ops listed = [] → Q .normal a w := by
    intro listed g a w hl hR hr
    have hall : ∀ j, j < ops.size → listed.getD j true = true := by
      intro j
      induction j using Nat.strongRecOn with
      | ind j ih =>
        intro hj
        cases hb : listed.getD j true with
        | true => rfl
        | false =>
          exfalso
          have : j ∈ Region.ready .any ops listed := mem_ready.2 ⟨hb, ops[j], Array.getElem?_eq_getElem hj, fun e he hbd => by
            have hlt := hon j _ (Array.getElem?_eq_getElem hj) e he hbd
            have := ih e.on hlt (by omega)
            rw [← getD_tt (by rw [hl.size]; omega)]
            exact this⟩
          rw [hr] at this
          cases this
    refine hQ a w ⟨⟨g, ?_⟩, hnpX _⟩
    rw [app_congr (X := fun _ => true) (Y := fun i => listed.getD i true) (fun k hk => by rw [Nat.zero_add]; exact (hall k (by simpa using hk)).symm)]
    exact hR
  intro fuel
  induction fuel with
  | zero =>
    intro listed g a w hc hl hR
    have hr : Region.ready .any ops listed = [] := by
      cases hr : Region.ready .any ops listed with
      | nil => rfl
      | cons j l =>
        have hj : j ∈ Region.ready .any ops listed := by rw [hr]; simp
        obtain ⟨h0, o, ho, _⟩ := mem_ready.1 hj
        have hlt : j < listed.size := by rw [hl.size]; exact (Array.getElem?_eq_some_iff.1 ho).1
        have hz : listed.toList.countP (fun b => !b) = 0 := by omega
        rw [List.countP_eq_zero] at hz
        have := hz listed[j] (by simp)
        simp [hlt] at h0
        rw [h0] at this
        simp at this
    exact ⟨hr, hnone listed g a w hl hR hr⟩
  | succ fuel ih =>
    intro listed g a w hc hl hR
    refine ⟨hnone listed g a w hl hR, fun j hj => ?_⟩
    obtain ⟨h0, o, ho, hall⟩ := mem_ready.1 hj
    have hjo : j < ops.size := (Array.getElem?_eq_some_iff.1 ho).1
    have hjl : j < listed.size := by rw [hl.size]; exact hjo
    have hpre : ∀ k, k < ops.size → (M.getD j 0).testBit k = true → listed.getD k true = true := by
      intro k hk hb
      unfold maskOk at hM
      rw [List.all_eq_true] at hM
      have h1 := hM j (List.mem_range.2 hjo)
      rw [List.all_eq_true] at h1
      have h2 := h1 k (List.mem_range.2 hk)
      simp only [hb, Bool.not_true, Bool.false_or, ho] at h2
      rw [List.any_eq_true] at h2
      obtain ⟨e, he, h3⟩ := h2
      rw [Bool.and_eq_true, Bool.or_eq_true, beq_iff_eq] at h3
      have h4 := hall e (by simpa using he) h3.1
      have h5 := getD_lt h4
      rcases h3.2 with h6 | h6
      · rw [← h6, getD_tt h5]; exact h4
      · exact hl.down e.on (by rw [← hl.size]; exact h5) (by rw [getD_tt h5]; exact h4) k hk h6
    obtain ⟨e, hee⟩ : ∃ e, es[j]? = some e := ⟨es[j]'(by omega), List.getElem?_eq_getElem (by omega)⟩
    obtain ⟨hst, hpair⟩ := htr j o e ho hee
    have hol : ∀ (k : Nat) (o : Oper), ops.toList[k]? = some o → ops[k]? = some o := fun k o h => by rw [← Array.getElem?_toList]; exact h
    have hlol : ∀ (k : Nat) (o : Oper), ops[k]? = some o → ops.toList[k]? = some o := fun k o h => by rw [Array.getElem?_toList]; exact h
    have hA : Agree (o.looksAt ops) (e.rd ++ e.wr) (app (fun x => decide (x < j)) 0 ops.toList es st0) (app (fun i => listed.getD i true) 0 ops.toList es st0) := by
      refine agree_app (Agree.refl ..) (fun k o' e' q1 q2 => ?_)
      rw [Nat.zero_add]
      have q1 := hol k o' q1
      have hko : k < ops.size := (Array.getElem?_eq_some_iff.1 q1).1
      rcases Nat.lt_trichotomy k j with hk | hk | hk
      · rcases hpair k o' e' hk q1 q2 with hb | hb
        · left; rw [decide_eq_true hk, hpre k hko hb]
        · right
          obtain ⟨b1, b2, b3, b4, b5⟩ := apart_pts hb
          exact ⟨b1, b4⟩
      · subst hk
        left; rw [decide_eq_false (by omega), h0]
      · cases hx : listed.getD k true with
        | false => left; rw [decide_eq_false (by omega)]
        | true =>
          right
          rcases (htr k o' e' q1 q2).2 j o e hk ho hee with hb | hb
          · have := hl.down k hko hx j hjo hb
            rw [h0] at this
            cases this
          · obtain ⟨b1, b2, b3, b4, b5⟩ := apart_pts hb
            exact ⟨b2, b5⟩
    refine step_world hT ho hst hA hR (hnpX _) (fun u w' g' hg => ?_)
    have hX : ∀ k, k ≠ j → (listed.setIfInBounds j true).getD k true = listed.getD k true := fun k hk => getD_set_ne true (Ne.symm hk)
    have hXj : (listed.setIfInBounds j true).getD j true = true := by simp [hjl]
    refine ih _ g' _ w' ?_ ⟨by simp [hl.size], fun i hi h1 k hk hb => ?_⟩ ?_
    · rw [Array.toList_setIfInBounds]
      have h1 : listed.toList.countP (fun b => !b) = (listed.toList.set j true).countP (fun b => !b) + 1 := by
        have hjl' : j < listed.toList.length := by simpa using hjl
        have e1 : listed.toList[j] = false := by simp [hjl] at h0; simpa using h0
        have key : ∀ (l : List Bool) (j : Nat) (h : j < l.length), l[j] = false → l.countP (fun b => !b) = (l.set j true).countP (fun b => !b) + 1 := by
          intro l
          induction l with
          | nil => intro j h; simp at h
          | cons x l ih =>
            intro j h e
            cases j with
            | zero =>
              simp only [List.getElem_cons_zero] at e
              subst e
              simp [List.countP_cons]
            | succ j =>
              have := ih j (by simpa using h) (by simpa using e)
              simp only [List.set_cons_succ, List.countP_cons]
              omega
        exact key _ j hjl' e1
      omega
    · by_cases hij : i = j
      · subst hij
        by_cases hkj : k = i
        · rw [hkj]; exact hXj
        · rw [hX k hkj]; exact hpre k hk hb
      · rw [hX i hij] at h1
        have := hl.down i hi h1 k hk hb
        by_cases hkj : k = j
        · rw [hkj]; exact hXj
        · rw [hX k hkj]; exact this
    · rw [app_ins (X := fun i => listed.getD i true) (Y := fun i => (listed.setIfInBounds j true).getD i true) (j := j) (hlol j o ho) hee (by rw [Nat.zero_add]; exact h0) (by rw [Nat.zero_add]; exact hXj) (fun k hk => by rw [Nat.zero_add]; exact hX k hk) ?_]
      · exact hg
      · intro k o' e' q1 q2 hk hx
        rw [Nat.zero_add] at hx
        have q1 := hol k o' q1
        have hko : k < ops.size := (Array.getElem?_eq_some_iff.1 q1).1
        rcases (htr k o' e' q1 q2).2 j o e hk ho hee with hb | hb
        · have := hl.down k hko hx j hjo hb
          rw [h0] at this
          cases this
        · obtain ⟨b1, b2, b3, b4, b5⟩ := apart_pts hb
          exact ⟨b3, fun m hm n hn => b4 m hm _ (List.mem_append_right _ (List.mem_map_of_mem hn))⟩
end
end Go.Proofs.YtmklecafnhdnmaaGreatV
end

section
/- All regions; no condition. -/
namespace Go.Proofs.YtmklecafnhdnmaaGreatV
open Go Go.RowKit
section
variable {P : Program} {T : Tab} {W : List Gh} {w0 : World}
theorem rel_drawn {g : List Gh} {st : St} {a : Act} {w : World} (hR : RelG W w0 g st a w) (n : Nat) : RelG W w0 g st a { w with drawn := n } := by
  have hS : ∀ b, Stable w g b → Stable { w with drawn := n } g b ∧ ({ w with drawn := n } : World).heap[b]? = w.heap[b]? := fun b hb => ⟨hb, rfl⟩
  exact ⟨RepTs_mono hS (GExt.refl g) hR.tm, ObsOK_mono hS (GExt.refl g) (fun _ _ _ _ => rfl) hR.ob, hR.nd, hR.own, ⟨hR.keep.os, hR.keep.tape, hR.keep.output, hR.keep.size, hR.keep.block⟩, hR.kept, hR.df⟩
theorem fr_upd {lo : Nat} {D : List Nat} {st : St} {d : Option Nat} {v : TV} {u : List (Nat × Md)} (hd : ∀ t, d = some t → t ∈ D) (hu : ∀ m ∈ u, lo ≤ m.1) : Fr lo D st (st.upd d v u) := by
  have h1 : Fr lo D st { tmps := st.tmps, objs := setOb st.objs u } := ⟨rfl, fun _ _ => rfl, fun i hi => setOb_lo u _ lo i (by rw [List.all_eq_true]; intro m hm; exact decide_eq_true (hu m hm)) hi, by simp [setOb_length]⟩
  exact h1.trans (fr_put hd)
theorem fr_app {lo : Nat} {D : List Nat} : ∀ {os : List Oper} {es : List Eff} {i : Nat} {st : St}, (∀ o ∈ os, ∀ t, o.dst = some t → t ∈ D) → (∀ e ∈ es, ∀ m ∈ e.ups, lo ≤ m.1) → Fr lo D st (app (fun _ => true) i os es st)
  | [], _, _, st, _, _ => Fr.refl ..
  | _ :: _, [], _, st, _, _ => Fr.refl ..
  | o :: os, e :: es, i, st, hd, hu => by
    simp only [app, cond_true]
    exact (fr_upd (hd o (by simp)) (hu e (by simp))).trans (fr_app (fun o' ho => hd o' (by simp [ho])) (fun e' he => hu e' (by simp [he])))
theorem stepE_lo {ops : Array Oper} {lo n0 i : Nat} {o : Oper} {st : St} {e : Eff} (hlo : lo ≤ n0) (h : stepE T lo n0 ops i o st = some e) : ∀ m ∈ e.ups, lo ≤ m.1 := by
  unfold stepE at h
  rcases askG_iff h with ⟨h1, _⟩ | ⟨h1, _⟩
  · cases hp : opSem T st (n0 + 8 * i) o pk with
    | none => rw [hp] at h1; cases h1
    | some p =>
      rw [hp] at h1
      simp only [Option.bind_some] at h1
      split at h1
      · rename_i hc
        simp only [Bool.and_eq_true] at hc
        injection h1 with h1
        subst h1
        intro m hm
        rcases List.mem_append.1 hm with hm | hm
        · exact of_decide_eq_true ((List.all_eq_true.1 hc.2.2.1) m hm)
        · obtain ⟨q, hq, rfl⟩ := List.mem_map.1 hm
          have : ∀ (l : List Ob) (n : Nat) (q : Nat × Ob), q ∈ numb n l → n ≤ q.1 := by
            intro l
            induction l with
            | nil => intro n q h; cases h
            | cons x l ih =>
              intro n q h
              simp only [numb, List.mem_cons] at h
              rcases h with rfl | h
              · exact Nat.le_refl _
              · have := ih _ _ h
                omega
          have := this _ _ _ hq
          simp only
          omega
      · cases h1
  · injection h1 with h1
    subst h1
    intro m hm
    cases hm
theorem drawn_ok (hP : P.follows .mixedOrders = true) (hT : TabFn P T) {lo id : Nat} {ops : Array Oper} {R : Type} {st : St} {K : St → Option R} {r : R} {a : Act} {w : World} {Q : Exit → Act → World → Prop} (hlo : lo ≤ st.objs.length) (hR : RelN T W w0 st a w) (h : evReg T lo ops true st K = some r)
    (hQ : ∀ st' a' w', RelN T W w0 st' a' w' → Fr lo (ops.toList.filterMap (fun (o : Oper) => o.dst)) st st' → K st' = some r → Q .normal a' w') : (Code.region id ops true).wp P Q a w := by
  simp only [evReg, if_true] at h
  split at h
  · rename_i hd
    unfold drawOk at hd
    rw [Bool.and_eq_true, List.all_eq_true] at hd
    obtain ⟨hM, hd⟩ := hd
    obtain ⟨⟨g, hR⟩, hnp⟩ := hR
    obtain ⟨es, hlen, hK, htr⟩ := evD_run hT.leaf h
    have hR1 := rel_drawn (rel_pad hR (8 * ops.size)) (w.drawn + 1)
    have hol : ∀ (k : Nat) (o : Oper), ops[k]? = some o → ops.toList[k]? = some o := fun k o h => by rw [Array.getElem?_toList]; exact h
    refine wp_region_any hP (any_ok (lo := lo) (n0 := st.objs.length) hT (fun hn => ⟨np_pad (hnp hn).1, (hnp hn).2⟩) (by simpa using hlen) hM (fun j o hj e he hb => ?_) (fun k o e h1 h2 => ?_) (fun a' w' hR' => hQ _ a' w' hR' ?_ hK) ops.size _ (g ++ List.replicate (8 * ops.size) .unborn) a _ ?_ ⟨by simp, fun i hi h1 => ?_⟩ ?_)
    · have := hd j (List.mem_range.2 (Array.getElem?_eq_some_iff.1 hj).1)
      rw [hj] at this
      simp only [Bool.and_eq_true] at this
      have := (List.all_eq_true.1 this.1.1) e (by simpa using he)
      rw [hb] at this
      simpa using this
    · obtain ⟨a1, _, a3⟩ := htr k o e (hol k o h1) h2
      rw [Nat.zero_add] at a1 a3
      refine ⟨a1, fun k' o' e' hk q1 q2 => ?_⟩
      have := a3 k' o' e' hk (hol k' o' q1) q2
      rwa [Nat.zero_add] at this
    · have h0 : Fr lo (ops.toList.filterMap (fun (o : Oper) => o.dst)) st { st with objs := st.objs ++ List.replicate (8 * ops.size) .unborn } := ⟨rfl, fun _ _ => rfl, fun i hi => List.getElem?_append_left (by omega), by simp⟩
      refine h0.trans (fr_app (fun o ho t ht => List.mem_filterMap.2 ⟨o, ho, ht⟩) (fun e he => ?_))
      obtain ⟨k, hk, e1⟩ := List.getElem_of_mem he
      have hk2 : k < ops.toList.length := by omega
      obtain ⟨a1, _, _⟩ := htr k ops.toList[k] e (List.getElem?_eq_getElem hk2) (by rw [List.getElem?_eq_getElem hk, e1])
      exact stepE_lo (by omega) a1
    · refine Nat.le_trans List.countP_le_length ?_
      simp
    · have : (Array.replicate ops.size false).getD i true = false := by simp [hi]
      rw [this] at h1
      cases h1
    · rw [app_false (fun k hk => by simp at hk; simp [hk])]
      exact hR1
  · cases h
theorem join_drawn (hP : P.follows .mixedOrders = true) (hT : TabFn P T) (id : Nat) (ops : Array Oper) (js : List (Nat × CT)) : CodeOK P T W w0 (.region id ops true) (fun st K => evJoin T ops true js st (K .normal)) := by
  intro R st K r a w Q hR h hQ
  simp only [evJoin] at h
  obtain ⟨x, hx, h⟩ := Option.bind_eq_some_iff.1 h
  refine drawn_ok hP hT (Nat.le_refl _) hR hx (fun st1 a' w' hR1 hF h1 => ?_)
  obtain ⟨vs, hvs, hfrom⟩ := Option.bind_eq_some_iff.1 h1
  rw [toCVs_from hfrom] at h
  exact hQ .normal _ a' w' ⟨rel_join hR.1 hR1.1 hF (fun t ht => List.mem_filterMap.1 ht) hvs (fromCVs_ren hfrom), fun hn => ⟨np_join (hR.2 hn).1 (fromCVs_np hfrom), (hR.2 hn).2⟩⟩ h
theorem reg_ok (hP : P.follows .mixedOrders = true) (hT : TabFn P T) (id : Nat) (ops : Array Oper) (draw : Bool) : CodeOK P T W w0 (.region id ops draw) (fun st K => ev T (.region id ops draw) st K) := by
  intro R st K r a w Q hR h hQ
  simp only [ev] at h
  split at h
  · cases draw
    · exact reg_text hT 0 id ops st K r a w Q hR h hQ
    · exact drawn_ok hP hT (Nat.zero_le _) hR h (fun st' a' w' hR' _ h' => hQ .normal st' a' w' hR' h')
  · cases draw
    · exact join_text hT id ops _ st K r a w Q hR h hQ
    · exact join_drawn hP hT id ops _ st K r a w Q hR h hQ
theorem code_ok (hP : P.follows .mixedOrders = true) (hT : TabFn P T) (c : Code) (hl : AllLoops (LoopsOK P T W w0) c) : CodeOK P T W w0 c (fun st K => ev T c st K) := ev_ok (fun id ops draw => reg_ok hP hT id ops draw) c hl
end
end Go.Proofs.YtmklecafnhdnmaaGreatV
end

section
/- A function's end: results, and what was handed in to be written; no condition. -/
namespace Go.Proofs.YtmklecafnhdnmaaGreatV
open Go Go.RowKit
section
variable {P : Program} {T : Tab} {w : World} {S S' : Nat → Prop} {g : List Gh} {objs : List Ob}
/-- a closed value: new slices are rows at other places -/
structure ClosedC (w : World) (g : List Gh) (is : List Nat) (v' : CV) (u : Value) (gr : List Gh) : Prop where
  len : gr.length = (openC 0 v').2.length
  ob : ∀ S' g', ObsOK w S' g' (openC 0 v').2 gr
  rep : ∀ (S' : Nat → Prop) (n : Nat) (g' : List Gh), (∀ k, k < gr.length → g'[n + k]? = gr[k]?) → RepC w S' g' (openC n v').1 u
  bl : allB gr = is.flatMap fun id => (g.getD id .gone).blocks
theorem closeC_rep (ho : ObsOK w S g objs g) {v v' : CV} {u : Value} {is : List Nat} (h : RepC w S g v u) (hc : closeC objs v = some (v', is)) : ∃ gr, ClosedC w g is v' u gr := by
  cases v <;> simp only [closeC, reduceCtorEq, Option.some.injEq, Prod.mk.injEq] at hc
  case int k n => obtain ⟨rfl, rfl⟩ := hc; exact ⟨[], rfl, fun _ _ => trivial, fun _ _ _ _ => h, rfl⟩
  case bool b => obtain ⟨rfl, rfl⟩ := hc; exact ⟨[], rfl, fun _ _ => trivial, fun _ _ _ _ => h, rfl⟩
  case str b => obtain ⟨rfl, rfl⟩ := hc; exact ⟨[], rfl, fun _ _ => trivial, fun _ _ _ _ => h, rfl⟩
  case nilS r =>
    obtain ⟨rfl, rfl⟩ := hc
    simp only [RepC] at h
    subst h
    refine ⟨[.row (.sl r.size (.slice none 0 0) [])], rfl, fun _ _ => ⟨⟨.slice none 0 0, [], rfl, .slice none 0 0, [], rfl, rfl, .inl ⟨rfl, rfl, rfl⟩⟩, trivial⟩, fun S' n g' hg => ?_, rfl⟩
    have := hg 0 (by simp)
    simp only [openC, RepC]
    rw [Nat.add_zero] at this
    rw [this]
    rfl
  case ref id =>
    cases hob : Ob.at objs id <;> rw [hob] at hc <;> simp only [reduceCtorEq, Option.some.injEq, Prod.mk.injEq] at hc
    rename_i r xs
    obtain ⟨rfl, rfl⟩ := hc
    obtain ⟨v, rows, h1, h2⟩ := row_at ho hob
    simp only [RepC, h1] at h
    subst h
    refine ⟨[.row (.sl r.size u rows)], rfl, fun _ _ => ⟨⟨u, rows, rfl, h2⟩, trivial⟩, fun S' n g' hg => ?_, ?_⟩
    · have := hg 0 (by simp)
      simp only [openC, RepC]
      rw [Nat.add_zero] at this
      rw [this]
      rfl
    · simp [allB, h1]
structure ClosedL (w : World) (g : List Gh) (is : List Nat) (l : List CV) (us : List Value) (gr : List Gh) : Prop where
  len : gr.length = (openL 0 l).2.length
  ob : ∀ S' g', ObsOK w S' g' (openL 0 l).2 gr
  rep : ∀ (S' : Nat → Prop) (n : Nat) (g' : List Gh), (∀ k, k < gr.length → g'[n + k]? = gr[k]?) → RepL w S' g' (openL n l).1 us
  bl : allB gr = is.flatMap fun id => (g.getD id .gone).blocks
theorem closeL_rep (ho : ObsOK w S g objs g) : ∀ {l l' : List CV} {us : List Value} {is : List Nat}, RepL w S g l us → closeL objs l = some (l', is) → ∃ gr, ClosedL w g is l' us gr
  | [], l', [], is, _, hc => by
    simp only [closeL, Option.some.injEq, Prod.mk.injEq] at hc
    obtain ⟨rfl, rfl⟩ := hc
    exact ⟨[], rfl, fun _ _ => trivial, fun _ _ _ _ => trivial, rfl⟩
  | [], _, _ :: _, _, h, _ => h.elim
  | _ :: _, _, [], _, h, _ => h.elim
  | v :: l, l', u :: us, is, h, hc => by
    simp only [closeL] at hc
    split at hc
    · rename_i v' i1 l1 i2 h1 h2
      simp only [Option.some.injEq, Prod.mk.injEq] at hc
      obtain ⟨rfl, rfl⟩ := hc
      obtain ⟨g1, c1⟩ := closeC_rep ho h.1 h1
      obtain ⟨g2, c2⟩ := closeL_rep ho h.2 h2
      have hsnd : (openL 0 (v' :: l1)).2 = (openC 0 v').2 ++ (openL 0 l1).2 := by simp only [openL]; rw [openL_snd l1 _ 0]
      refine ⟨g1 ++ g2, ?_, fun S' g' => ?_, fun S' n g' hg => ?_, ?_⟩
      · rw [hsnd, List.length_append, List.length_append, c1.len, c2.len]
      · rw [hsnd]; exact ObsOK_append (c1.ob S' g') (c2.ob S' g')
      · simp only [openL]
        refine ⟨c1.rep S' n g' (fun k hk => ?_), ?_⟩
        · rw [hg k (by simp; omega), List.getElem?_append_left hk]
        · have e : (openC n v').2.length = g1.length := by rw [c1.len, openC_snd n 0]
          refine c2.rep S' _ g' (fun k hk => ?_)
          rw [e, Nat.add_assoc, hg (g1.length + k) (by simp; omega), List.getElem?_append_right (by omega), Nat.add_sub_cancel_left]
      · rw [allB_append, c1.bl, c2.bl, List.flatMap_append]
    · cases hc
structure ClosedP (w : World) (g : List Gh) (is : List Nat) (l : List (Bool × List CV)) (us : List Value) (gr : List Gh) : Prop where
  len : gr.length = (openP 0 l).2.length
  ob : ∀ S' g', ObsOK w S' g' (openP 0 l).2 gr
  rep : ∀ (S' : Nat → Prop) (n : Nat) (g' : List Gh), (∀ k, k < gr.length → g'[n + k]? = gr[k]?) → RepP w S' g' (openP n l).1 us
  bl : allB gr = is.flatMap fun id => (g.getD id .gone).blocks
/-- a result variable's value -/
def resVal (tmps : Array Value) : ResultVar → Sem Value
  | .tmp t => pure (tmps.getD t undef)
  | .cell a t => do loadVar t (← asAddr (tmps.getD a undef))
theorem resOf_rep (hT : TabOK P T) (ho : ObsOK w S g objs g) {st : St} (hst : st.objs = objs) {tmps : Array Value} (ht : RepTs w S g st.tmps tmps.toList) {rv : ResultVar} {b : Bool} {vs : List CV} (h : resOf T st rv = some (b, vs)) :
    ∃ u, (resVal tmps rv).run P w = .ok u w ∧ RepP w S g [(b, vs)] [u] := by
  cases rv with
  | tmp t =>
    have := RepTs_getD t ht
    simp only [resOf, St.get] at h
    have e : tmps.toList.getD t undef = tmps.getD t undef := by simp [List.getD_eq_getElem?_getD]
    rw [e] at this
    refine ⟨tmps.getD t undef, rfl, ?_⟩
    generalize st.tmps.getD t .dead = x at h this
    cases x <;> simp only [reduceCtorEq, Option.some.injEq, Prod.mk.injEq] at h
    · obtain ⟨rfl, rfl⟩ := h
      exact ⟨⟨this, trivial⟩, trivial⟩
    · obtain ⟨rfl, rfl⟩ := h
      exact ⟨this, trivial⟩
  | cell a t =>
    have := RepTs_getD a ht
    simp only [resOf, St.get] at h
    have e : tmps.toList.getD a undef = tmps.getD a undef := by simp [List.getD_eq_getElem?_getD]
    rw [e] at this
    generalize st.tmps.getD a .dead = x at h this
    split at h
    · rename_i id off ti hty
      subst hst
      split at h
      · rename_i l hob
        split at h
        · rename_i hc
          simp only [Option.some.injEq, Prod.mk.injEq] at h
          obtain ⟨rfl, rfl⟩ := h
          obtain ⟨bk, cells, ty, h2, h3, h4, h5⟩ := box_at ho hob
          simp only [RepT, RepC, h2] at this
          have hdr := RepAt_drop off h5
          rw [Nat.zero_add] at hdr
          cases hag : ti.agg with
          | true =>
            have hg : giveC ti (l.drop off) pk = some (.agg ((l.drop off).take ti.size), [], []) := by
              unfold giveC; rw [hag, if_pos rfl, if_pos hc.1]
            obtain ⟨u, hu, hr, _, _⟩ := load_at hT hty h3 hdr hg
            refine ⟨u, ?_, ⟨hr, trivial⟩⟩
            simp only [resVal]
            rw [this]
            simpa [Instr.loadAt, Instr.sureAddr, asAddr] using hu
          | false =>
            have hsz : ti.size = 1 := hc.2.resolve_left (by rw [hag]; simp)
            rw [hsz] at hc
            cases hl : l.drop off with
            | nil => rw [hl] at hc; simp at hc
            | cons v0 l' =>
              have hg : giveC ti (l.drop off) pk = some (.c v0, [], []) := by
                unfold giveC; rw [hag, hl]; rfl
              obtain ⟨u, hu, hr, _, _⟩ := load_at hT hty h3 hdr hg
              refine ⟨u, ?_, ?_⟩
              · simp only [resVal]
                rw [this]
                simpa [Instr.loadAt, Instr.sureAddr, asAddr] using hu
              · rw [hsz]
                exact ⟨⟨hr, trivial⟩, trivial⟩
        · cases h
      · cases h
    · cases h
theorem resL_rep (hT : TabOK P T) {st : St} (ho : ObsOK w S g st.objs g) {tmps : Array Value} (ht : RepTs w S g st.tmps tmps.toList) : ∀ {rs : List ResultVar} {ps : List (Bool × List CV)} {is : List Nat}, resL T st rs = some (ps, is) →
    ∃ us gr, (rs.mapM (resVal tmps)).run P w = .ok us w ∧ ClosedP w g is ps us gr
  | [], ps, is, h => by
    simp only [resL, Option.some.injEq, Prod.mk.injEq] at h
    obtain ⟨rfl, rfl⟩ := h
    exact ⟨[], [], rfl, rfl, fun _ _ => trivial, fun _ _ _ _ => trivial, rfl⟩
  | r :: rs, ps, is, h => by
    simp only [resL] at h
    split at h
    · rename_i b vs ps1 js h1 h2
      split at h
      · rename_i ws is1 h3
        simp only [Option.some.injEq, Prod.mk.injEq] at h
        obtain ⟨rfl, rfl⟩ := h
        obtain ⟨u, hu, hp⟩ := resOf_rep hT ho rfl ht h1
        obtain ⟨us, g2, hus, c2⟩ := resL_rep hT ho ht h2
        have hL : ∃ uu, RepL w S g vs uu ∧ ∀ (S' : Nat → Prop) (g' : List Gh) (l : List CV), RepL w S' g' l uu → RepP w S' g' [(b, l)] [u] := by
          cases b with
          | true =>
            obtain ⟨⟨uu, h4, h5⟩, _⟩ := hp
            exact ⟨uu, h5, fun S' g' l h6 => ⟨⟨uu, h4, h6⟩, trivial⟩⟩
          | false => exact ⟨[u], hp.1, fun S' g' l h6 => ⟨h6, trivial⟩⟩
        obtain ⟨uu, h4, h5⟩ := hL
        obtain ⟨g1, c1⟩ := closeL_rep ho h4 h3
        have hsnd : (openP 0 ((b, ws) :: ps1)).2 = (openL 0 ws).2 ++ (openP 0 ps1).2 := by simp only [openP]; rw [openP_snd ps1 _ 0]
        refine ⟨u :: us, g1 ++ g2, ?_, ?_, fun S' g' => ?_, fun S' n g' hg => ?_, ?_⟩
        · simp [List.mapM_cons, hu, hus]
        · rw [hsnd, List.length_append, List.length_append, c1.len, c2.len]
        · rw [hsnd]; exact ObsOK_append (c1.ob S' g') (c2.ob S' g')
        · simp only [openP]
          have ha := h5 S' g' _ (c1.rep S' n g' (fun k hk => by rw [hg k (by simp; omega), List.getElem?_append_left hk]))
          have hb : RepP w S' g' (openP (n + (openL n ws).2.length) ps1).1 us := by
            have e : (openL n ws).2.length = g1.length := by rw [c1.len, openL_snd ws n 0]
            refine c2.rep S' _ g' (fun k hk => ?_)
            rw [e, Nat.add_assoc, hg (g1.length + k) (by simp; omega), List.getElem?_append_right (by omega), Nat.add_sub_cancel_left]
          cases b
          · exact ⟨ha.1, hb⟩
          · exact ⟨ha.1, hb⟩
        · rw [allB_append, c1.bl, c2.bl, List.flatMap_append]
      · cases h
    · cases h
end
end Go.Proofs.YtmklecafnhdnmaaGreatV
end

section
/- A function out of its equation; no condition. -/
namespace Go.Proofs.YtmklecafnhdnmaaGreatV
open Go Go.RowKit
section
variable {P : Program} {T : Tab} {w : World}
theorem one_open {ps : List (Bool × List CV)} (hp : (ps.all fun p => p.1 || decide (p.2.length = 1)) = true) (n : Nat) : (openT n (oneOf ps)).2 = (openP n ps).2 := by
  unfold oneOf
  split
  · simp [openT, openP]
  · simp [openT, openP, openL]
  · simp [openT]
theorem one_rep {w : World} {S : Nat → Prop} {g : List Gh} {ps : List (Bool × List CV)} {us : List Value} {n : Nat} (h : RepP w S g (openP n ps).1 us) (hp : (ps.all fun p => p.1 || decide (p.2.length = 1)) = true) :
    RepT w S g (openT n (oneOf ps)).1 (if h : us.toArray.size = 1 then us.toArray[0] else .tuple us.toArray) := by
  unfold oneOf
  split
  · rename_i l
    simp only [openP] at h
    cases us with
    | nil => exact h.elim
    | cons u us =>
      cases us with
      | cons _ _ => exact h.2.elim
      | nil =>
        obtain ⟨⟨uu, h1, h2⟩, _⟩ := h
        exact ⟨uu, h1, h2⟩
  · rename_i v
    simp only [openP, openL] at h
    cases us with
    | nil => exact h.elim
    | cons u us =>
      cases us with
      | cons _ _ => exact h.2.elim
      | nil => exact h.1.1
  · rename_i hn1 hn2
    have hl := RepP_length h
    have hne : ¬ us.toArray.size = 1 := by
      intro e
      have e1 : us.length = 1 := by simpa using e
      rw [e1] at hl
      cases ps with
      | nil => simp [openP] at hl
      | cons p ps =>
        cases ps with
        | cons q ps => simp [openP] at hl
        | nil =>
          obtain ⟨b, l⟩ := p
          cases b with
          | true => exact hn1 l rfl
          | false =>
            simp at hp
            match l, hp with
            | [v], _ => exact hn2 v rfl
    rw [dif_neg hne]
    simp only [openT]
    exact ⟨us, rfl, h⟩
theorem muts_get {objs : List Ob} : ∀ {n i : Nat} {ms : List CV}, mutsOf objs i n = some ms → ms.length = n ∧ ∀ k, k < n → ∃ r xs, Ob.at objs (i + k) = .row r xs ∧ ms[k]? = some (.fz r xs)
  | 0, i, ms, h => by simp only [mutsOf, Option.some.injEq] at h; subst h; exact ⟨rfl, fun k hk => by omega⟩
  | n + 1, i, ms, h => by
    simp only [mutsOf] at h
    split at h
    · rename_i r xs l h1 h2
      injection h with h
      subst h
      obtain ⟨h3, h4⟩ := muts_get h2
      refine ⟨by simp [h3], fun k hk => ?_⟩
      cases k with
      | zero => exact ⟨r, xs, h1, rfl⟩
      | succ k =>
        obtain ⟨r', xs', h5, h6⟩ := h4 k (by omega)
        exact ⟨r', xs', by rw [← h5]; congr 1; omega, by simpa using h6⟩
    · cases h
theorem back_of {w' : World} : ∀ {g : List Gh} {ms : List CV}, ms.length = g.length → (∀ (k : Nat) (t : GT), g[k]? = some (.row t) → ∃ (r : CT) (xs : List (El r)) (v : Value) (rows : List GT), ms[k]? = some (.fz r xs) ∧ t = .sl r.size v rows ∧ OwnC w' (.sl r) #[v] 0 xs t) → (∀ x ∈ g, ∃ t, x = .row t) → BackOK w' g ms
  | [], [], _, _, _ => trivial
  | [], _ :: _, h, _, _ => by simp at h
  | _ :: _, [], h, _, _ => by simp at h
  | x :: g, m :: ms, hl, hk, hr => by
    obtain ⟨t, rfl⟩ := hr x (by simp)
    obtain ⟨r, xs, v, rows, h1, h2, h3⟩ := hk 0 t rfl
    simp only [List.getElem?_cons_zero, Option.some.injEq] at h1
    subst h1
    exact ⟨⟨v, rows, h2, h3⟩, back_of (by simpa using hl) (fun k t h => by simpa using hk (k + 1) t (by simpa using h)) (fun x hx => hr x (by simp [hx]))⟩
theorem flat_nodup {g : List Gh} (hn : (allB g).Nodup) : ∀ {is : List Nat}, is.Nodup → (is.flatMap fun id => (g.getD id .gone).blocks).Nodup
  | [], _ => List.nodup_nil
  | id :: is, h => by
    rw [List.nodup_cons] at h
    rw [List.flatMap_cons, List.nodup_append]
    refine ⟨?_, flat_nodup hn h.2, fun p hp q hq e => ?_⟩
    · cases hg : g[id]? with
      | none => rw [List.getD_eq_getElem?_getD, hg]; simp [Gh.blocks]
      | some y => rw [List.getD_eq_getElem?_getD, hg]; exact nodup_of hn hg
    · subst e
      obtain ⟨jd, hj, hq⟩ := List.mem_flatMap.1 hq
      cases hg : g[id]? with
      | none => rw [List.getD_eq_getElem?_getD, hg] at hp; simp [Gh.blocks] at hp
      | some x =>
        cases hg2 : g[jd]? with
        | none => rw [List.getD_eq_getElem?_getD, hg2] at hq; simp [Gh.blocks] at hq
        | some y =>
          rw [List.getD_eq_getElem?_getD, hg] at hp
          rw [List.getD_eq_getElem?_getD, hg2] at hq
          exact nodup_apart (i := id) (j := jd) hn (fun e => h.1 (by rw [e]; exact hj)) hg hg2 p hp hq
theorem finish_ok (hT : TabOK P T) {fn : Func} {W g : List Gh} {w0 : World} {st : St} {a : Act} (hR : RelG W w0 g st a w) (hW : ∀ x ∈ W, ∃ t, x = .row t) {v : TV} {ms : List CV} (h : finish T fn W.length st = some (v, ms)) :
    ∃ u, (results fn a.tmps).run P w = .ok u w ∧ ResOK w0 w v u ∧ BackOK w W ms := by
  unfold finish at h
  split at h
  · rename_i ps is ms' h1 h2
    split at h
    · rename_i hc
      obtain ⟨hc1, hc2, hc3⟩ := hc
      injection h with h
      obtain ⟨rfl, rfl⟩ := Prod.mk.inj h
      obtain ⟨us, gr, hus, hcl⟩ := resL_rep hT hR.ob hR.tm h1
      have hisn := nodupB_iff hc1
      obtain ⟨hml, hmk⟩ := muts_get h2
      have hrow : ∀ (i : Nat) (t : GT), W[i]? = some (.row t) → g[i]? = some (.row t) ∧ ∃ (r : CT) (xs : List (El r)) (v : Value) (rows : List GT), ms'[i]? = some (.fz r xs) ∧ t = .sl r.size v rows ∧ OwnC w (.sl r) #[v] 0 xs t := fun i t hi => by
        have hlt := (List.getElem?_eq_some_iff.1 hi).1
        obtain ⟨r, xs, h3, h4⟩ := hmk i hlt
        rw [Nat.zero_add] at h3
        obtain ⟨v, rows, h5, h6⟩ := row_at hR.ob h3
        rcases hR.kept i t hi with h7 | h7
        · rw [h5] at h7
          simp only [Option.some.injEq, Gh.row.injEq] at h7
          subst h7
          exact ⟨h5, r, xs, v, rows, h4, rfl, h6⟩
        · rw [h5] at h7; cases h7
      refine ⟨if h : us.toArray.size = 1 then us.toArray[0] else .tuple us.toArray, ?_, ⟨gr, ?_, ?_, ?_, fun b hb => ?_⟩, back_of hml (fun k t hk => (hrow k t hk).2) hW⟩
      · have e : results fn a.tmps = (do let vs ← fn.results.mapM (resVal a.tmps); pure (if h : vs.size = 1 then vs[0] else .tuple vs)) := by
          unfold results
          congr 1
        have e2 : fn.results.mapM (resVal a.tmps) = List.toArray <$> fn.results.toList.mapM (resVal a.tmps) := by
          conv => lhs; rw [← Array.toArray_toList (xs := fn.results)]
          exact List.mapM_toArray
        rw [e, e2]
        simp [hus]
      · exact one_rep (hcl.rep _ 0 gr (fun k hk => by rw [Nat.zero_add])) hc3
      · rw [one_open hc3]; exact hcl.ob _ _
      · rw [hcl.bl]; exact flat_nodup hR.nd hisn
      · rw [hcl.bl] at hb
        obtain ⟨id, hid, hb⟩ := List.mem_flatMap.1 hb
        cases hg : g[id]? with
        | none => rw [List.getD_eq_getElem?_getD, hg] at hb; simp [Gh.blocks] at hb
        | some x =>
          rw [List.getD_eq_getElem?_getD, hg] at hb
          obtain ⟨h3, h4⟩ := hR.own b (allB_mem hg hb)
          refine ⟨h4.resolve_right (fun h5 => ?_), h3⟩
          obtain ⟨y, hy, hby⟩ := mem_allB.1 h5
          obtain ⟨t, rfl⟩ := hW y hy
          obtain ⟨i, hi, e⟩ := List.getElem_of_mem hy
          have hgi := (hrow i t (by rw [List.getElem?_eq_getElem hi, e])).1
          have hge := of_decide_eq_true ((List.all_eq_true.1 hc2) id hid)
          exact nodup_apart (i := id) (j := i) hR.nd (by omega) hg hgi b hb hby
    · cases h
  · cases h
end
end Go.Proofs.YtmklecafnhdnmaaGreatV
end

section
/- Functions and their rounds out of their equations; no condition. -/
namespace Go.Proofs.YtmklecafnhdnmaaGreatV
open Go Go.RowKit
/-- all rounds of a piece of code, inner ones too -/
def bodies : Code → List (Nat × Code)
  | .seq a b => bodies a ++ bodies b
  | .cond _ a b => bodies a ++ bodies b
  | .block _ c => bodies c
  | .loop c => (keyOf c, c) :: bodies c
  | _ => []
def findB : List (Nat × Code) → Nat → Code
  | [], _ => .skip
  | (m, c) :: l, n => bif Nat.beq m n then c else findB l n
theorem findB_mem {n : Nat} {c : Code} : ∀ {l : List (Nat × Code)}, nodupB (l.map (·.1)) = true → (n, c) ∈ l → findB l n = c
  | [], _, h => by cases h
  | (m, d) :: l, hn, h => by
    simp only [List.map_cons, nodupB, Bool.and_eq_true, Bool.not_eq_true'] at hn
    simp only [findB]
    rcases List.mem_cons.1 h with h | h
    · obtain ⟨rfl, rfl⟩ := Prod.mk.inj h
      simp
    · have : Nat.beq m n = false := by
        refine Bool.eq_false_iff.2 (fun e => ?_)
        have e := Nat.eq_of_beq_eq_true e
        have h2 : n ∈ l.map (·.1) := List.mem_map.2 ⟨(n, c), h, rfl⟩
        have h3 := hn.1
        rw [e] at h3
        simp only [List.contains_eq_mem, decide_eq_false_iff_not] at h3
        exact h3 h2
      rw [this, cond_false]
      exact findB_mem hn.2 h
def lookL : List (Nat × LoopI) → Nat → Option LoopI
  | [], _ => none
  | (m, l) :: ls, n => bif Nat.beq m n then some l else lookL ls n
/-- a round's row of the table, held against its code -/
def RowL (T : Tab) (m : Nat) (L : LoopI) (d : Code) : Prop :=
  (∃ (f g : SF) (cs co : List CT) (e k : Nat) (lf : Nat → HT cs → Option (HT co)), (m ≤ f.m ∧ m ≤ g.m) ∧ (∀ x, lf 0 x = none) ∧ (∀ n x, lf (n + 1) x = ev T d (f.mk' cs x) (outA e g co f cs (lf n))) ∧ L = loopA f cs e g co (lf k)) ∨
  (∃ (f g h : SF) (cs co cr : List CT) (e k : Nat) (lf : Nat → HT cs → Option (HT co ⊕ HT cr)), (m ≤ f.m ∧ m ≤ g.m ∧ m ≤ h.m) ∧ (∀ x, lf 0 x = none) ∧ (∀ n x, lf (n + 1) x = ev T d (f.mk' cs x) (outB e g co h cr f cs (lf n))) ∧ L = loopB f cs e g co h cr (lf k))
theorem rowA {T : Tab} {m : Nat} {f g : SF} {cs co : List CT} {e : Nat} (k : Nat) {d : Code} (lf : Nat → HT cs → Option (HT co)) (hm : m ≤ f.m ∧ m ≤ g.m) (h0 : ∀ x, lf 0 x = none) (h1 : ∀ n x, lf (n + 1) x = ev T d (f.mk' cs x) (outA e g co f cs (lf n))) :
    RowL T m (loopA f cs e g co (lf k)) d := .inl ⟨f, g, cs, co, e, k, lf, hm, h0, h1, rfl⟩
theorem rowB {T : Tab} {m : Nat} {f g h : SF} {cs co cr : List CT} {e : Nat} (k : Nat) {d : Code} (lf : Nat → HT cs → Option (HT co ⊕ HT cr)) (hm : m ≤ f.m ∧ m ≤ g.m ∧ m ≤ h.m) (h0 : ∀ x, lf 0 x = none) (h1 : ∀ n x, lf (n + 1) x = ev T d (f.mk' cs x) (outB e g co h cr f cs (lf n))) :
    RowL T m (loopB f cs e g co h cr (lf k)) d := .inr ⟨f, g, h, cs, co, cr, e, k, lf, hm, h0, h1, rfl⟩
def RowsL (T : Tab) (m : Nat) (c : Code) : List (Nat × LoopI) → Prop
  | [] => True
  | p :: l => RowL T m p.2 (findB (bodies c) p.1) ∧ RowsL T m c l
theorem rows_look {T : Tab} {m n : Nat} {c : Code} {L : LoopI} : ∀ {l : List (Nat × LoopI)}, RowsL T m c l → lookL l n = some L → RowL T m L (findB (bodies c) n)
  | [], _, h => by cases h
  | (k, x) :: l, hr, h => by
    simp only [lookL] at h
    cases hk : Nat.beq k n with
    | true =>
      rw [hk, cond_true] at h
      injection h with h
      subst h
      have : k = n := Nat.eq_of_beq_eq_true hk
      subst this
      exact hr.1
    | false =>
      rw [hk, cond_false] at h
      exact rows_look hr.2 h
section
variable {P : Program} {T : Tab}
theorem loops_ok (hP : P.follows .mixedOrders = true) (hT : TabFn P T) {m : Nat} {W : List Gh} {w0 : World} (hW : W.length ≤ m) : ∀ (c : Code), (∀ p ∈ bodies c, ∀ L, T.loop p.1 = some L → RowL T m L p.2) → AllLoops (LoopsOK P T W w0) c
  | .seq a b, h => ⟨loops_ok hP hT hW a (fun p hp => h p (by simp [bodies, hp])), loops_ok hP hT hW b (fun p hp => h p (by simp [bodies, hp]))⟩
  | .cond _ a b, h => ⟨loops_ok hP hT hW a (fun p hp => h p (by simp [bodies, hp])), loops_ok hP hT hW b (fun p hp => h p (by simp [bodies, hp]))⟩
  | .block _ c, h => loops_ok hP hT hW c (fun p hp => h p (by simp [bodies, hp]))
  | .loop c, h => fun L hL => by
    have hb : CodeOK P T W w0 c (fun st K => ev T c st K) := code_ok hP hT c (loops_ok hP hT hW c (fun p hp => h p (by simp [bodies, hp])) : AllLoops (LoopsOK P T W w0) c)
    rcases h (keyOf c, c) (by simp [bodies]) L hL with ⟨f, g, cs, co, e, k, lf, hm, h0, h1, rfl⟩ | ⟨f, g, h', cs, co, cr, e, k, lf, hm, h0, h1, rfl⟩
    · intro R st K r a w Q q1 q2 q3
      exact loopA_ok (Nat.le_trans hW hm.1) (Nat.le_trans hW hm.2) lf h0 h1 hb k st K r a w Q q1 q2 q3
    · intro R st K r a w Q q1 q2 q3
      exact loopB_ok (Nat.le_trans hW hm.1) (Nat.le_trans hW hm.2.1) (Nat.le_trans hW hm.2.2) lf h0 h1 hb k st K r a w Q q1 q2 q3
  | .skip, _ => trivial
  | .region .., _ => trivial
  | .exit _, _ => trivial
  | .ret, _ => trivial
  | .label _, _ => trivial
  | .goto _, _ => trivial
  | .scope _, _ => trivial
  | .rangeFunc .., _ => trivial
  | .refuse .., _ => trivial
/-! how many slices are handed in to be written -/
def SC.wn : SC → Nat | .w => 1 | _ => 0
def wnL (l : List SC) : Nat := l.foldr (fun s n => s.wn + n) 0
def TT.wn : TT → Nat
  | .c s => s.wn
  | .agg l => wnL l
  | .tup _ => 1000
  | _ => 0
def wnTs (l : List TT) : Nat := l.foldr (fun s n => s.wn + n) 0
theorem sc_wn {s : SC} {v : CV} {l : List CV} (h : s.dec v = some l) (n : Nat) : (openC n v).2.length = s.wn := by
  cases s <;> cases v <;> first | rfl | simp [SC.dec] at h
theorem l_wn : ∀ {ss : List SC} {vs l : List CV} (_ : decL ss vs = some l) (n : Nat), (openL n vs).2.length = wnL ss
  | [], [], _, _, _ => rfl
  | [], _ :: _, _, h, _ => by simp [decL] at h
  | _ :: _, [], _, h, _ => by simp [decL] at h
  | s :: ss, v :: vs, l, h, n => by
    simp only [decL] at h
    split at h
    · rename_i h1 h2
      simp only [openL, List.length_append, sc_wn h1, l_wn h2]
      rfl
    · cases h
theorem t_wn {s : TT} {v : TV} {l : List CV} (h : s.dec v = some l) (hs : s.wn < 1000) (n : Nat) : (openT n v).2.length = s.wn := by
  cases s with
  | tup l => exact absurd hs (by simp [TT.wn])
  | c s => cases v <;> simp only [TT.dec, reduceCtorEq] at h; simp only [openT, sc_wn h, TT.wn]
  | agg s => cases v <;> simp only [TT.dec, reduceCtorEq] at h; simp only [openT, l_wn h, TT.wn]
  | fp s => cases v <;> simp only [TT.dec, reduceCtorEq] at h; rfl
  | fn f s => cases v <;> simp only [TT.dec, reduceCtorEq] at h; rfl
theorem ts_wn : ∀ {ss : List TT} {vs : List TV} {l : List CV} (_ : decTs ss vs = some l) (_ : wnTs ss < 1000) (n : Nat), (openA n vs).2.length = wnTs ss
  | [], [], _, _, _, _ => rfl
  | [], _ :: _, _, h, _, _ => by simp [decTs] at h
  | _ :: _, [], _, h, _, _ => by simp [decTs] at h
  | s :: ss, v :: vs, l, h, hs, n => by
    have e : wnTs (s :: ss) = s.wn + wnTs ss := rfl
    simp only [decTs] at h
    split at h
    · rename_i h1 h2
      simp only [openA, List.length_append, t_wn h1 (by omega), ts_wn h2 (by omega), e]
    · cases h
theorem openA_rows : ∀ (l : List TV) (n : Nat), (openA n l).2.all isRow = true
  | [], _ => rfl
  | v :: l, n => by simp only [openA, List.all_append, openT_rows, openA_rows l, Bool.and_self]
theorem reps_dead {w : World} {S : Nat → Prop} {g : List Gh} : ∀ n, RepTs w S g (List.replicate n .dead) (List.replicate n undef)
  | 0 => trivial
  | n + 1 => ⟨trivial, reps_dead n⟩
theorem sc_np {s : SC} {v : CV} {l : List CV} (h : s.dec v = some l) : npC v = true := by
  cases v <;> first | rfl | (cases s <;> simp [SC.dec] at h)
theorem l_np : ∀ {ss : List SC} {vs l : List CV}, decL ss vs = some l → vs.all npC = true
  | [], [], _, _ => rfl
  | [], _ :: _, _, h => by simp [decL] at h
  | _ :: _, [], _, h => by simp [decL] at h
  | s :: ss, v :: vs, l, h => by
    simp only [decL] at h
    split at h
    · rename_i h1 h2
      rw [List.all_cons, sc_np h1, l_np h2]; rfl
    · cases h
theorem p_np : ∀ {ss : List (Bool × List SC)} {vs : List (Bool × List CV)} {l : List CV}, decP ss vs = some l → (vs.all fun p => p.2.all npC) = true
  | [], [], _, _ => rfl
  | [], _ :: _, _, h => by simp [decP] at h
  | _ :: _, [], _, h => by simp [decP] at h
  | (b, s) :: ss, (b', v) :: vs, l, h => by
    simp only [decP] at h
    split at h
    · split at h
      · rename_i h1 h2
        rw [List.all_cons, Bool.and_eq_true]
        exact ⟨l_np h1, p_np h2⟩
      · cases h
    · cases h
theorem t_np {s : TT} {v : TV} {l : List CV} (h : s.dec v = some l) : npT v = true := by
  cases s <;> cases v <;> simp only [TT.dec, reduceCtorEq] at h
  · exact sc_np h
  · exact l_np h
  · exact p_np h
  · exact l_np h
  · split at h
    · exact l_np h
    · cases h
theorem open_npC (n : Nat) {v : CV} (h : npC v = true) : npC (openC n v).1 = true := by cases v <;> first | rfl | exact h
theorem open_npL : ∀ {l : List CV} (n : Nat), l.all npC = true → (openL n l).1.all npC = true
  | [], _, _ => rfl
  | v :: l, n, h => by
    simp only [List.all_cons, Bool.and_eq_true] at h
    simp only [openL, List.all_cons, Bool.and_eq_true]
    exact ⟨open_npC n h.1, open_npL _ h.2⟩
theorem open_npP : ∀ {l : List (Bool × List CV)} (n : Nat), (l.all fun p => p.2.all npC) = true → ((openP n l).1.all fun p => p.2.all npC) = true
  | [], _, _ => rfl
  | (b, v) :: l, n, h => by
    simp only [List.all_cons, Bool.and_eq_true] at h
    simp only [openP, List.all_cons, Bool.and_eq_true]
    exact ⟨open_npL n h.1, open_npP _ h.2⟩
theorem open_npT (n : Nat) {v : TV} (h : npT v = true) : npT (openT n v).1 = true := by
  cases v with
  | c v => exact open_npC n h
  | agg l => exact open_npL n h
  | tup l => exact open_npP n h
  | _ => exact h
theorem ts_np : ∀ {ss : List TT} {vs : List TV} {l : List CV} (_ : decTs ss vs = some l) (n : Nat), (openA n vs).1.all npT = true
  | [], [], _, _, _ => rfl
  | [], _ :: _, _, h, _ => by simp [decTs] at h
  | _ :: _, [], _, h, _ => by simp [decTs] at h
  | s :: ss, v :: vs, l, h, n => by
    simp only [decTs] at h
    split at h
    · rename_i h1 h2
      simp only [openA, List.all_cons, Bool.and_eq_true]
      exact ⟨open_npT n (t_np h1), ts_np h2 _⟩
    · cases h
theorem rows_np {l : List Ob} (h : l.all isRow = true) : l.all npO = true := List.all_eq_true.2 (fun x hx => by
  have := (List.all_eq_true.1 h) x hx
  cases x <;> first | rfl | simp [isRow] at this)
theorem enter_np {fn : Func} {ss : List TT} {args : List TV} {l : List CV} (h : decTs ss args = some l) : npSt (enter fn args) = true := by
  unfold npSt enter
  simp only [Bool.and_eq_true, List.all_append]
  refine ⟨⟨ts_np h 0, List.all_eq_true.2 (fun x hx => by rw [(List.mem_replicate.1 hx).2]; rfl)⟩, rows_np (openA_rows args 0)⟩
/-- a function's row of the table out of its equation -/
theorem fun_ok (hP : P.follows .mixedOrders = true) (hT : TabFn P T) {f : Nat} {fn : Func} {c : Code} (I : FunI) (F : HT I.cs → Option (HT I.co)) (hf : P.funcs[f]? = some fn) (hb : fn.body = some c) (hm : wnTs I.at_ = I.m) (hm2 : I.m < 1000)
    {ls : List (Nat × LoopI)} (hls : T.loop = lookL ls) (hk : nodupB ((bodies c).map (·.1)) = true) (hl : RowsL T I.m c ls) (heq : ∀ x, F x = I.body T fn c x) (hnp : T.np = true → I.m = 0) : CallOK P f (I.call F) := by
  intro args res ms h w vals S g hargs hobs hnd hlt hS
  have h := h (fun v m => some (v, m))
  unfold FunI.call at h
  obtain ⟨x, hx, h⟩ := Option.bind_eq_some_iff.1 h
  obtain ⟨y, hy, h⟩ := Option.bind_eq_some_iff.1 h
  obtain ⟨hs, hd, hx⟩ := Option.bind_eq_some_iff.1 hx
  have hwn := ts_wn hd (by omega) 0
  have hgl := ObsOK_length hobs
  have hinst : instTs I.at_ (toCVs I.cs x) = (args, []) := by
    rw [toCVs_from hx]
    have := ts_inst hd []
    rwa [List.append_nil] at this
  rw [heq] at hy
  unfold FunI.body at hy
  rw [hinst] at hy
  have hW : ∀ x ∈ g, ∃ t, x = .row t := by
    intro x hx
    obtain ⟨i, hi, e⟩ := List.getElem_of_mem hx
    have ho : i < (openA 0 args).2.length := by omega
    have := (ObsOK_iff.1 hobs).2 i _ x (List.getElem?_eq_getElem ho) (by rw [List.getElem?_eq_getElem hi, e])
    have hr := (List.all_eq_true.1 (openA_rows args 0)) _ (List.getElem_mem ho)
    generalize (openA 0 args).2[i] = o at this hr
    cases o <;> simp [isRow] at hr
    cases x <;> first | exact ⟨_, rfl⟩ | exact this.elim
  have hSS : ∀ b, S b → Stable w g b ∧ w.heap[b]? = w.heap[b]? := fun b hb => ⟨hS b hb, rfl⟩
  have hlen := RepTs_length hargs
  have hR : RelG g w g (enter fn args) { tmps := vals.toArray ++ Array.replicate (fn.ntmps - vals.toArray.size) undef, defers := [] } w := by
    refine ⟨?_, ObsOK_mono hSS (GExt.refl g) (fun _ _ _ _ => rfl) hobs, hnd, fun b hb => ⟨hlt b hb, .inr hb⟩, Keep.refl _ _, fun i t hi => .inl hi, rfl⟩
    simp only [enter, Array.toList_append, Array.toList_replicate, List.size_toArray]
    rw [hlen]
    exact RepTs_append (RepTs_mono hSS (GExt.refl g) hargs) (reps_dead _)
  refine calls_of_wp hf hb ?_
  refine code_ok hP hT c (loops_ok (W := g) (w0 := w) (m := I.m) hP hT (by omega) c (fun p hp L hL => ?_)) _ _ y _ w _ ⟨⟨g, hR⟩, fun hn => ⟨enter_np hd, List.eq_nil_of_length_eq_zero (by have := hnp hn; omega)⟩⟩ hy (fun e st' a' w' hR' hK => ?_)
  · rw [hls] at hL
    have := rows_look hl hL
    rwa [findB_mem hk hp] at this
  · obtain ⟨⟨g', hR'⟩, _⟩ := hR'
    have hfin : e.out = .normal ∨ e.out = .ret := by
      cases e
      · exact .inl rfl
      · cases hK
      · exact .inr rfl
    have hK' : ((finish T fn I.m st').bind fun (v, ms) => match I.rt.dec v with | some hs => fromCVs I.co (hs ++ ms) | none => none) = some y := by
      cases e
      · exact hK
      · cases hK
      · exact hK
    obtain ⟨⟨v, ms'⟩, hfi, hK'⟩ := Option.bind_eq_some_iff.1 hK'
    simp only at hK'
    cases hdv : I.rt.dec v with
    | none => rw [hdv] at hK'; cases hK'
    | some hs' =>
      rw [hdv] at hK'
      simp only at hK'
      have e1 := toCVs_from hK'
      have e2 := t_inst hdv ms'
      rw [e1, e2] at h
      simp only [Option.some.injEq, Prod.mk.injEq] at h
      obtain ⟨rfl, rfl⟩ := h
      rw [← hm, ← hwn, hgl] at hfi
      obtain ⟨u, hu, hres, hback⟩ := finish_ok hT.toTabOK hR' hW hfi
      have : a'.defers = [] ∧ ∃ z, (results fn a'.tmps).run P w' = .ok z w' ∧ (∃ v_1, Ending.returned z = Ending.returned v_1 ∧ Keep (allB g) w w' ∧ BackOK w' g ms' ∧ ResOK w w' v v_1) := ⟨hR'.df, u, hu, u, rfl, hR'.keep, hback, hres⟩
      rcases hfin with e3 | e3 <;> rw [e3] <;> exact this
end
end Go.Proofs.YtmklecafnhdnmaaGreatV
end

section
/- The table of functions, row by row; no condition. -/
namespace Go.Proofs.YtmklecafnhdnmaaGreatV
open Go Go.RowKit
structure CallI where
  I : FunI
  F : HT I.cs → Option (HT I.co)
def lookC : List (Nat × CallI) → Nat → Option CallI
  | [], _ => none
  | (m, c) :: l, n => bif Nat.beq m n then some c else lookC l n
/-- the table whose callees are C -/
def TC (ty : Nat → Option TI) (wr eqt : Nat → Bool) (rv fz : Nat) (C : List (Nat × CallI)) : Tab :=
  { ty := ty, loop := fun _ => none, call := fun f _ args K => match lookC C f with | some c => c.I.call c.F args K | none => none, wr := wr, rev := fun f => Nat.beq f rv, join := fun _ => [], eq := eqt, np := false, frz := fun f => Nat.beq f fz }
section
variable {P : Program} {ty : Nat → Option TI} {wr eqt : Nat → Bool} {rv fz : Nat}
theorem call_leaf (I : FunI) (F : HT I.cs → Option (HT I.co)) (R : Type) (args : List TV) (K : TV → List CV → Option R) : I.call F args K = (I.call F args (fun v m => some (v, m))).bind fun p => K p.1 p.2 := by
  unfold FunI.call
  cases (decTs I.at_ args).bind (fromCVs I.cs) with
  | none => rfl
  | some x =>
    simp only [Option.bind_some]
    cases F x with
    | none => rfl
    | some y => rfl
theorem tc_leaf (C : List (Nat × CallI)) : LeafCall (TC ty wr eqt rv fz C) := by
  intro f R args K
  simp only [TC]
  cases lookC C f with
  | none => rfl
  | some c => exact call_leaf c.I c.F R args K
/-- types, callees of the table -/
theorem tc_nil (hty : TabOK P (TC ty wr eqt rv fz [])) : TabFn P (TC ty wr eqt rv fz []) := by
  refine ⟨hty, tc_leaf _, fun f args p _ h => ?_, fun f args p _ h => ?_⟩ <;> cases h
theorem tc_rev {C : List (Nat × CallI)} (h : TabFn P (TC ty wr eqt rv fz C)) {c : CallI} (hc : RevCalls P rv) (hq : ∀ args p, c.I.call c.F args (fun v m => some (v, m)) = some p → ∃ ys : List Int, args = [.c (.new (.int .i64) ys)] ∧ p = (.tup [], [.fz (.int .i64) ys.reverse])) : TabFn P (TC ty wr eqt rv fz ((rv, c) :: C)) := by
  have look : ∀ f', lookC ((rv, c) :: C) f' = bif Nat.beq rv f' then some c else lookC C f' := fun _ => rfl
  have hcall : ∀ f', Nat.beq rv f' = false → ∀ (R : Type), @Tab.call (TC ty wr eqt rv fz ((rv, c) :: C)) f' R = @Tab.call (TC ty wr eqt rv fz C) f' R := fun f' e R => by
    funext args K
    simp only [TC, look, e, cond_false]
  refine ⟨⟨h.ty, h.eq⟩, tc_leaf _, fun f' args p hr' hp => ?_, fun f' args p hr' hp => ?_⟩
  · cases e : Nat.beq rv f' with
    | true =>
      have : rv = f' := Nat.eq_of_beq_eq_true e
      subst this
      have h1 : Nat.beq rv rv = false := hr'
      rw [e] at h1; cases h1
    | false =>
      rw [hcall f' e] at hp
      obtain ⟨h1, h2⟩ := h.fn f' args p hr' hp
      refine ⟨fun args res ms h3 => h1 args res ms (fun K => ?_), h2⟩
      have := h3 K
      simp only at this ⊢
      rw [hcall f' e] at this
      exact this
  · have h1 : Nat.beq f' rv = true := hr'
    have : f' = rv := Nat.eq_of_beq_eq_true h1
    subst this
    simp only [TC, look, h1, cond_true] at hp
    exact ⟨hc, hq args p hp⟩
theorem tc_cons {C : List (Nat × CallI)} (h : TabFn P (TC ty wr eqt rv fz C)) {f : Nat} {c : CallI} (hr : Nat.beq f rv = false) (hc : CallOK P f (c.I.call c.F)) (he : Enterable P f) : TabFn P (TC ty wr eqt rv fz ((f, c) :: C)) := by
  have look : ∀ f', lookC ((f, c) :: C) f' = bif Nat.beq f f' then some c else lookC C f' := fun _ => rfl
  have hcall : ∀ f', Nat.beq f f' = false → ∀ (R : Type), @Tab.call (TC ty wr eqt rv fz ((f, c) :: C)) f' R = @Tab.call (TC ty wr eqt rv fz C) f' R := fun f' e R => by
    funext args K
    simp only [TC, look, e, cond_false]
  refine ⟨⟨h.ty, h.eq⟩, tc_leaf _, fun f' args p hr' hp => ?_, fun f' args p hr' hp => ?_⟩
  · cases e : Nat.beq f f' with
    | true =>
      have : f = f' := Nat.eq_of_beq_eq_true e
      subst this
      refine ⟨fun args res ms h1 => hc args res ms (fun K => ?_), he⟩
      have := h1 K
      simp only [TC, look, e, cond_true] at this
      exact this
    | false =>
      rw [hcall f' e] at hp
      obtain ⟨h1, h2⟩ := h.fn f' args p hr' hp
      refine ⟨fun args res ms h3 => h1 args res ms (fun K => ?_), h2⟩
      have := h3 K
      simp only at this ⊢
      rw [hcall f' e] at this
      exact this
  · cases e : Nat.beq f f' with
    | true =>
      have : f = f' := Nat.eq_of_beq_eq_true e
      subst this
      have : Nat.beq f rv = true := hr'
      rw [hr] at this; cases this
    | false =>
      rw [hcall f' e] at hp
      exact h.rev f' args p hr' hp
/-- the same with a function's own rounds and joins -/
theorem tab_with {T : Tab} (h : TabFn P T) (l : Nat → Option LoopI) (j : Nat → List (Nat × CT)) (b : Bool) : TabFn P { T with loop := l, join := j, np := b } := ⟨⟨h.ty, h.eq⟩, h.leaf, h.fn, h.rev⟩
end
end Go.Proofs.YtmklecafnhdnmaaGreatV
end

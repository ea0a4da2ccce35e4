/- Drawn regions; callees that are handed objects; no condition. -/
import Derived.Test.YtgcioclfplafkaaGreatA08
set_option linter.all false
section
namespace Go.Proofs.YtgcioclfplafkaaGreatV
open Go Go.RowKit
structure Eff where
 rd : List Pt
 v : TV
 ups : List (Nat × Md)
def Eff.wr (e : Eff) : List Pt := e.ups.map wrOf
def stepE (T : Tab) (lo n0 : Nat) (ops : Array Oper) (i : Nat) (o : Oper) (st : St) : Option Eff :=
 askG ops st o (fun st => (opSem T st (n0 + 8 * i) o pk).bind fun p => if (decide (p.2.1.length ≤ 8) && (unbornAt st.objs (n0 + 8 * i) p.2.1.length && ((p.2.2.all fun m => decide (lo ≤ m.1)) && npOK T p.1 p.2.1 p.2.2))) = true then some ⟨idsOf T st o, p.1, upsOf (n0 + 8 * i) p.2.2 p.2.1⟩ else none)
  (fun _ => some ⟨[], .undef, []⟩)
theorem askG_iff {R : Type} {ops : Array Oper} {st : St} {o : Oper} {yes no : St → Option R} {r : R} (h : askG ops st o yes no = some r) :
  (yes st = some r ∧ ∀ (S : Type) (y n : St → Option S), askG ops st o y n = y st) ∨ (no st = some r ∧ ∀ (S : Type) (y n : St → Option S), askG ops st o y n = n st) := by
 unfold askG at *
 split at h
 ·exact .inl ⟨h, fun _ _ _ => by first | rfl | trivial⟩
 ·rename_i j want hg
  split at h
  ·rename_i d hd
   split at h
   ·rename_i b hb
    have hp := put_get hb (by simp)
    cases b <;> cases want <;> simp only [cond_true, cond_false, if_true, Bool.false_eq_true, if_false] at h <;> rw [hp] at h <;> simp only [hd, hb, cond_true, cond_false, if_true, Bool.false_eq_true, if_false, hp]
    ·exact .inl ⟨h, fun _ _ _ => by first | rfl | trivial⟩
    ·exact .inr ⟨h, fun _ _ _ => by first | rfl | trivial⟩
    ·exact .inr ⟨h, fun _ _ _ => by first | rfl | trivial⟩
    ·exact .inl ⟨h, fun _ _ _ => by first | rfl | trivial⟩
   ·rename_i hb
    simp only [hd, hb]
    exact .inr ⟨h, fun _ _ _ => by first | rfl | trivial⟩
   ·cases h
  ·cases h
theorem askG_trans {ops : Array Oper} {st st' : St} {o : Oper} (h : ∀ t ∈ o.looksAt ops, st.get t = st'.get t) {R : Type} (y n : Option R) :
  askG ops st o (fun _ => y) (fun _ => n) = askG ops st' o (fun _ => y) (fun _ => n) := by
 unfold askG
 split
 ·rfl
 ·rename_i j want hg
  split
  ·rename_i d hd
   have : st.get d = st'.get d := h d (by simp [Oper.looksAt, hg, hd])
   rw [this]
  ·rfl
theorem take_eq {l l' : List CV} {off n : Nat} (h : ∀ k, off ≤ k → k < off + n → l[k]? = l'[k]?) : (l.drop off).take n = (l'.drop off).take n := by
 apply List.ext_getElem?
 intro k
 rw [List.getElem?_take, List.getElem?_take]
 split
 ·rw [List.getElem?_drop, List.getElem?_drop]
  exact h _ (by omega) (by omega)
 ·rfl
theorem giveC_take {R : Type} (K : Kont R) {ti : TI} {l l' : List CV} (hs : ti.size ≠ 0) (h : l.take ti.size = l'.take ti.size) : giveC ti l K = giveC ti l' K := by
 unfold giveC
 rw [h]
 split
 ·rfl
 ·obtain ⟨n, hn⟩ := Nat.exists_eq_succ_of_ne_zero hs
  rw [hn] at h
  cases l <;> cases l' <;> simp only [List.take_nil, List.take_succ_cons] at h
  ·rfl
  ·cases h
  ·cases h
  ·injection h with h1 h2
   rw [h1]
theorem opSem_agree {T : Tab} {st st' : St} {nid : Nat} {o : Oper} {v : TV} {new : List Ob} {mods : List (Nat × Md)} {L : List Nat} {ps : List Pt} (h : opSem T st nid o pk = some (v, new, mods)) (hA : Agree L ps st st')
  (hL : ∀ t, Operand.tmp t ∈ o.op.operands → t ∈ L) (hr : ∀ p ∈ idsOf T st o, p ∈ ps) (hw : ∀ m ∈ mods, wrOf m ∈ ps) : opSem T st' nid o pk = some (v, new, mods) := by
 have hρ : ∀ x ∈ o.op.operands.toList, ∀ t, opd T st t x = opd T st' t x := fun x hx t => opd_tmps (fun n e => hA.tm n (hL n (by rw [← e]; simpa using hx))) t
 have all : idsOf T st o = closeI st.objs (o.op.operands.toList.flatMap fun | .tmp t => idT (st.get t) | _ => []) → opSem T st' nid o pk = some (v, new, mods) := by
  intro e
  rw [← opSem_eq pk nid o hρ ?_]
  ·exact h
  ·intro x hx t
   have hsub : ∀ id ∈ idT (opd T st t x), id ∈ o.op.operands.toList.flatMap fun | .tmp t => idT (st.get t) | _ => [] := by
    intro id hi
    rw [opd_ids] at hi
    exact List.mem_flatMap.2 ⟨x, hx, (by cases x <;> first | exact hi | cases hi)⟩
   have h0 : ∀ id, (⟨id, 0, 0⟩ : Pt) ∈ idsOf T st o → Ob.at st.objs id = Ob.at st'.objs id := fun id hi => by
    rcases hA.ob _ (hr _ hi) with h | ⟨h, _⟩
    ·exact h
    ·exact absurd rfl h
   refine ⟨fun id hi => h0 id ?_, fun id hi c hc j hj => h0 j ?_⟩
   ·rw [e]; exact List.mem_map.2 ⟨id, List.mem_append_left _ (hsub id hi), rfl⟩
   ·rw [e]; exact List.mem_map.2 ⟨j, List.mem_append_right _ (List.mem_flatMap.2 ⟨id, hsub id hi, by rw [hc]; exact hj⟩), rfl⟩
 by_cases hm : ∃ x, o.op = .move x
 ·obtain ⟨x, hx⟩ := hm
  have := hρ x (by rw [hx]; simp [Op.operands])
  unfold opSem at *
  rw [hx] at h ⊢
  simp only at h ⊢
  rw [← this]; exact h
 by_cases hl : ∃ t a, o.op = .load t (.tmp a)
 ·obtain ⟨t, a, ho⟩ := hl
  have hρa := hρ (.tmp a) (by rw [ho]; simp [Op.operands]) o.type
  simp only [opd] at hρa
  cases hT : T.ty t with
  | none => exact all (by unfold idsOf; rw [ho]; simp only [hT]; split <;> first | rfl | (rename_i e; cases e))
  | some ti =>
   by_cases hb : ∃ id off, st.get a = .c (.box id off)
   ·obtain ⟨id, off, hb⟩ := hb
    by_cases hz : ti.size = 0
    ·exact all (by unfold idsOf; rw [ho]; simp only [hT, hb, hz, if_true]; rfl)
    ·have hp : (⟨id, off, ti.size⟩ : Pt) ∈ ps := hr _ (by unfold idsOf; rw [ho]; simp only [hT, hb, if_neg hz]; exact List.mem_singleton.2 rfl)
     unfold opSem at h ⊢
     simp only [ho, hT, opd, loadC] at h ⊢
     rw [← hρa, hb]
     rw [hb] at h
     simp only at h ⊢
     rcases hA.ob _ hp with e | ⟨_, l, l', h1, h2, h3, h4⟩
     ·simp only at e
      rw [← e]; exact h
     ·simp only at h1 h2 h3 h4
      rw [h1] at h
      rw [h2]
      simp only at h ⊢
      rw [← giveC_take pk hz (take_eq h4)]
      exact h
   ·refine all ?_
    unfold idsOf
    rw [ho]
    simp only
    split
    ·rename_i id off _ h1 _; exact absurd ⟨id, off, h1⟩ hb
    ·rfl
 by_cases hst : ∃ t a x, o.op = .store t (.tmp a) x
 ·obtain ⟨t, a, x, ho⟩ := hst
  have hρa := hρ (.tmp a) (by rw [ho]; simp [Op.operands]) o.type
  have hρx := hρ x (by rw [ho]; simp [Op.operands]) t
  simp only [opd] at hρa
  cases hT : T.ty t with
  | none => exact all (by unfold idsOf; rw [ho]; simp only [hT]; split <;> first | rfl | (rename_i e; cases e))
  | some ti =>
   by_cases hb : ∃ id off, st.get a = .c (.box id off)
   ·obtain ⟨id, off, hb⟩ := hb
    have hids : Eqs st.objs st'.objs (idT (opd T st t x)) := fun i hi => by
     rw [opd_ids] at hi
     have : (⟨i, 0, 0⟩ : Pt) ∈ ps := hr _ (by
      unfold idsOf
      rw [ho]
      simp only [hT, hb]
      exact List.mem_map.2 ⟨i, (by cases x <;> first | exact hi | cases hi), rfl⟩)
     rcases hA.ob _ this with e | ⟨e, _⟩
     ·exact e
     ·exact absurd rfl e
    unfold opSem at h ⊢
    simp only [ho, hT] at h ⊢
    rw [← hρx]
    have e1 : opd T st o.type (.tmp a) = .c (.box id off) := hb
    have e2 : opd T st' o.type (.tmp a) = .c (.box id off) := by
     show st'.get a = _
     rw [← hρa, hb]
    rw [e1] at h
    rw [e2]
    have hns : ∀ x, nestS (.c (.box id off)) x = false := fun x => rfl
    simp only [hns, Bool.and_false, Bool.false_eq_true, if_false] at h ⊢
    unfold storeC at h ⊢
    rw [← cellsOf_eq hids]
    split at h
    ·rename_i vs hvs
     rw [← allAlive_eq (objs := st.objs) (objs' := st'.objs) (l := vs) (fun j hj => hids j (cellsOf_ids hvs j hj))]
     simp only
     split at h
     ·rename_i hc
      rw [if_pos hc]
      simp only at h
      split at h
      ·rename_i l hl
       split at h
       ·rename_i hle
        obtain ⟨rfl, rfl, rfl⟩ := pk_inj h
        have hp := hw (id, .cells off vs) (List.mem_singleton.2 rfl)
        rcases hA.ob _ hp with e | ⟨_, l1, l2, h1, h2, h3, _⟩
        ·simp only [wrOf] at e
         rw [← e, hl]
         simp only
         first | (rw [if_pos hle]; done) | (rw [if_pos hle]; exact h)
        ·simp only [wrOf] at h1 h2
         rw [hl] at h1
         injection h1 with h1
         subst h1
         rw [h2]
         simp only
         first | (rw [← h3, if_pos hle]; done) | (rw [← h3, if_pos hle]; exact h)
       ·cases h
      ·cases h
     ·cases h
    ·cases h
   ·refine all ?_
    unfold idsOf
    rw [ho]
    simp only
    split
    ·rename_i id off _ h1 _; exact absurd ⟨id, off, h1⟩ hb
    ·rfl
 ·refine all ?_
  unfold idsOf
  simp only
  split
  ·rename_i t a ho; exact absurd ⟨t, a, ho⟩ hl
  ·rename_i t a x ho; exact absurd ⟨t, a, x, ho⟩ hst
  ·rename_i x ho; exact absurd ⟨x, ho⟩ hm
  ·rfl
end Go.Proofs.YtgcioclfplafkaaGreatV
end
section
namespace Go.Proofs.YtgcioclfplafkaaGreatV
open Go Go.RowKit
def app (X : Nat → Bool) : Nat → List Oper → List Eff → St → St
 | i, o :: os, e :: es, st => app X (i + 1) os es (bif X i then st.upd o.dst e.v e.ups else st)
 | _, _, _, st => st
theorem app_congr {X Y : Nat → Bool} : ∀ {os : List Oper} {es : List Eff} {i : Nat} {st : St}, (∀ k, k < os.length → X (i + k) = Y (i + k)) → app X i os es st = app Y i os es st
 | [], _, _, _, _ => rfl
 | _ :: _, [], _, _, _ => rfl
 | o :: os, e :: es, i, st, h => by
  simp only [app]
  rw [show X i = Y i from h 0 (by simp)]
  exact app_congr (fun k hk => by rw [Nat.add_right_comm]; exact h (k + 1) (by simpa using hk))
theorem app_false {X : Nat → Bool} : ∀ {os : List Oper} {es : List Eff} {i : Nat} {st : St}, (∀ k, k < os.length → X (i + k) = false) → app X i os es st = st
 | [], _, _, _, _ => rfl
 | _ :: _, [], _, _, _ => rfl
 | o :: os, e :: es, i, st, h => by
  simp only [app]
  rw [show X i = false from h 0 (by simp), cond_false]
  exact app_false (fun k hk => by rw [Nat.add_right_comm]; exact h (k + 1) (by simpa using hk))
theorem agree_app {X Y : Nat → Bool} {L : List Nat} {ps : List Pt} : ∀ {os : List Oper} {es : List Eff} {i : Nat} {st st' : St}, Agree L ps st st' →
  (∀ k o e, os[k]? = some o → es[k]? = some e → X (i + k) = Y (i + k) ∨ ((∀ t, o.dst = some t → t ∉ L) ∧ ∀ m ∈ e.ups, ∀ p ∈ ps, (wrOf m).meets p = false)) → Agree L ps (app X i os es st) (app Y i os es st')
 | [], _, _, _, _, h, _ => h
 | _ :: _, [], _, _, _, h, _ => h
 | o :: os, e :: es, i, st, st', h, hk => by
  simp only [app]
  refine agree_app ?_ (fun k o' e' h1 h2 => by rw [Nat.add_right_comm]; exact hk (k + 1) o' e' (by simpa using h1) (by simpa using h2))
  rcases hk 0 o e rfl rfl with h0 | ⟨hd, hu⟩
  ·rw [show X i = Y i from h0]
   cases Y i
   ·exact h
   ·exact agree_both h _ _ _
  ·cases X i <;> cases Y i <;> simp only [cond_true, cond_false]
   ·exact h
   ·exact (agree_one h.symm _ _ _ hd hu).symm
   ·exact agree_one h _ _ _ hd hu
   ·exact agree_both h _ _ _
def Apt (o : Oper) (e : Eff) (o' : Oper) (e' : Eff) : Prop := (∀ t, o.dst = some t → o'.dst ≠ some t) ∧ ∀ m ∈ e.ups, ∀ n ∈ e'.ups, (wrOf m).meets (wrOf n) = false
theorem app_upd {X : Nat → Bool} {oj : Oper} {ej : Eff} : ∀ {os : List Oper} {es : List Eff} {i : Nat} {st : St}, (∀ k o e, os[k]? = some o → es[k]? = some e → X (i + k) = true → Apt oj ej o e) →
  app X i os es (st.upd oj.dst ej.v ej.ups) = (app X i os es st).upd oj.dst ej.v ej.ups
 | [], _, _, _, _ => rfl
 | _ :: _, [], _, _, _ => rfl
 | o :: os, e :: es, i, st, h => by
  simp only [app]
  have ih := fun st => app_upd (X := X) (oj := oj) (ej := ej) (os := os) (es := es) (i := i + 1) (st := st) (fun k o' e' h1 h2 => by rw [Nat.add_right_comm]; exact h (k + 1) o' e' (by simpa using h1) (by simpa using h2))
  cases hX : X i
  ·simp only [cond_false]; exact ih _
  ·simp only [cond_true]
   obtain ⟨h1, h2⟩ := h 0 o e rfl rfl hX
   rw [upd_comm st ej.v e.v h1 h2]
   exact ih _
theorem app_ins {X Y : Nat → Bool} {oj : Oper} {ej : Eff} : ∀ {os : List Oper} {es : List Eff} {i j : Nat} {st : St}, os[j]? = some oj → es[j]? = some ej → X (i + j) = false → Y (i + j) = true → (∀ k, k ≠ j → Y (i + k) = X (i + k)) →
  (∀ k o e, os[k]? = some o → es[k]? = some e → j < k → X (i + k) = true → Apt oj ej o e) → app Y i os es st = (app X i os es st).upd oj.dst ej.v ej.ups
 | [], _, _, _, _, h, _, _, _, _, _ => by simp at h
 | _ :: _, [], _, _, _, _, h, _, _, _, _ => by simp at h
 | o :: os, e :: es, i, 0, st, h1, h2, hX, hY, hXY, hc => by
  simp only [List.getElem?_cons_zero, Option.some.injEq] at h1 h2
  subst h1 h2
  simp only [app]
  rw [show X i = false from hX, show Y i = true from hY, cond_true, cond_false]
  rw [app_congr (X := Y) (Y := X) (fun k hk => by rw [Nat.add_right_comm]; exact hXY (k + 1) (by omega))]
  exact app_upd (fun k o' e' h1 h2 => by rw [Nat.add_right_comm]; exact hc (k + 1) o' e' (by simpa using h1) (by simpa using h2) (by omega))
 | o :: os, e :: es, i, j + 1, st, h1, h2, hX, hY, hXY, hc => by
  simp only [app]
  rw [show Y i = X i from hXY 0 (by omega)]
  refine app_ins (j := j) (by simpa using h1) (by simpa using h2) (by rw [Nat.add_right_comm]; exact hX) (by rw [Nat.add_right_comm]; exact hY) (fun k hk => by rw [Nat.add_right_comm]; exact hXY (k + 1) (by omega)) (fun k o' e' h1 h2 h3 => by rw [Nat.add_right_comm]; exact hc (k + 1) o' e' (by simpa using h1) (by simpa using h2) (by omega))
section
variable {T : Tab} {ops : Array Oper} {M : Array Nat} {lo n0 : Nat} {R : Type}
theorem evD_cons (hL : LeafCall T) (i : Nat) (o : Oper) (rest : List Oper) (acc : List Seen) (st : St) (K : St → Option R) {r : R} (h : evD T lo ops M n0 i (o :: rest) acc st K = some r) :
  ∃ e, stepE T lo n0 ops i o st = some e ∧ seenOk ops M ⟨o, i, e.rd, e.wr⟩ acc = true ∧ evD T lo ops M n0 (i + 1) rest (acc ++ [⟨o, i, e.rd, e.wr⟩]) (st.upd o.dst e.v e.ups) K = some r := by
 simp only [evD] at h
 unfold stepE
 rcases askG_iff h with ⟨h1, h2⟩ | ⟨h1, h2⟩
 ·rw [h2]
  rw [opSem_k _ _ hL] at h1
  cases hp : opSem T st (n0 + 8 * i) o pk with
  | none => rw [hp] at h1; cases h1
  | some p =>
   obtain ⟨v, new, mods⟩ := p
   rw [hp] at h1
   simp only [Option.bind_some, kk] at h1 ⊢
   split at h1
   ·rename_i hc
    simp only [Bool.and_eq_true] at hc
    rw [if_pos (by simp only [Bool.and_eq_true]; exact ⟨hc.1, hc.2.1, hc.2.2.1, hc.2.2.2.1⟩)]
    exact ⟨_, rfl, hc.2.2.2.2, h1⟩
   ·cases h1
 ·rw [h2]
  split at h1
  ·rename_i hc
   exact ⟨_, rfl, hc, h1⟩
  ·cases h1
def PairOk (ops : Array Oper) (M : Array Nat) (i : Nat) (o : Oper) (e : Eff) (j : Nat) (o' : Oper) (e' : Eff) : Prop :=
 (M.getD j 0).testBit i = true ∨ Seen.apart ops ⟨o, i, e.rd, e.wr⟩ ⟨o', j, e'.rd, e'.wr⟩ = true
theorem evD_run (hL : LeafCall T) {K : St → Option R} {r : R} : ∀ {rest : List Oper} {i : Nat} {acc : List Seen} {st : St}, evD T lo ops M n0 i rest acc st K = some r →
  ∃ es : List Eff, es.length = rest.length ∧ K (app (fun _ => true) i rest es st) = some r ∧
   ∀ k o e, rest[k]? = some o → es[k]? = some e → stepE T lo n0 ops (i + k) o (app (fun x => decide (x < i + k)) i rest es st) = some e ∧
    (∀ y ∈ acc, (M.getD (i + k) 0).testBit y.i = true ∨ y.apart ops ⟨o, i + k, e.rd, e.wr⟩ = true) ∧
    ∀ k' o' e', k' < k → rest[k']? = some o' → es[k']? = some e' → PairOk ops M (i + k') o' e' (i + k) o e
 | [], i, acc, st, h => ⟨[], rfl, h, fun k o e h1 => by simp at h1⟩
 | o :: rest, i, acc, st, h => by
  obtain ⟨e, h1, h2, h3⟩ := evD_cons hL i o rest acc st K h
  obtain ⟨es, h4, h5, h6⟩ := evD_run hL h3
  refine ⟨e :: es, by simp [h4], by simpa only [app, cond_true] using h5, fun k => ?_⟩
  cases k with
  | zero =>
   intro o1 e1 g1 g2
   simp only [List.getElem?_cons_zero, Option.some.injEq] at g1 g2
   subst g1 g2
   refine ⟨?_, ?_, fun k' _ _ hk => by omega⟩
   ·simp only [app, Nat.add_zero, Nat.lt_irrefl, decide_false, cond_false]
    rw [app_false (fun k hk => decide_eq_false (by omega))]
    exact h1
   ·unfold seenOk at h2
    rw [List.all_eq_true] at h2
    intro y hy
    have := h2 y hy
    rwa [Bool.or_eq_true] at this
  | succ k =>
   intro o1 e1 g1 g2
   simp only [List.getElem?_cons_succ] at g1 g2
   obtain ⟨a1, a2, a3⟩ := h6 k o1 e1 g1 g2
   rw [Nat.add_right_comm] at a1 a2 a3
   refine ⟨?_, fun y hy => a2 y (by simp [hy]), fun k' o' e' hk q1 q2 => ?_⟩
   ·simp only [app]
    rw [decide_eq_true (show i < i + (k + 1) by omega), cond_true]
    exact a1
   ·cases k' with
    | zero =>
     simp only [List.getElem?_cons_zero, Option.some.injEq] at q1 q2
     subst q1 q2
     exact a2 ⟨o, i, e.rd, e.wr⟩ (by simp)
    | succ k' =>
     have := a3 k' o' e' (by omega) (by simpa using q1) (by simpa using q2)
     rw [Nat.add_right_comm] at this
     exact this
theorem apart_pts {o o' : Oper} {i j : Nat} {e e' : Eff} (h : Seen.apart ops ⟨o, i, e.rd, e.wr⟩ ⟨o', j, e'.rd, e'.wr⟩ = true) :
  (∀ t, o.dst = some t → t ∉ o'.looksAt ops) ∧ (∀ t, o'.dst = some t → t ∉ o.looksAt ops) ∧ (∀ t, o.dst = some t → o'.dst ≠ some t) ∧ (∀ m ∈ e.ups, ∀ p ∈ e'.rd ++ e'.wr, (wrOf m).meets p = false) ∧ (∀ m ∈ e'.ups, ∀ p ∈ e.rd ++ e.wr, (wrOf m).meets p = false) := by
 unfold Seen.apart at h
 simp only [Bool.and_eq_true] at h
 obtain ⟨⟨⟨⟨h1, h2⟩, h3⟩, h4⟩, h5⟩ := h
 obtain ⟨a1, a2, a3⟩ := Oper.apart_spec h1
 have dj : ∀ {a b : List Pt}, disj a b = true → ∀ x ∈ a, ∀ y ∈ b, x.meets y = false := fun {a b} h x hx y hy => by
  unfold disj at h
  rw [List.all_eq_true] at h
  have := h x hx
  rw [List.all_eq_true] at this
  have := this y hy
  simpa using this
 refine ⟨a1, a3, a2, fun m hm p hp => ?_, fun m hm p hp => ?_⟩
 ·rcases List.mem_append.1 hp with hp | hp
  ·exact dj h3 _ (List.mem_map_of_mem hm) _ hp
  ·exact dj h4 _ (List.mem_map_of_mem hm) _ hp
 ·rcases List.mem_append.1 hp with hp | hp
  ·exact dj h5 _ (List.mem_map_of_mem hm) _ hp
  ·exact meets_comm (dj h4 _ hp _ (List.mem_map_of_mem hm))
end
end Go.Proofs.YtgcioclfplafkaaGreatV
end
section
namespace Go.Proofs.YtgcioclfplafkaaGreatV
open Go Go.RowKit
section
variable {P : Program} {T : Tab} {W : List Gh} {w0 : World} {ops : Array Oper} {lo n0 : Nat} {M : Array Nat}
theorem unborn_at {objs : List Ob} {n : Nat} : ∀ {k : Nat}, unbornAt objs n k = true → ∀ i, i < k → Ob.at objs (n + i) = .unborn
 | 0, _, _, h => by omega
 | k + 1, h, i, hi => by
  simp only [unbornAt, Bool.and_eq_true] at h
  by_cases e : i = k
  ·subst e
   have := h.1
   split at this
   ·assumption
   ·cases this
  ·exact unborn_at h.2 i (by omega)
theorem gh_unborn {w : World} {S : Nat → Prop} {h : List Gh} : ∀ {objs : List Ob} {g : List Gh} {i : Nat}, ObsOK w S h objs g → Ob.at objs i = .unborn → g[i]? = some .unborn
 | [], _, i, _, e => by simp [Ob.at] at e
 | o :: objs, [], i, h, _ => h.elim
 | o :: objs, x :: g, 0, h, e => by
  simp [Ob.at] at e
  subst e
  have h1 := h.1
  cases x <;> first | rfl | exact h1.elim
 | o :: objs, x :: g, i + 1, h, e => by
  rw [List.getElem?_cons_succ]
  exact gh_unborn h.2 (by simpa [Ob.at] using e)
theorem step_world (hT : TabFn P T) {i : Nat} {o : Oper} (ho : ops[i]? = some o) {st st' : St} {e : Eff} (h : stepE T lo n0 ops i o st = some e) (hA : Agree (o.looksAt ops) (e.rd ++ e.wr) st st')
  {g : List Gh} {a : Act} {w : World} (hR : RelG W w0 g st' a w) (hnp : NPS T W st') {K : Act → World → Prop} {Q : Exit → Act → World → Prop} (hK : ∀ u w' g', RelG W w0 g' (st'.upd o.dst e.v e.ups) (a.put o.dst u) w' → K (a.put o.dst u) w') :
  wpOp P ops Q i K a w := by
 unfold wpOp
 simp only [ho]
 unfold stepE at h
 rcases askG_iff h with ⟨h1, h2⟩ | ⟨h1, h2⟩
 ·cases hp : opSem T st (n0 + 8 * i) o pk with
  | none => rw [hp] at h1; cases h1
  | some p =>
   obtain ⟨v, new, mods⟩ := p
   rw [hp] at h1
   simp only [Option.bind_some] at h1
   split at h1
   ·rename_i hc
    simp only [Bool.and_eq_true, decide_eq_true_eq] at hc
    injection h1 with h1
    subst h1
    have hask : askG ops st' o (fun _ => some true) (fun _ => some false) = some true := by
     rw [← askG_trans hA.tm (some true) (some false), h2]
    rcases askG_ok hR hask with ⟨hw, _⟩ | ⟨hw, _, _, _, hn⟩
    ·rw [hw]
     simp only [if_true]
     left
     have hop := opSem_agree (st' := st') hp hA (fun t ht => List.mem_append_left _ (List.mem_filterMap.2 ⟨.tmp t, by simpa using ht, rfl⟩)) (fun p hp => List.mem_append_left _ hp) (fun m hm => List.mem_append_right _ (List.mem_map_of_mem (List.mem_append_left _ hm)))
     refine step_ok hT hR hnp (fun k hk => gh_unborn hR.ob ?_) hop K Q (fun u w' g' hg => hK u w' g' hg)
     have h3 := unborn_at hc.2.1 k hk
     have : (⟨n0 + 8 * i + k, 0, 0⟩ : Pt) ∈ idsOf T st o ++ (upsOf (n0 + 8 * i) mods new).map wrOf := by
      refine List.mem_append_right _ (List.mem_map.2 ⟨(n0 + 8 * i + k, .ob new[k]), List.mem_append_right _ ?_, rfl⟩)
      refine List.mem_map.2 ⟨(n0 + 8 * i + k, new[k]), ?_, rfl⟩
      have : ∀ (l : List Ob) (n k : Nat) (h : k < l.length), (n + k, l[k]) ∈ numb n l := by
       intro l
       induction l with
       | nil => intro n k h; simp at h
       | cons x l ih =>
        intro n k h
        cases k with
        | zero => simp [numb]
        | succ k =>
         have := ih (n + 1) k (by simpa using h)
         rw [Nat.add_right_comm, Nat.add_assoc] at this
         simp only [numb, List.getElem_cons_succ, List.mem_cons]
         exact .inr this
      exact this new _ k hk
     rcases hA.ob _ this with e | ⟨e, _⟩
     ·rw [← e]; exact h3
     ·exact absurd rfl e
    ·cases hn
   ·cases h1
 ·injection h1 with h1
  subst h1
  have hask : askG ops st' o (fun _ => some true) (fun _ => some false) = some false := by
   rw [← askG_trans hA.tm (some true) (some false), h2]
  rcases askG_ok hR hask with ⟨hw, _, _, _, hn⟩ | ⟨hw, _⟩
  ·cases hn
  ·rw [hw]
   simp only [Bool.false_eq_true, if_false]
   refine hK undef w g ?_
   have := rel_skip hR o.dst
   exact this
structure Lst (ops : Array Oper) (M : Array Nat) (listed : Array Bool) : Prop where
 size : listed.size = ops.size
 down : ∀ i, i < ops.size → listed.getD i true = true → ∀ k, k < ops.size → (M.getD i 0).testBit k = true → listed.getD k true = true
theorem getD_tt {listed : Array Bool} {i : Nat} (h : i < listed.size) : listed.getD i true = listed.getD i false := by simp [h]
theorem getD_lt {listed : Array Bool} {i : Nat} (h : listed.getD i false = true) : i < listed.size := by
 rcases Nat.lt_or_ge i listed.size with h' | h'
 ·exact h'
 ·simp [h'] at h
theorem stepE_np {i : Nat} {o : Oper} {st : St} {e : Eff} (hT : T.np = true) (h : stepE T lo n0 ops i o st = some e) : npT e.v = true ∧ (e.ups.all fun m => npM m.2) = true := by
 unfold stepE at h
 rcases askG_iff h with ⟨h1, _⟩ | ⟨h1, _⟩
 ·cases hp : opSem T st (n0 + 8 * i) o pk with
  | none => rw [hp] at h1; cases h1
  | some p =>
   obtain ⟨v, new, mods⟩ := p
   rw [hp] at h1
   simp only [Option.bind_some] at h1
   split at h1
   ·rename_i hc
    simp only [Bool.and_eq_true] at hc
    injection h1 with h1
    subst h1
    obtain ⟨h2, _, _, h3⟩ := np_ups (nid := n0 + 8 * i) hT hc.2.2.2
    exact ⟨h2, h3⟩
   ·cases h1
 ·injection h1 with h1
  subst h1
  exact ⟨rfl, rfl⟩
theorem np_app {X : Nat → Bool} : ∀ {os : List Oper} {es : List Eff} {i : Nat} {st : St}, npSt st = true → (∀ e ∈ es, npT e.v = true ∧ (e.ups.all fun m => npM m.2) = true) → npSt (app X i os es st) = true
 | [], _, _, _, h, _ => h
 | _ :: _, [], _, _, h, _ => h
 | o :: os, e :: es, i, st, h, he => by
  simp only [app]
  refine np_app ?_ (fun e' he' => he e' (by simp [he']))
  cases X i
  ·exact h
  ·exact np_upd h (he e (by simp)).1 (he e (by simp)).2
theorem any_ok (hT : TabFn P T) {st0 : St} (hnp : NPS T W st0) {es : List Eff} (hlen : es.length = ops.size) (hM : maskOk ops M = true) (hon : ∀ j o, ops[j]? = some o → ∀ e ∈ o.after, Region.binds .any e = true → e.on < j)
  (htr : ∀ k o e, ops[k]? = some o → es[k]? = some e → stepE T lo n0 ops k o (app (fun x => decide (x < k)) 0 ops.toList es st0) = some e ∧ ∀ k' o' e', k' < k → ops[k']? = some o' → es[k']? = some e' → PairOk ops M k' o' e' k o e)
  {Q : Exit → Act → World → Prop} (hQ : ∀ a w, RelN T W w0 (app (fun _ => true) 0 ops.toList es st0) a w → Q .normal a w) :
  ∀ (fuel : Nat) (listed : Array Bool) (g : List Gh) (a : Act) (w : World), listed.toList.countP (fun b => !b) ≤ fuel → Lst ops M listed → RelG W w0 g (app (fun i => listed.getD i true) 0 ops.toList es st0) a w → wpAny P .any ops Q fuel listed a w := by
 have hnpX : ∀ X, NPS T W (app X 0 ops.toList es st0) := fun X hn => ⟨np_app (hnp hn).1 (fun e he => by
  obtain ⟨k, hk, e1⟩ := List.getElem_of_mem he
  have hk2 : k < ops.size := by omega
  exact stepE_np hn (htr k ops[k] e (Array.getElem?_eq_getElem hk2) (by rw [List.getElem?_eq_getElem hk, e1])).1), (hnp hn).2⟩
 have hnone : ∀ (listed : Array Bool) (g : List Gh) (a : Act) (w : World), Lst ops M listed → RelG W w0 g (app (fun i => listed.getD i true) 0 ops.toList es st0) a w → Region.ready .any ops listed = [] → Q .normal a w := by
  intro listed g a w hl hR hr
  have hall : ∀ j, j < ops.size → listed.getD j true = true := by
   intro j
   induction j using Nat.strongRecOn with
   | ind j ih =>
    intro hj
    cases hb : listed.getD j true with
    | true => rfl
    | false =>
     exfalso
     have : j ∈ Region.ready .any ops listed := mem_ready.2 ⟨hb, ops[j], Array.getElem?_eq_getElem hj, fun e he hbd => by
      have hlt := hon j _ (Array.getElem?_eq_getElem hj) e he hbd
      have := ih e.on hlt (by omega)
      rw [← getD_tt (by rw [hl.size]; omega)]
      exact this⟩
     rw [hr] at this
     cases this
  refine hQ a w ⟨⟨g, ?_⟩, hnpX _⟩
  rw [app_congr (X := fun _ => true) (Y := fun i => listed.getD i true) (fun k hk => by rw [Nat.zero_add]; exact (hall k (by simpa using hk)).symm)]
  exact hR
 intro fuel
 induction fuel with
 | zero =>
  intro listed g a w hc hl hR
  have hr : Region.ready .any ops listed = [] := by
   cases hr : Region.ready .any ops listed with
   | nil => rfl
   | cons j l =>
    have hj : j ∈ Region.ready .any ops listed := by rw [hr]; simp
    obtain ⟨h0, o, ho, _⟩ := mem_ready.1 hj
    have hlt : j < listed.size := by rw [hl.size]; exact (Array.getElem?_eq_some_iff.1 ho).1
    have hz : listed.toList.countP (fun b => !b) = 0 := by omega
    rw [List.countP_eq_zero] at hz
    have := hz listed[j] (by simp)
    simp [hlt] at h0
    rw [h0] at this
    simp at this
  exact ⟨hr, hnone listed g a w hl hR hr⟩
 | succ fuel ih =>
  intro listed g a w hc hl hR
  refine ⟨hnone listed g a w hl hR, fun j hj => ?_⟩
  obtain ⟨h0, o, ho, hall⟩ := mem_ready.1 hj
  have hjo : j < ops.size := (Array.getElem?_eq_some_iff.1 ho).1
  have hjl : j < listed.size := by rw [hl.size]; exact hjo
  have hpre : ∀ k, k < ops.size → (M.getD j 0).testBit k = true → listed.getD k true = true := by
   intro k hk hb
   unfold maskOk at hM
   rw [List.all_eq_true] at hM
   have h1 := hM j (List.mem_range.2 hjo)
   rw [List.all_eq_true] at h1
   have h2 := h1 k (List.mem_range.2 hk)
   simp only [hb, Bool.not_true, Bool.false_or, ho] at h2
   rw [List.any_eq_true] at h2
   obtain ⟨e, he, h3⟩ := h2
   rw [Bool.and_eq_true, Bool.or_eq_true, beq_iff_eq] at h3
   have h4 := hall e (by simpa using he) h3.1
   have h5 := getD_lt h4
   rcases h3.2 with h6 | h6
   ·rw [← h6, getD_tt h5]; exact h4
   ·exact hl.down e.on (by rw [← hl.size]; exact h5) (by rw [getD_tt h5]; exact h4) k hk h6
  obtain ⟨e, hee⟩ : ∃ e, es[j]? = some e := ⟨es[j]'(by omega), List.getElem?_eq_getElem (by omega)⟩
  obtain ⟨hst, hpair⟩ := htr j o e ho hee
  have hol : ∀ (k : Nat) (o : Oper), ops.toList[k]? = some o → ops[k]? = some o := fun k o h => by rw [← Array.getElem?_toList]; exact h
  have hlol : ∀ (k : Nat) (o : Oper), ops[k]? = some o → ops.toList[k]? = some o := fun k o h => by rw [Array.getElem?_toList]; exact h
  have hA : Agree (o.looksAt ops) (e.rd ++ e.wr) (app (fun x => decide (x < j)) 0 ops.toList es st0) (app (fun i => listed.getD i true) 0 ops.toList es st0) := by
   refine agree_app (Agree.refl ..) (fun k o' e' q1 q2 => ?_)
   rw [Nat.zero_add]
   have q1 := hol k o' q1
   have hko : k < ops.size := (Array.getElem?_eq_some_iff.1 q1).1
   rcases Nat.lt_trichotomy k j with hk | hk | hk
   ·rcases hpair k o' e' hk q1 q2 with hb | hb
    ·left; rw [decide_eq_true hk, hpre k hko hb]
    ·right
     obtain ⟨b1, b2, b3, b4, b5⟩ := apart_pts hb
     exact ⟨b1, b4⟩
   ·subst hk
    left; rw [decide_eq_false (by omega), h0]
   ·cases hx : listed.getD k true with
    | false => left; rw [decide_eq_false (by omega)]
    | true =>
     right
     rcases (htr k o' e' q1 q2).2 j o e hk ho hee with hb | hb
     ·have := hl.down k hko hx j hjo hb
      rw [h0] at this
      cases this
     ·obtain ⟨b1, b2, b3, b4, b5⟩ := apart_pts hb
      exact ⟨b2, b5⟩
  refine step_world hT ho hst hA hR (hnpX _) (fun u w' g' hg => ?_)
  have hX : ∀ k, k ≠ j → (listed.setIfInBounds j true).getD k true = listed.getD k true := fun k hk => getD_set_ne true (Ne.symm hk)
  have hXj : (listed.setIfInBounds j true).getD j true = true := by simp [hjl]
  refine ih _ g' _ w' ?_ ⟨by simp [hl.size], fun i hi h1 k hk hb => ?_⟩ ?_
  ·rw [Array.toList_setIfInBounds]
   have h1 : listed.toList.countP (fun b => !b) = (listed.toList.set j true).countP (fun b => !b) + 1 := by
    have hjl' : j < listed.toList.length := by simpa using hjl
    have e1 : listed.toList[j] = false := by simp [hjl] at h0; simpa using h0
    have key : ∀ (l : List Bool) (j : Nat) (h : j < l.length), l[j] = false → l.countP (fun b => !b) = (l.set j true).countP (fun b => !b) + 1 := by
     intro l
     induction l with
     | nil => intro j h; simp at h
     | cons x l ih =>
      intro j h e
      cases j with
      | zero =>
       simp only [List.getElem_cons_zero] at e
       subst e
       simp [List.countP_cons]
      | succ j =>
       have := ih j (by simpa using h) (by simpa using e)
       simp only [List.set_cons_succ, List.countP_cons]
       omega
    exact key _ j hjl' e1
   omega
  ·by_cases hij : i = j
   ·subst hij
    by_cases hkj : k = i
    ·rw [hkj]; exact hXj
    ·rw [hX k hkj]; exact hpre k hk hb
   ·rw [hX i hij] at h1
    have := hl.down i hi h1 k hk hb
    by_cases hkj : k = j
    ·rw [hkj]; exact hXj
    ·rw [hX k hkj]; exact this
  ·rw [app_ins (X := fun i => listed.getD i true) (Y := fun i => (listed.setIfInBounds j true).getD i true) (j := j) (hlol j o ho) hee (by rw [Nat.zero_add]; exact h0) (by rw [Nat.zero_add]; exact hXj) (fun k hk => by rw [Nat.zero_add]; exact hX k hk) ?_]
   ·exact hg
   ·intro k o' e' q1 q2 hk hx
    rw [Nat.zero_add] at hx
    have q1 := hol k o' q1
    have hko : k < ops.size := (Array.getElem?_eq_some_iff.1 q1).1
    rcases (htr k o' e' q1 q2).2 j o e hk ho hee with hb | hb
    ·have := hl.down k hko hx j hjo hb
     rw [h0] at this
     cases this
    ·obtain ⟨b1, b2, b3, b4, b5⟩ := apart_pts hb
     exact ⟨b3, fun m hm n hn => b4 m hm _ (List.mem_append_right _ (List.mem_map_of_mem hn))⟩
end
end Go.Proofs.YtgcioclfplafkaaGreatV
end
section
namespace Go.Proofs.YtgcioclfplafkaaGreatV
open Go Go.RowKit
theorem putBack_length {α : Type} : ∀ (sel : List Nat) (L l : List α), (putBack L sel l).length = L.length
 | [], L, l => by cases l <;> rfl
 | _ :: _, _, [] => rfl
 | i :: sel, L, x :: l => by
  show (putBack (L.set i x) sel l).length = _
  rw [putBack_length sel]; simp
theorem putBack_not {α : Type} {i : Nat} : ∀ (sel : List Nat) (L l : List α), i ∉ sel → (putBack L sel l)[i]? = L[i]?
 | [], L, l, _ => by cases l <;> rfl
 | _ :: _, _, [], _ => rfl
 | j :: sel, L, x :: l, h => by
  simp only [List.mem_cons, not_or] at h
  show (putBack (L.set j x) sel l)[i]? = _
  rw [putBack_not sel _ _ h.2, List.getElem?_set_ne (Ne.symm h.1)]
theorem putBack_mem {α : Type} {i k : Nat} {x : α} : ∀ (sel : List Nat) (L l : List α), sel.Nodup → sel[k]? = some i → l[k]? = some x → i < L.length → (putBack L sel l)[i]? = some x
 | [], _, _, _, h, _, _ => by simp at h
 | _ :: _, _, [], _, _, h, _ => by simp at h
 | j :: sel, L, y :: l, hn, h1, h2, hl => by
  rw [List.nodup_cons] at hn
  show (putBack (L.set j y) sel l)[i]? = _
  cases k with
  | zero =>
   simp only [List.getElem?_cons_zero, Option.some.injEq] at h1 h2
   subst h1; subst h2
   rw [putBack_not sel _ _ hn.1, List.getElem?_set_self hl]
  | succ k => exact putBack_mem sel _ _ hn.2 (by simpa using h1) (by simpa using h2) (by simpa using hl)
theorem allB_nodup_of : ∀ {g : List Gh}, (∀ (i : Nat) (x : Gh), g[i]? = some x → x.blocks.Nodup) → (∀ (i j : Nat) (x y : Gh), i < j → g[i]? = some x → g[j]? = some y → ∀ b ∈ x.blocks, b ∉ y.blocks) → (allB g).Nodup
 | [], _, _ => by simp [allB]
 | x :: g, h1, h2 => by
  have : allB (x :: g) = x.blocks ++ allB g := by simp [allB]
  rw [this, List.nodup_append]
  refine ⟨h1 0 x rfl, allB_nodup_of (fun i y h => h1 (i + 1) y (by simpa using h)) (fun i j y z hij hi hj => h2 (i + 1) (j + 1) y z (by omega) (by simpa using hi) (by simpa using hj)), fun p hp q hq e => ?_⟩
  subst e
  obtain ⟨y, hy, hb⟩ := mem_allB.1 hq
  obtain ⟨j, hj, e⟩ := List.getElem_of_mem hy
  exact h2 0 (j + 1) x y (by omega) rfl (by simp [List.getElem?_eq_getElem hj, e]) p hp hb
def Gh.seen : Gh → Prop
 | .hid _ | .unborn => False
 | _ => True
section
variable {w : World} {S S' : Nat → Prop} {g2 G : List Gh} {f : Nat → Nat}
def MvOK (g2 : List Gh) (f : Nat → Nat) (G : List Gh) : Prop := ∀ (k : Nat) (x : Gh), g2[k]? = some x → x.seen → G[f k]? = some x
theorem mvC_rep (hS : ∀ b, S b → S' b) (hf : MvOK g2 f G) {v : CV} {u : Value} (h : RepC w S g2 v u) : RepC w S' G (mvC f v) u := by
 cases v <;> simp only [mvC]
 case fz r xs => exact FzC_up hS h
 case ref id =>
  cases hg : g2[id]? with
  | none => simp [RepC, hg] at h
  | some x => cases x <;> first | (simp only [RepC, hf id _ hg trivial]; done) | (simp only [RepC, hf id _ hg trivial]; simpa only [RepC, hg] using h) | (exfalso; simp [RepC, hg] at h; done)
 case sub id lo hi =>
  cases hg : g2[id]? with
  | none => simp [RepC, hg] at h
  | some x => cases x <;> first | (simp only [RepC, hf id _ hg trivial]; done) | (simp only [RepC, hf id _ hg trivial]; simpa only [RepC, hg] using h) | (exfalso; simp [RepC, hg] at h; done)
 case pref id i j =>
  cases hg : g2[id]? with
  | none => simp [RepC, hg] at h
  | some x => cases x <;> first | (simp only [RepC, hf id _ hg trivial]; done) | (simp only [RepC, hf id _ hg trivial]; simpa only [RepC, hg] using h) | (exfalso; simp [RepC, hg] at h; done)
 case psub id i j lo hi =>
  cases hg : g2[id]? with
  | none => simp [RepC, hg] at h
  | some x => cases x <;> first | (simp only [RepC, hf id _ hg trivial]; done) | (simp only [RepC, hf id _ hg trivial]; simpa only [RepC, hg] using h) | (exfalso; simp [RepC, hg] at h; done)
 case box id off =>
  cases hg : g2[id]? with
  | none => simp [RepC, hg] at h
  | some x => cases x <;> first | (simp only [RepC, hf id _ hg trivial]; done) | (simp only [RepC, hf id _ hg trivial]; simpa only [RepC, hg] using h) | (exfalso; simp [RepC, hg] at h; done)
 all_goals exact h
theorem mvAt_rep (hS : ∀ b, S b → S' b) (hf : MvOK g2 f G) : ∀ {l : List CV} {cs : Array Value} {o : Nat}, RepAt w S g2 l cs o → RepAt w S' G (l.map (mvC f)) cs o
 | [], _, _, _ => trivial
 | _ :: _, _, _, h => by
  obtain ⟨⟨u, h1, h2⟩, h3⟩ := h
  exact ⟨⟨u, h1, mvC_rep hS hf h2⟩, mvAt_rep hS hf h3⟩
theorem mvT_rep (hS : ∀ b, S b → S' b) (hf : MvOK g2 f G) {v : TV} {u : Value} (h : RepT w S g2 v u) : RepT w S' G (mvT f v) u := by
 cases v with
 | c v => exact mvC_rep hS hf h
 | tup l =>
  cases l with
  | nil =>
   obtain ⟨us, h1, h2⟩ := h
   refine ⟨us, h1, ?_⟩
   cases us with
   | nil => trivial
   | cons _ _ => exact h2.elim
  | cons _ _ => trivial
 | _ => trivial
theorem mvO_rep (hS : ∀ b, S b → S' b) (hf : MvOK g2 f G) {o : Ob} {x : Gh} (h : ObOK w S g2 o x) : ObOK w S' G (mvO f o) x := by
 cases o <;> cases x <;> simp only [mvO] <;> try exact h
 obtain ⟨cells, t, h1, h2, h3⟩ := h
 exact ⟨cells, t, h1, by rw [List.length_map]; exact h2, mvAt_rep hS hf h3⟩
end
def hidOf (w : World) (g G : List Gh) : List (Nat × Option Obj) := ((allB g).filter fun b => !(allB G).contains b).map fun b => (b, w.heap[b]?)
def handG (w : World) (g : List Gh) (sl : List Nat) : List Gh := .hid (hidOf w g (selG g sl)) :: selG g sl
section
variable {P : Program} {T : Tab} {W : List Gh} {w0 w w' : World} {g g2 : List Gh} {st : St} {a : Act} {sl : List Nat}
theorem hid_blocks (w : World) (g G : List Gh) : (Gh.hid (hidOf w g G)).blocks = (allB g).filter fun b => !(allB G).contains b := by
 simp only [Gh.blocks, hidOf, List.map_map]
 conv => rhs; rw [← List.map_id ((allB g).filter _)]
 rfl
theorem hand_sub {b : Nat} (h : b ∈ allB (handG w g sl)) : b ∈ allB g := by
 have : allB (handG w g sl) = (Gh.hid (hidOf w g (selG g sl))).blocks ++ allB (selG g sl) := by simp [handG, allB]
 rw [this, List.mem_append, hid_blocks] at h
 rcases h with h | h
 ·exact (List.mem_filter.1 h).1
 ·obtain ⟨id, _, x, h1, h2⟩ := selB_mem h
  exact allB_mem h1 h2
theorem hand_nodup (hn : (allB g).Nodup) (hs : sl.Nodup) : (allB (handG w g sl)).Nodup := by
 have : allB (handG w g sl) = (Gh.hid (hidOf w g (selG g sl))).blocks ++ allB (selG g sl) := by simp [handG, allB]
 rw [this, hid_blocks, List.nodup_append]
 refine ⟨hn.sublist List.filter_sublist, selB_nodup hn hs, fun p hp q hq e => ?_⟩
 subst e
 have := (List.mem_filter.1 hp).2
 simp only [Bool.not_eq_true', List.contains_eq_mem, decide_eq_false_iff_not] at this
 exact this hq
theorem hand_sel (hl : st.objs.length = g.length) : SelOK g (st.objs.length :: sl) (handG w g sl) := fun id k x hp hg => by
 have h1 := pos_get hp
 cases k with
 | zero =>
  simp only [List.getElem?_cons_zero, Option.some.injEq] at h1
  have := (List.getElem?_eq_some_iff.1 hg).1
  omega
 | succ k =>
  simp only [List.getElem?_cons_succ] at h1
  simp only [handG, List.getElem?_cons_succ, selG, List.getElem?_map, h1, Option.map_some]
  rw [List.getD_eq_getElem?_getD, hg, Option.getD_some]
theorem hand_obs (ho : ObsOK w (Stable w g) g st.objs g) : ObsOK w (Stable w g) (handG w g sl) ((st.objs.length :: sl).map fun i => renO (st.objs.length :: sl) (Ob.at st.objs i)) (handG w g sl) := by
 have hl := ObsOK_length ho
 refine ⟨?_, obs_sel (fun _ h => h) (hand_sel hl) ho⟩
 have : Ob.at st.objs st.objs.length = .gone := by
  unfold Ob.at
  rw [List.getD_eq_getElem?_getD, List.getElem?_eq_none (Nat.le_refl _), Option.getD_none]
 show ObOK w _ _ (renO _ (Ob.at st.objs st.objs.length)) _
 rw [this]
 intro p hp
 obtain ⟨b, _, rfl⟩ := List.mem_map.1 hp
 rfl
theorem rel_back (hR : RelG W w0 g st a w) (hnd : sl.Nodup) (hlive : ∀ i ∈ sl, i < st.objs.length ∧ liveO (Ob.at st.objs i) = true) (hK : Keep (allB (handG w g sl)) w w') {l : List Ob} (ho : ObsOK w' (Stable w' g2) g2 l g2) (hnd2 : (allB g2).Nodup)
  (hown2 : ∀ b ∈ allB g2, b < w'.heap.size ∧ (w.heap.size ≤ b ∨ b ∈ allB (handG w g sl))) (hkeep : GKeep (handG w g sl) g2) (hlen : sl.length + 1 ≤ l.length) {v : TV} {u : Value} (hv : RepT w' (Stable w' g2) g2 v u) (dst : Option Nat) :
  ∃ g', RelG W w0 g' (({ tmps := st.tmps, objs := putBack st.objs (st.objs.length :: sl) ((l.take (sl.length + 1)).map (mvO (backM (st.objs.length :: sl) st.objs.length))) ++ (l.drop (sl.length + 1)).map (mvO (backM (st.objs.length :: sl) st.objs.length)) } : St).put dst (mvT (backM (st.objs.length :: sl) st.objs.length) v)) (a.put dst u) w' := by
 have hl := ObsOK_length hR.ob
 have hl2 := ObsOK_length ho
 have hg20 : g2[0]? = some (.hid (hidOf w g (selG g sl))) := hkeep.2 0 _ trivial rfl
 generalize hf : backM (st.objs.length :: sl) st.objs.length = f
 generalize hm : sl.length + 1 = m at hlen ⊢
 have hnm : (st.objs.length :: sl).length = m := by rw [← hm]; rfl
 have hf1 : ∀ k i, sl[k]? = some i → f (k + 1) = i := fun k i hk => by
  rw [← hf]; unfold backM
  rw [List.getD_eq_getElem?_getD, List.getElem?_cons_succ, hk, Option.getD_some]
 have hf2 : ∀ j, f (m + j) = st.objs.length + j := fun j => by
  rw [← hf]; unfold backM
  rw [List.getD_eq_getElem?_getD, List.getElem?_eq_none (by rw [hnm]; omega), Option.getD_none, hnm]
  congr 1; omega
 have hsel : (st.objs.length :: sl).Nodup := List.nodup_cons.2 ⟨fun h => by have := (hlive _ h).1; omega, hnd⟩
 generalize hG : putBack g (st.objs.length :: sl) (g2.take m) ++ g2.drop m = G
 have hGl : (putBack g (st.objs.length :: sl) (g2.take m)).length = st.objs.length := by rw [putBack_length, hl]
 have hplA : ∀ k i, sl[k]? = some i → G[i]? = g2[k + 1]? := fun k i hk => by
  have hi := (hlive i (List.mem_of_getElem? hk)).1
  have hkl := (List.getElem?_eq_some_iff.1 hk).1
  have hk2 : k + 1 < g2.length := by omega
  rw [← hG, List.getElem?_append_left (by omega)]
  rw [List.getElem?_eq_getElem hk2]
  exact putBack_mem _ _ _ hsel (k := k + 1) (by simpa using hk) (by rw [List.getElem?_take_of_lt (by omega), List.getElem?_eq_getElem hk2]) (by omega)
 have hplB : ∀ i, i < st.objs.length → i ∉ sl → G[i]? = g[i]? := fun i hi hn => by
  rw [← hG, List.getElem?_append_left (by omega)]
  exact putBack_not _ _ _ (by simp only [List.mem_cons, not_or]; exact ⟨by omega, hn⟩)
 have hplC : ∀ j, G[st.objs.length + j]? = g2[m + j]? := fun j => by
  rw [← hG, List.getElem?_append_right (by omega), hGl, Nat.add_sub_cancel_left, List.getElem?_drop]
 have hcases : ∀ i x, G[i]? = some x → (∃ k, 1 ≤ k ∧ g2[k]? = some x ∧ f k = i) ∨ (i < st.objs.length ∧ i ∉ sl ∧ g[i]? = some x) := fun i x hi => by
  by_cases h1 : i < st.objs.length
  ·by_cases h2 : i ∈ sl
   ·left
    obtain ⟨k, hk, e⟩ := List.getElem_of_mem h2
    have hk' : sl[k]? = some i := by rw [List.getElem?_eq_getElem hk, e]
    exact ⟨k + 1, by omega, by rw [← hplA k i hk']; exact hi, hf1 k i hk'⟩
   ·exact .inr ⟨h1, h2, by rw [← hplB i h1 h2]; exact hi⟩
  ·left
   have e : i = st.objs.length + (i - st.objs.length) := by omega
   rw [e] at hi
   rw [hplC] at hi
   exact ⟨_, by omega, hi, by rw [hf2]; omega⟩
 have hhid : ∀ i x, i ∉ sl → g[i]? = some x → ∀ b ∈ x.blocks, b ∈ (Gh.hid (hidOf w g (selG g sl))).blocks := fun i x hi hx b hb => by
  rw [hid_blocks, List.mem_filter]
  refine ⟨allB_mem hx hb, ?_⟩
  simp only [Bool.not_eq_true', List.contains_eq_mem, decide_eq_false_iff_not]
  intro h
  obtain ⟨id, h1, y, h2, h3⟩ := selB_mem h
  exact nodup_apart (i := i) (j := id) hR.nd (fun e => hi (by rw [e]; exact h1)) hx h2 b hb h3
 have hsub : ∀ b, b ∈ allB G → b ∈ allB g2 := fun b hb => by
  obtain ⟨x, hx, hb⟩ := mem_allB.1 hb
  obtain ⟨i, hi, e⟩ := List.getElem_of_mem hx
  rcases hcases i x (by rw [List.getElem?_eq_getElem hi, e]) with ⟨k, _, h1, _⟩ | ⟨_, h1, h2⟩
  ·exact allB_mem h1 hb
  ·exact allB_mem hg20 (hhid i x h1 h2 b hb)
 have hmv : MvOK g2 f G := fun k x hk hx => by
  cases k with
  | zero => rw [hg20] at hk; injection hk with hk; subst hk; exact hx.elim
  | succ k =>
   by_cases h : k + 1 < m
   ·have hkl : k < sl.length := by omega
    have hk' : sl[k]? = some sl[k] := List.getElem?_eq_getElem hkl
    rw [hf1 k _ hk', hplA k _ hk']
    exact hk
   ·have e : k + 1 = m + (k + 1 - m) := by omega
    rw [e, hf2, hplC, ← e]
    exact hk
 have hGE : GExt g G := fun i x hi => by
  have hil : i < st.objs.length := by have := (List.getElem?_eq_some_iff.1 hi).1; omega
  by_cases h : i ∈ sl
  ·obtain ⟨k, hk, e⟩ := List.getElem_of_mem h
   have hk' : sl[k]? = some i := by rw [List.getElem?_eq_getElem hk, e]
   rw [hplA k i hk']
   have hgc : (handG w g sl)[k + 1]? = some x := by
    simp only [handG, List.getElem?_cons_succ, selG, List.getElem?_map, hk', Option.map_some]
    rw [List.getD_eq_getElem?_getD, hi, Option.getD_some]
   have hlv := (hlive i h).2
   have hok := (ObsOK_iff.1 hR.ob).2 i _ x (List.getElem?_eq_getElem hil) hi
   have hat : Ob.at st.objs i = st.objs[i] := by unfold Ob.at; rw [List.getD_eq_getElem?_getD, List.getElem?_eq_getElem hil]; rfl
   rw [hat] at hlv
   generalize st.objs[i] = ob at hlv hok
   cases ob <;> simp only [liveO, Bool.false_eq_true] at hlv <;> cases x <;> try exact hok.elim
   ·exact .inr (.inl (hkeep.2 (k + 1) _ trivial hgc))
   ·rcases hkeep.1 (k + 1) _ hgc with h | h
    ·exact .inr (.inl h)
    ·exact .inr (.inr ⟨⟨_, rfl⟩, h⟩)
  ·exact .inr (.inl (by rw [hplB i hil h]; exact hi))
 have hS2 : ∀ b, Stable w' g2 b → Stable w' G b := fun b hb => ⟨hb.1, fun h => hb.2 (hsub b h)⟩
 have hS : ∀ b, Stable w g b → Stable w' G b ∧ w'.heap[b]? = w.heap[b]? := fun b hb => by
  have hn : b ∉ allB (handG w g sl) := fun h => hb.2 (hand_sub h)
  refine ⟨⟨Nat.lt_of_lt_of_le hb.1 hK.size, fun h => ?_⟩, hK.block b hb.1 hn⟩
  rcases (hown2 b (hsub b h)).2 with h' | h'
  ·have := hb.1; omega
  ·exact hn h'
 have hold : ∀ p ∈ hidOf w g (selG g sl), w'.heap[p.1]? = p.2 := by
  have hl0 : 0 < l.length := by omega
  have h1 := (ObsOK_iff.1 ho).2 0 _ _ (List.getElem?_eq_getElem hl0) hg20
  generalize l[0] = ob at h1
  cases ob <;> first | exact h1 | exact h1.elim
 have hkeepb : ∀ b ∈ (Gh.hid (hidOf w g (selG g sl))).blocks, w'.heap[b]? = w.heap[b]? := fun b hb => by
  simp only [Gh.blocks] at hb
  obtain ⟨p, hp, rfl⟩ := List.mem_map.1 hb
  rw [hold p hp]
  obtain ⟨b, _, rfl⟩ := List.mem_map.1 hp
  rfl
 refine ⟨G, rel_change hR hGE hS ?_ ?_ (fun b hb => ?_) ?_ dst (mvT_rep hS2 hmv hv)⟩
 ·rw [ObsOK_iff]
  refine ⟨?_, fun i o x ho' hx => ?_⟩
  ·rw [← hG]
   simp only [List.length_append, putBack_length, List.length_map, List.length_drop, hl, hl2]
  ·have hol : (putBack st.objs (st.objs.length :: sl) ((l.take m).map (mvO f))).length = st.objs.length := putBack_length _ _ _
   by_cases h1 : i < st.objs.length
   ·rw [List.getElem?_append_left (by omega)] at ho'
    by_cases h2 : i ∈ sl
    ·obtain ⟨k, hk, e⟩ := List.getElem_of_mem h2
     have hk' : sl[k]? = some i := by rw [List.getElem?_eq_getElem hk, e]
     rw [hplA k i hk'] at hx
     have hkl : k + 1 < l.length := by omega
     rw [putBack_mem (st.objs.length :: sl) _ _ hsel (k := k + 1) (i := i) (x := mvO f l[k + 1]) (by simpa using hk') (by rw [List.getElem?_map, List.getElem?_take_of_lt (by omega), List.getElem?_eq_getElem hkl]; rfl) h1] at ho'
     injection ho' with ho'
     subst ho'
     exact mvO_rep hS2 hmv ((ObsOK_iff.1 ho).2 (k + 1) _ x (List.getElem?_eq_getElem hkl) hx)
    ·rw [putBack_not (st.objs.length :: sl) _ _ (by simp only [List.mem_cons, not_or]; exact ⟨by omega, h2⟩)] at ho'
     rw [hplB i h1 h2] at hx
     exact ObOK_mono hS hGE (fun b hb => hkeepb b (hhid i x h2 hx b hb)) ((ObsOK_iff.1 hR.ob).2 i o x ho' hx)
   ·have e : i = st.objs.length + (i - st.objs.length) := by omega
    rw [List.getElem?_append_right (by omega), hol, List.getElem?_map, List.getElem?_drop] at ho'
    rw [e, hplC] at hx
    cases hlo : l[m + (i - st.objs.length)]? with
    | none => rw [hlo] at ho'; cases ho'
    | some o' =>
     rw [hlo] at ho'
     simp only [Option.map_some, Option.some.injEq] at ho'
     subst ho'
     exact mvO_rep hS2 hmv ((ObsOK_iff.1 ho).2 _ _ x hlo hx)
 ·refine allB_nodup_of (fun i x hi => ?_) (fun i j x y hij hi hj b hb => ?_)
  ·rcases hcases i x hi with ⟨k, _, h1, _⟩ | ⟨_, _, h1⟩
   ·exact nodup_of hnd2 h1
   ·exact nodup_of hR.nd h1
  ·rcases hcases i x hi with ⟨k, hk1, h1, e1⟩ | ⟨_, n1, h1⟩ <;> rcases hcases j y hj with ⟨k', hk2, h2, e2⟩ | ⟨_, n2, h2⟩
   ·exact nodup_apart hnd2 (fun e => by subst e; omega) h1 h2 b hb
   ·intro hby
    exact nodup_apart (i := k) (j := 0) hnd2 (by omega) h1 hg20 b hb (hhid j y n2 h2 b hby)
   ·intro hby
    exact nodup_apart (i := 0) (j := k') hnd2 (by omega) hg20 h2 b (hhid i x n1 h1 b hb) hby
   ·exact nodup_apart hR.nd (by omega) h1 h2 b hb
 ·obtain ⟨h1, h2⟩ := hown2 b (hsub b hb)
  refine ⟨h1, ?_⟩
  rcases h2 with h2 | h2
  ·exact .inl (Nat.le_trans hR.keep.size h2)
  ·exact (hR.own b (hand_sub h2)).2
 ·exact keep_own hR hK.os hK.tape hK.output hK.size (fun b hb hbn => hK.block b hb (fun h => hbn (hand_sub h)))
end
end Go.Proofs.YtgcioclfplafkaaGreatV
end
section
namespace Go.Proofs.YtgcioclfplafkaaGreatV
open Go Go.RowKit
section
variable {P : Program} {T : Tab} {W : List Gh} {w0 w w' : World} {g g2 : List Gh} {st : St} {a : Act}
theorem selP_form (objs : List Ob) (vs : List TV) : ∃ sl, selP objs vs = objs.length :: sl ∧ (objs.length :: sl).Nodup := by
 have hn : (selP objs vs).Nodup := addNew_nodup _ _ (addNew_nodup _ _ (addNew_nodup _ _ (by simp)))
 have h0 : (selP objs vs)[0]? = some objs.length := by
  unfold selP
  have h1 := addNew_le (vs.flatMap idT) [objs.length]
  have h2 := addNew_le (kids objs (addNew [objs.length] (vs.flatMap idT))) (addNew [objs.length] (vs.flatMap idT))
  simp only [List.length_singleton] at h1
  rw [addNew_pre _ _ _ (by omega), addNew_pre _ _ _ (by omega), addNew_pre _ _ _ (by simp)]
  rfl
 cases hs : selP objs vs with
 | nil => rw [hs] at h0; cases h0
 | cons x sl =>
  rw [hs] at h0 hn
  simp only [List.getElem?_cons_zero, Option.some.injEq] at h0
  subst h0
  exact ⟨sl, rfl, hn⟩
theorem callP_ok {R : Type} (hT : TabFn P T) (hR : RelG W w0 g st a w) {f : Nat} (hf : T.isP f = true) {vs : List TV} {vals : List Value} (hv : RepTs w (Stable w g) g vs vals) {K : TV → List Ob → Option R} {r : R} (h : callP T st f vs K = some r) (dst : Option Nat)
  {Q : Ending → World → Prop} (hQ : ∀ v objs u w', K v objs = some r → Rel W w0 (({ tmps := st.tmps, objs := objs } : St).put dst v) (a.put dst u) w' → Q (.returned u) w') : Calls P f vals.toArray w Q := by
 unfold callP at h
 obtain ⟨sl, hs, hn⟩ := selP_form st.objs vs
 simp only [hs] at h
 split at h
 ·rename_i hlv
  rw [hT.procK] at h
  obtain ⟨⟨v, l⟩, hp, h⟩ := Option.bind_eq_some_iff.1 h
  simp only at h
  split at h
  ·rename_i hlen
   obtain ⟨hok, _⟩ := hT.proc f hf
   have hl := ObsOK_length hR.ob
   have hn2 := (List.nodup_cons.1 hn).2
   have hlive : ∀ i ∈ sl, i < st.objs.length ∧ liveO (Ob.at st.objs i) = true := fun i hi => by
    have := (List.all_eq_true.1 hlv) i (by simpa using hi)
    rw [Bool.and_eq_true, decide_eq_true_eq] at this
    exact this
   have := hok _ _ v l (fun {R} K => by show T.proc f _ _ K = _; rw [hT.procK, hp]; rfl) w vals (Stable w g) (handG w g sl) (renTs_rep (fun _ h => h) (hand_sel hl) hv) (hand_obs hR.ob) (hand_nodup hR.nd hn2) (fun b hb => (hR.own b (hand_sub hb)).1) (fun b hb => ⟨hb.1, fun h => hb.2 (hand_sub h)⟩)
   refine this.mono (fun e w' h2 => ?_)
   obtain ⟨u, rfl, hK, g2, h3, h4, h5, h6, h7⟩ := h2
   exact hQ _ _ u w' h (rel_back hR hn2 hlive hK h4 h5 h6 h7 (by simpa using hlen) h3 dst)
  ·cases h
 ·cases h
theorem capsOf_ok : ∀ {l : List TV} {us : List Value} {m : List CV}, RepTs w (Stable w g) g l us → capsOf l = some m → RepL w (Stable w g) g m us
 | [], [], m, _, h => by
  simp only [capsOf, Option.some.injEq] at h
  subst h; trivial
 | [], _ :: _, _, h, _ => h.elim
 | _ :: _, [], _, h, _ => h.elim
 | .c v :: l, u :: us, m, hr, h => by
  simp only [capsOf] at h
  split at h
  ·rename_i m' hm
   injection h with h
   subst h
   exact ⟨hr.1, capsOf_ok hr.2 hm⟩
  ·cases h
 | .agg _ :: _, _ :: _, _, _, h => by simp [capsOf] at h
 | .tup _ :: _, _ :: _, _, _, h => by simp [capsOf] at h
 | .fp _ :: _, _ :: _, _, _, h => by simp [capsOf] at h
 | .er _ _ _ :: _, _ :: _, _, _, h => by simp [capsOf] at h
 | .fn _ _ :: _, _ :: _, _, _, h => by simp [capsOf] at h
theorem opds_rep (hR : RelG W w0 g st a w) (t : Nat) : ∀ (l : List Operand), RepTs w (Stable w g) g (l.map (opd T st t)) (l.map a.eval)
 | [] => trivial
 | x :: l => ⟨opd_rep hR.tm t x, opds_rep hR t l⟩
theorem ptr_zero (hT : TabOK P T) {t : Nat} {ti : TI} (h : T.ty t = some ti) (hptr : ti.ptr = true) : ∃ z, (∀ w, (zeroValue t).run P w = .ok z w) ∧ z.cells.toList.length = 1 := by
 obtain ⟨i, d, h1, h2, h3, h4, h5, h6⟩ := ty_info hT h
 have := hT.ty t ti h
 unfold tiOk at this
 rw [h1, h2] at this
 cases d <;> try (simp only [descOk, hptr, Bool.not_true, Bool.false_and, Bool.false_eq_true] at h6; done)
 simp only [Bool.and_eq_true] at this
 have h7 := this.2
 split at h7
 ·rename_i z hz
  exact ⟨z, fun w => by simp [zeroValue, typeInfo, h1, hz], of_decide_eq_true h7⟩
 ·cases h7
theorem dead_rep {S : Nat → Prop} {us : List Value} (h : us.length = 1) : RepL w S g [.dead] us := by
 match us, h with
 | [u], _ => exact ⟨trivial, trivial⟩
theorem specOp_ok {R : Type} (hT : TabFn P T) (hR : RelG W w0 g st a w) {o : Oper} {K : TV → List Ob → Option R} {other : Unit → Option R} {r : R} (h : specOp T st o K other = some r) :
  other () = some r ∨ ∀ (C : Act → World → Prop) (Q : Exit → Act → World → Prop), (∀ v objs u w', K v objs = some r → Rel W w0 (({ tmps := st.tmps, objs := objs } : St).put o.dst v) (a.put o.dst u) w' → C (a.put o.dst u) w') → o.wp P a w C Q := by
 obtain ⟨dst, op, type, pos, after, guard⟩ := o
 unfold specOp at h
 simp only at h
 split at h
 ·rename_i f first caps
  split at h
  ·rename_i hfirst
   split at h
   ·rename_i l hl
    right
    intro C Q hC
    have hcaps := capsOf_ok (opds_rep (T := T) hR type caps.toList) hl
    have hrun : (execOp a.eval ⟨dst, .makeFunc (.func f) first caps, type, pos, after, guard⟩).run P w = .ok (.value (.func (.func f) #[] (caps.toList.map a.eval).toArray)) w := by
     have : first = #[] := Array.eq_empty_of_size_eq_zero hfirst
     subst this
     simp only [execOp, Instr.makeFunc, Sem.run_bind, Sem.run_pure, Result.andThen]
     simp
     apply Array.ext'
     simp
    unfold Oper.wp
    rw [hrun]
    refine hC _ _ _ w h ⟨g, ?_⟩
    have := rel_pure hR dst (v := .fn f l) (u := .func (.func f) #[] (caps.toList.map a.eval).toArray) ⟨_, rfl, hcaps⟩
    exact this
   ·cases h
  ·cases h
 ·rename_i t
  split at h
  ·rename_i ti ht
   split at h
   ·rename_i hptr
    right
    intro C Q hC
    obtain ⟨z, hz, hzl⟩ := ptr_zero hT.toTabOK ht hptr
    have hn0 : (g ++ List.replicate 1 Gh.unborn)[st.objs.length]? = some .unborn := by
     have := ObsOK_length hR.ob
     rw [List.getElem?_append_right (by omega), this]
     simp
    have hb := rel_box (rel_pad hR 1) hn0 t (l := [.dead]) (us := z.cells.toList) (dead_rep hzl) dst
    have hrun : (execOp a.eval ⟨dst, .alloc t, type, pos, after, guard⟩).run P w = .ok (.value (.pointer (some ⟨w.heap.size, 0, none⟩))) (w.alloc (.cells z.cells.toList.toArray t)) := by
     simp [execOp, Instr.alloc, hz, newVar, newRow, World.alloc_eq]
    have e : (st.objs ++ List.replicate 1 Ob.unborn).set st.objs.length (.box [.dead]) = st.objs ++ [.box [.dead]] := by
     rw [List.set_append_right _ _ (Nat.le_refl _)]; simp
    simp only [e] at hb
    unfold Oper.wp
    rw [hrun]
    exact hC _ _ _ _ h ⟨_, hb⟩
   ·exact .inl h
  ·cases h
 ·rename_i x args ts
  split at h
  ·rename_i f caps hx
   split at h
   ·rename_i hf
    split at h
    ·rename_i hsz
     right
     intro C Q hC
     have hxr := opd_rep (T := T) hR.tm type x
     rw [hx] at hxr
     obtain ⟨us, hus, hcaps⟩ := hxr
     have hvals := RepTs_append (args_rep (T := T) hR args.toList ts.toList (by simpa using hsz)) (caps_rep hcaps)
     have hexec := exec_call (P := P) (w := w) (o := ⟨dst, .call ⟨.value x, args, ts⟩, type, pos, after, guard⟩) rfl hus (hT.proc f hf).2
     unfold Oper.wp
     rw [hexec]
     refine callP_ok hT hR hf hvals h dst (fun v objs u w' h1 h2 => ?_)
     exact hC v objs u w' h1 h2
    ·cases h
   ·exact .inl h
  ·exact .inl h
 ·exact .inl h
theorem evOpsP_ok {R : Type} (hT : TabFn P T) {ops : Array Oper} {Q : Exit → Act → World → Prop} : ∀ (l : List Oper) {st : St} {a : Act} {w : World} {K : St → Option R} {r : R}, Rel W w0 st a w → T.np = false → evOpsP T ops l st K = some r →
  (∀ st' a' w', Rel W w0 st' a' w' → K st' = some r → Q .normal a' w') → wpList P ops Q l a w
 | [], st, a, w, K, r, hR, _, h, hQ => hQ st a w hR h
 | o :: rest, st, a, w, K, r, hR, hnp, h, hQ => by
  obtain ⟨g, hR⟩ := hR
  simp only [evOpsP] at h
  rcases askG_ok hR h with ⟨hw, st', hR', _, h'⟩ | ⟨hw, st', hR', _, h'⟩
  ·unfold wpList
   rw [hw]
   simp only [if_true]
   left
   rcases specOp_ok hT hR' h' with h' | h'
   ·rw [opSem_k _ _ hT.leaf] at h'
    cases hp : opSem T { st' with objs := st'.objs ++ List.replicate 8 .unborn } st'.objs.length o pk with
    | none => rw [hp] at h'; cases h'
    | some p =>
     obtain ⟨v, new, mods⟩ := p
     rw [hp] at h'
     simp only [Option.bind_some, kk] at h'
     split at h'
     ·rename_i hc
      rw [Bool.and_eq_true, decide_eq_true_eq] at hc
      obtain ⟨hc1, hc2⟩ := hc
      have hlen := ObsOK_length hR'.ob
      have hst := step_ok hT (rel_pad hR' 8) (fun hn => by rw [hnp] at hn; cases hn) (nid := st'.objs.length) (o := o) (v := v) (new := new) (mods := mods) (fun k hk => by
       rw [List.getElem?_append_right (by omega), List.getElem?_replicate, if_pos (by omega)]) hp
      refine hst _ Q (fun u w' g' hg' => ?_)
      exact evOpsP_ok hT rest (rel_step hc1 hc2 hg') hnp h' hQ
     ·cases h'
   ·exact h' _ Q (fun v objs u w' h1 h2 => evOpsP_ok hT rest h2 hnp h1 hQ)
  ·unfold wpList
   rw [hw]
   simp only [Bool.false_eq_true, if_false]
   exact evOpsP_ok hT rest ⟨g, rel_skip hR' o.dst⟩ hnp h' hQ
theorem regP_ok (hT : TabFn P T) (hnp : T.np = false) (id : Nat) (ops : Array Oper) : CodeOK P T W w0 (.region id ops false) (fun st K => evOpsP T ops ops.toList st (K .normal)) := by
 intro R st K r a w Q hR h hQ
 refine wp_region_list (evOpsP_ok hT ops.toList hR.1 hnp h (fun st1 a' w' hR1 h1 => ?_))
 exact hQ .normal _ a' w' ⟨hR1, fun hn => by rw [hnp] at hn; cases hn⟩ h1
end
end Go.Proofs.YtgcioclfplafkaaGreatV
end

/- Locality of operations; no condition. -/
import Derived.Test.YtgcioclfplafkaaGreatA07
set_option linter.all false
section
namespace Go.Proofs.YtgcioclfplafkaaGreatV
open Go Go.RowKit
structure Fr (lo : Nat) (D : List Nat) (st st1 : St) : Prop where
 len : st1.tmps.length = st.tmps.length
 tm : ∀ t, t ∉ D → st1.tmps[t]? = st.tmps[t]?
 ob : ∀ i, i < lo → st1.objs[i]? = st.objs[i]?
 le : st.objs.length ≤ st1.objs.length
theorem Fr.refl (lo : Nat) (D : List Nat) (st : St) : Fr lo D st st := ⟨rfl, fun _ _ => rfl, fun _ _ => rfl, Nat.le_refl _⟩
theorem Fr.trans {lo : Nat} {D : List Nat} {a b c : St} (h : Fr lo D a b) (k : Fr lo D b c) : Fr lo D a c :=
 ⟨k.len.trans h.len, fun t ht => (k.tm t ht).trans (h.tm t ht), fun i hi => (k.ob i hi).trans (h.ob i hi), Nat.le_trans h.le k.le⟩
theorem fr_put {lo : Nat} {D : List Nat} {st : St} {d : Option Nat} {v : TV} (hd : ∀ t, d = some t → t ∈ D) : Fr lo D st (st.put d v) := by
 cases d with
 | none => exact Fr.refl ..
 | some d => exact ⟨by simp [St.put], fun t ht => by
  have hne : d ≠ t := fun e => ht (by rw [← e]; exact hd d rfl)
  simp only [St.put]
  rw [List.getElem?_set_ne hne], fun _ _ => rfl, Nat.le_refl _⟩
theorem setOb_lo : ∀ (u : List (Nat × Md)) (objs : List Ob) (lo i : Nat), (u.all fun m => decide (lo ≤ m.1)) = true → i < lo → (setOb objs u)[i]? = objs[i]?
 | [], _, _, _, _, _ => rfl
 | (k, .ob o) :: u, objs, lo, i, h, hi => by
  simp only [List.all_cons, Bool.and_eq_true, decide_eq_true_eq] at h
  simp only [setOb]
  rw [setOb_lo u _ lo i h.2 hi, List.getElem?_set_ne (by omega)]
 | (k, .cells off vs) :: u, objs, lo, i, h, hi => by
  simp only [List.all_cons, Bool.and_eq_true, decide_eq_true_eq] at h
  simp only [setOb]
  rw [setOb_lo u _ lo i h.2 hi]
  split
  ·rw [List.getElem?_set_ne (by omega)]
  ·rfl
theorem fr_step {lo : Nat} {D : List Nat} {st : St} {d : Option Nat} {v : TV} {new : List Ob} {mods : List (Nat × Md)} (hd : ∀ t, d = some t → t ∈ D) (hm : (mods.all fun m => decide (lo ≤ m.1)) = true) (hlo : lo ≤ st.objs.length) : Fr lo D st (st.step d v new mods) := by
 have h1 : Fr lo D st { tmps := st.tmps, objs := setOb st.objs mods ++ new } := ⟨rfl, fun _ _ => rfl, fun i hi => by
  simp only
  rw [List.getElem?_append_left (by rw [setOb_length]; omega), setOb_lo mods _ lo i hm hi], by simp [setOb_length]⟩
 exact h1.trans (fr_put hd)
theorem askG_congr {R : Type} {ops : Array Oper} {D : List Nat} {lo : Nat} (hD : ∀ (j d : Nat), (ops[j]?).bind (fun (o : Oper) => o.dst) = some d → d ∈ D) {st : St} {o : Oper} {yes no yes' no' : St → Option R} (hy : ∀ st1, Fr lo D st st1 → yes st1 = yes' st1) (hn : ∀ st1, Fr lo D st st1 → no st1 = no' st1) :
  askG ops st o yes no = askG ops st o yes' no' := by
 unfold askG
 split
 ·exact hy st (Fr.refl ..)
 ·rename_i j want hg
  split
  ·rename_i d hd
   have hp : ∀ v, Fr lo D st (st.put (some d) v) := fun v => fr_put (fun t e => by injection e with e; subst e; exact hD j d hd)
   split
   ·rename_i b hb
    rw [hy _ (hp _), hy _ (hp _), hn _ (hp _), hn _ (hp _)]
   ·exact hn st (Fr.refl ..)
   ·rfl
  ·rfl
theorem evOps_congr {R : Type} {T : Tab} (hL : LeafCall T) {ops : Array Oper} {D : List Nat} {lo : Nat} (hD : ∀ (j d : Nat), (ops[j]?).bind (fun (o : Oper) => o.dst) = some d → d ∈ D) : ∀ (l : List Oper) {st : St} {K K' : St → Option R}, (∀ o ∈ l, ∀ d, o.dst = some d → d ∈ D) → lo ≤ st.objs.length →
  (∀ st1, Fr lo D st st1 → K st1 = K' st1) → evOps T lo ops l st K = evOps T lo ops l st K'
 | [], st, K, K', _, _, h => h st (Fr.refl ..)
 | o :: rest, st, K, K', hd, hlo, h => by
  simp only [evOps]
  refine askG_congr (lo := lo) hD (fun st1 h1 => ?_) (fun st1 h1 => ?_)
  ·rw [opSem_k _ _ hL]
   conv => rhs; rw [opSem_k _ _ hL]
   cases opSem T _ _ o pk with
   | none => rfl
   | some p =>
    obtain ⟨v, new, mods⟩ := p
    simp only [Option.bind_some, kk]
    split
    ·rename_i hc
     rw [Bool.and_eq_true] at hc
     have hlo1 : lo ≤ st1.objs.length := Nat.le_trans hlo h1.le
     have h2 := fr_step (D := D) (lo := lo) (st := st1) (d := o.dst) (v := v) (new := new) (mods := mods) (fun t e => hd o (by simp) t e) (by
      have := hc.2
      rw [Bool.and_eq_true] at this
      have := this.1
      rw [List.all_eq_true] at this ⊢
      intro m hm
      have := this m hm
      rw [Bool.and_eq_true] at this
      exact this.1) hlo1
     exact evOps_congr hL hD rest (fun o' ho => hd o' (by simp [ho])) (Nat.le_trans hlo1 h2.le) (fun st2 h3 => h st2 (h1.trans (h2.trans h3)))
    ·rfl
  ·have h2 := fr_put (lo := lo) (D := D) (st := st1) (d := o.dst) (v := .undef) (fun t e => hd o (by simp) t e)
   exact evOps_congr hL hD rest (fun o' ho => hd o' (by simp [ho])) (Nat.le_trans (Nat.le_trans hlo h1.le) h2.le) (fun st2 h3 => h st2 (h1.trans (h2.trans h3)))
end Go.Proofs.YtgcioclfplafkaaGreatV
end
section
namespace Go.Proofs.YtgcioclfplafkaaGreatV
open Go Go.RowKit
section
variable {P : Program} {T : Tab} {W : List Gh} {w0 w : World} {S : Nat → Prop} {g : List Gh}
theorem RepTs_iff : ∀ {l : List TV} {us : List Value}, RepTs w S g l us ↔ l.length = us.length ∧ ∀ (i : Nat) (v : TV) (u : Value), l[i]? = some v → us[i]? = some u → RepT w S g v u
 | [], [] => by simp [RepTs]
 | [], _ :: _ => by simp [RepTs]
 | _ :: _, [] => by simp [RepTs]
 | v :: l, u :: us => by
  simp only [RepTs, RepTs_iff (l := l) (us := us), List.length_cons, Nat.add_right_cancel_iff]
  constructor
  ·rintro ⟨h1, h2, h3⟩
   refine ⟨h2, fun i v' u' hv hu => ?_⟩
   cases i with
   | zero => simp only [List.getElem?_cons_zero, Option.some.injEq] at hv hu; subst hv; subst hu; exact h1
   | succ i => exact h3 i v' u' (by simpa using hv) (by simpa using hu)
  ·rintro ⟨h2, h3⟩
   exact ⟨h3 0 v u rfl rfl, h2, fun i v' u' hv hu => h3 (i + 1) v' u' (by simpa using hv) (by simpa using hu)⟩
theorem killD_objs : ∀ (l : List Oper) (st : St), (killD st l).objs = st.objs
 | [], _ => rfl
 | o :: l, st => by simp only [killD]; rw [killD_objs l]; cases o.dst <;> rfl
theorem killD_get : ∀ (l : List Oper) (st : St) (t : Nat) (v : TV), (killD st l).tmps[t]? = some v → v = .dead ∨ (st.tmps[t]? = some v ∧ ∀ o ∈ l, o.dst ≠ some t)
 | [], _, _, _, h => .inr ⟨h, by simp⟩
 | o :: l, st, t, v, h => by
  simp only [killD] at h
  rcases killD_get l _ t v h with h1 | ⟨h1, h2⟩
  ·exact .inl h1
  ·cases ho : o.dst with
   | none =>
    rw [ho] at h1
    exact .inr ⟨h1, fun o' ho' => by
     simp only [List.mem_cons] at ho'
     rcases ho' with rfl | ho'
     ·rw [ho]; simp
     ·exact h2 o' ho'⟩
   | some d =>
    rw [ho] at h1
    simp only [St.put] at h1
    by_cases e : d = t
    ·subst e
     left
     by_cases hl : d < st.tmps.length
     ·rw [List.getElem?_set_self hl] at h1; injection h1 with h1; exact h1.symm
     ·rw [List.getElem?_eq_none (by simpa using hl)] at h1; cases h1
    ·rw [List.getElem?_set_ne e] at h1
     exact .inr ⟨h1, fun o' ho' => by
      simp only [List.mem_cons] at ho'
      rcases ho' with rfl | ho'
      ·rw [ho]; intro e'; injection e' with e'; exact e e'
      ·exact h2 o' ho'⟩
theorem putAll_objs : ∀ (js : List (Nat × CT)) (vs : List CV) (st : St), (putAll st js vs).objs = st.objs
 | [], _, _ => by simp [putAll]
 | _ :: _, [], _ => by simp [putAll]
 | (t, c) :: js, v :: vs, st => by simp only [putAll]; rw [putAll_objs js vs]; rfl
theorem putAll_len : ∀ (js : List (Nat × CT)) (vs : List CV) (st : St), (putAll st js vs).tmps.length = st.tmps.length
 | [], _, _ => by simp [putAll]
 | _ :: _, [], _ => by simp [putAll]
 | (t, c) :: js, v :: vs, st => by simp only [putAll]; rw [putAll_len js vs]; simp [St.put]
theorem putAll_get : ∀ (js : List (Nat × CT)) (vs : List CV) (st : St) (t : Nat) (x : TV), (putAll st js vs).tmps[t]? = some x → (∃ c v, ((t, c), v) ∈ js.zip vs ∧ x = .c v) ∨ st.tmps[t]? = some x
 | [], _, _, _, _, h => .inr (by simpa [putAll] using h)
 | _ :: _, [], _, _, _, h => .inr (by simpa [putAll] using h)
 | (d, c) :: js, v :: vs, st, t, x, h => by
  simp only [putAll] at h
  rcases putAll_get js vs _ t x h with ⟨c', v', h1, h2⟩ | h1
  ·exact .inl ⟨c', v', by simp [h1], h2⟩
  ·simp only [St.put] at h1
   by_cases e : d = t
   ·subst e
    left
    by_cases hl : d < st.tmps.length
    ·rw [List.getElem?_set_self hl] at h1; injection h1 with h1; exact ⟨c, v, by simp, h1.symm⟩
    ·rw [List.getElem?_eq_none (by simpa using hl)] at h1; cases h1
   ·rw [List.getElem?_set_ne e] at h1
    exact .inr h1
theorem cellsT_get : ∀ {js : List (Nat × CT)} {vs : List CV} {st : St}, cellsT st js = some vs → ∀ t c v, ((t, c), v) ∈ js.zip vs → st.get t = .c v
 | [], _, _, _, _, _, _, hm => by simp at hm
 | (d, e) :: js, vs, st, h, t, c, v, hm => by
  simp only [cellsT] at h
  split at h
  ·rename_i v0 vs0 h1 h2
   injection h with h
   subst h
   simp only [List.zip_cons_cons, List.mem_cons, Prod.mk.injEq] at hm
   rcases hm with ⟨⟨rfl, _⟩, rfl⟩ | hm
   ·exact h1
   ·exact cellsT_get h2 t c v hm
  ·cases h
end
end Go.Proofs.YtgcioclfplafkaaGreatV
end
section
namespace Go.Proofs.YtgcioclfplafkaaGreatV
open Go Go.RowKit
section
variable {P : Program} {T : Tab} {W : List Gh} {w0 w w' : World}
theorem rel_join {st st1 : St} {a a' : Act} {D : List Nat} {l : List Oper} {js : List (Nat × CT)} {vs : List CV} (hR : Rel W w0 st a w) (hR1 : Rel W w0 st1 a' w') (hF : Fr st.objs.length D st st1)
  (hD : ∀ t ∈ D, ∃ o ∈ l, o.dst = some t) (hv : cellsT st1 js = some vs) (hp : ∀ sel, vs.map (renC sel) = vs) : Rel W w0 (putAll (killD st l) js vs) a' w' := by
 obtain ⟨g0, h0⟩ := hR
 obtain ⟨g1, h1⟩ := hR1
 have hl0 := ObsOK_length h0.ob
 have hs := rel_sel h1 (sel := List.range st.objs.length) List.nodup_range (fun i x hi => by
  refine ⟨fun hx => List.getElem?_range ?_, fun hx => .inl (List.getElem?_range ?_)⟩
  ·have := (List.getElem?_eq_some_iff.1 (h0.kept.2 i x hx hi)).1
   omega
  ·obtain ⟨t, rfl⟩ := hx
   rcases h0.kept.1 i t hi with h | h
   ·have := (List.getElem?_eq_some_iff.1 h).1; omega
   ·have := (List.getElem?_eq_some_iff.1 h).1; omega)
 have hob : (List.range st.objs.length).map (fun id => renO (List.range st.objs.length) (Ob.at st1.objs id)) = st.objs := by
  apply List.ext_getElem?
  intro i
  by_cases hi : i < st.objs.length
  ·have e1 : Ob.at st1.objs i = st.objs[i] := by
    unfold Ob.at
    rw [List.getD_eq_getElem?_getD, hF.ob i hi, List.getElem?_eq_getElem hi]
    rfl
   have e2 := (ObsOK_iff.1 h0.ob).2 i _ g0[i] (List.getElem?_eq_getElem hi) (List.getElem?_eq_getElem (by omega))
   have e3 := renO_range e2
   rw [← hl0] at e3
   rw [List.getElem?_map, List.getElem?_range hi, Option.map_some, e1, e3, List.getElem?_eq_getElem hi]
  ·rw [List.getElem?_eq_none (by simpa using hi), List.getElem?_eq_none (by omega)]
 rw [hob] at hs
 refine ⟨_, ⟨?_, by rw [putAll_objs, killD_objs]; exact hs.ob, hs.nd, hs.own, hs.keep, hs.kept, hs.df⟩⟩
 have ht := RepTs_iff.1 hs.tm
 have ht0 := RepTs_iff.1 h0.tm
 have hlen1 := RepTs_length h1.tm
 have hlen0 := RepTs_length h0.tm
 have hkl : ∀ (l : List Oper) (st : St), (killD st l).tmps.length = st.tmps.length := by
  intro l
  induction l with
  | nil => intro st; rfl
  | cons o l ih =>
   intro st
   simp only [killD]
   rw [ih]
   cases o.dst <;> simp [St.put]
 refine RepTs_iff.2 ⟨by rw [putAll_len, hkl, ← hF.len, hlen1], fun i v u hi hu => ?_⟩
 rcases putAll_get js vs _ i v hi with ⟨c, x, hm, rfl⟩ | hi
 ·have hg := cellsT_get hv i c x hm
  have hx : renC (List.range st.objs.length) x = x := by
   have hmem : x ∈ vs := (List.of_mem_zip hm).2
   have := hp (List.range st.objs.length)
   obtain ⟨k, hk, e⟩ := List.getElem_of_mem hmem
   have h2 : (vs.map (renC (List.range st.objs.length)))[k]? = vs[k]? := by rw [this]
   rw [List.getElem?_map, List.getElem?_eq_getElem hk, e] at h2
   simpa using h2
  have hlt : i < st1.tmps.length := by
   have := (List.getElem?_eq_some_iff.1 hu).1
   omega
  have : st1.tmps[i]? = some (.c x) := by
   unfold St.get at hg
   rw [List.getD_eq_getElem?_getD, List.getElem?_eq_getElem hlt] at hg
   rw [List.getElem?_eq_getElem hlt]
   simpa using hg
  have := ht.2 i (renT (List.range st.objs.length) (.c x)) u (by rw [List.getElem?_map, this]; rfl) hu
  simpa only [renT, hx] using this
 ·rcases killD_get l st i v hi with rfl | ⟨h2, h3⟩
  ·trivial
  ·have hiD : i ∉ D := fun h => by obtain ⟨o, ho, e⟩ := hD i h; exact h3 o ho e
   have h4 := hF.tm i hiD
   have hlt : i < a.tmps.toList.length := by
    have := (List.getElem?_eq_some_iff.1 h2).1
    omega
   have h5 := ht0.2 i v _ h2 (List.getElem?_eq_getElem hlt)
   have h6 := renT_range h5
   rw [← hl0] at h6
   have := ht.2 i (renT (List.range st.objs.length) v) u (by rw [List.getElem?_map, h4, h2]; rfl) hu
   rwa [h6] at this
end
end Go.Proofs.YtgcioclfplafkaaGreatV
end
section
namespace Go.Proofs.YtgcioclfplafkaaGreatV
open Go Go.RowKit
theorem fromCV_ren {c : CT} {v : CV} {x : El c} (h : fromCV c v = some x) (sel : List Nat) : renC sel v = v := by
 cases c <;> cases v <;> first | rfl | simp [fromCV] at h
theorem fromCVs_ren : ∀ {cs : List CT} {l : List CV} {x : HT cs}, fromCVs cs l = some x → ∀ sel, l.map (renC sel) = l
 | [], [], _, _, _ => rfl
 | [], _ :: _, _, h, _ => by simp [fromCVs] at h
 | [c], [], _, h, _ => by simp [fromCVs] at h
 | [c], [v], x, h, sel => by
  simp only [fromCVs] at h
  simp only [List.map_cons, List.map_nil, fromCV_ren h]
 | [c], _ :: _ :: _, _, h, _ => by simp [fromCVs] at h
 | c :: d :: cs, [], _, h, _ => by simp [fromCVs] at h
 | c :: d :: cs, v :: l, x, h, sel => by
  simp only [fromCVs] at h
  split at h
  ·rename_i a b h1 h2
   rw [List.map_cons, fromCV_ren h1, fromCVs_ren h2]
  ·cases h
theorem fromCV_np {c : CT} {v : CV} {x : El c} (h : fromCV c v = some x) : npC v = true := by
 cases c <;> cases v <;> first | rfl | simp [fromCV] at h
theorem fromCVs_np : ∀ {cs : List CT} {l : List CV} {x : HT cs}, fromCVs cs l = some x → l.all npC = true
 | [], [], _, _ => rfl
 | [], _ :: _, _, h => by simp [fromCVs] at h
 | [c], [], _, h => by simp [fromCVs] at h
 | [c], [v], x, h => by
  simp only [fromCVs] at h
  simp only [List.all_cons, List.all_nil, fromCV_np h, Bool.and_self]
 | [c], _ :: _ :: _, _, h => by simp [fromCVs] at h
 | c :: d :: cs, [], _, h => by simp [fromCVs] at h
 | c :: d :: cs, v :: l, x, h => by
  simp only [fromCVs] at h
  split at h
  ·rename_i a b h1 h2
   rw [List.all_cons, fromCV_np h1, fromCVs_np h2]; rfl
  ·cases h
theorem np_kill : ∀ {l : List Oper} {st : St}, npSt st = true → npSt (killD st l) = true
 | [], _, h => h
 | o :: l, st, h => np_kill (l := l) (np_put h rfl)
theorem np_putAll : ∀ {js : List (Nat × CT)} {vs : List CV} {st : St}, npSt st = true → vs.all npC = true → npSt (putAll st js vs) = true
 | [], _, _, h, _ => h
 | _ :: _, [], _, h, _ => h
 | (t, c) :: js, v :: vs, st, h, hv => by
  simp only [List.all_cons, Bool.and_eq_true] at hv
  exact np_putAll (js := js) (np_put (v := .c v) h hv.1) hv.2
theorem np_join {st : St} {l : List Oper} {js : List (Nat × CT)} {vs : List CV} (h : npSt st = true) (hv : vs.all npC = true) : npSt (putAll (killD st l) js vs) = true := np_putAll (np_kill h) hv
theorem join_text {P : Program} {T : Tab} {W : List Gh} {w0 : World} (hT : TabFn P T) (id : Nat) (ops : Array Oper) (js : List (Nat × CT)) : CodeOK P T W w0 (.region id ops false) (fun st K => evJoin T ops false js st (K .normal)) := by
 classical
 intro R st K r a w Q hR h hQ
 simp only [evJoin] at h
 obtain ⟨x, hx, h⟩ := Option.bind_eq_some_iff.1 h
 obtain ⟨⟨g, hR0⟩, hnp⟩ := hR
 simp only [evReg, Bool.false_eq_true, if_false] at hx
 have hD1 : ∀ o ∈ ops.toList, ∀ d, o.dst = some d → d ∈ ops.toList.filterMap (fun (o : Oper) => o.dst) := fun o ho d hd => List.mem_filterMap.2 ⟨o, ho, hd⟩
 have hc := evOps_congr (T := T) hT.leaf (ops := ops) (D := ops.toList.filterMap (fun (o : Oper) => o.dst)) (lo := st.objs.length) (fun j d hj => by
  obtain ⟨o, ho, hd⟩ := Option.bind_eq_some_iff.1 hj
  refine hD1 o ?_ d hd
  rw [← Array.getElem?_toList] at ho
  exact List.mem_of_getElem? ho) ops.toList (st := st) (K := fun st1 => (cellsT st1 js).bind (fromCVs (js.map (·.2))))
  (K' := fun st1 => if Fr st.objs.length (ops.toList.filterMap (fun (o : Oper) => o.dst)) st st1 then (cellsT st1 js).bind (fromCVs (js.map (·.2))) else none) hD1 (Nat.le_refl _) (fun st1 h1 => by rw [if_pos h1])
 rw [hc] at hx
 refine wp_region_list (evOps_ok hT ops.toList hR0 hnp hx (fun st1 a' w' hR1 h1 => ?_))
 split at h1
 ·rename_i hF
  obtain ⟨vs, hvs, hfrom⟩ := Option.bind_eq_some_iff.1 h1
  rw [toCVs_from hfrom] at h
  exact hQ .normal _ a' w' ⟨rel_join ⟨g, hR0⟩ hR1.1 hF (fun t ht => List.mem_filterMap.1 ht) hvs (fromCVs_ren hfrom), fun hn => ⟨np_join (hnp hn).1 (fromCVs_np hfrom), (hnp hn).2⟩⟩ h
 ·cases h1
end Go.Proofs.YtgcioclfplafkaaGreatV
end
section
namespace Go.Proofs.YtgcioclfplafkaaGreatV
open Go Go.RowKit
def Eqs (objs objs' : List Ob) (ids : List Nat) : Prop := ∀ id ∈ ids, Ob.at objs id = Ob.at objs' id
def EqT (objs objs' : List Ob) (v : TV) : Prop := Eqs objs objs' (idT v) ∧ ∀ id ∈ idT v, ∀ c, Ob.at objs id = .box c → Eqs objs objs' (c.flatMap idC)
section
variable {T : Tab} {objs objs' : List Ob}
theorem eqs_head {v : CV} {l : List CV} (h : Eqs objs objs' ((v :: l).flatMap idC)) : Eqs objs objs' (idC v) := fun id hi => h id (by simp [hi])
theorem eqs_tail {v : CV} {l : List CV} (h : Eqs objs objs' ((v :: l).flatMap idC)) : Eqs objs objs' (l.flatMap idC) := fun id hi => h id (by
 rw [List.flatMap_cons]; exact List.mem_append_right _ hi)
theorem freezeC_eq {v : CV} (h : Eqs objs objs' (idC v)) : freezeC objs v = freezeC objs' v := by
 cases v <;> first | rfl | (simp only [freezeC]; rw [h _ (by simp [idC])])
theorem freezeL_eq : ∀ {l : List CV}, Eqs objs objs' (l.flatMap idC) → freezeL objs l = freezeL objs' l
 | [], _ => rfl
 | v :: l, h => by simp only [freezeL]; rw [freezeC_eq (eqs_head h), freezeL_eq (eqs_tail h)]
theorem freezeT_eq {v : TV} (h : EqT objs objs' v) : freezeT objs v = freezeT objs' v := by
 obtain ⟨h1, h2⟩ := h
 cases v with
 | c v =>
  cases v with
  | box id off =>
   simp only [freezeT]
   have e := h1 id (by simp [idT, idC])
   rw [← e]
   cases hb : Ob.at objs id <;> try rfl
   rename_i l
   simp only
   rw [freezeL_eq (fun j hj => h2 id (by simp [idT, idC]) l hb j (by
    rw [List.mem_flatMap] at hj ⊢
    obtain ⟨x, hx, hj⟩ := hj
    exact ⟨x, List.mem_of_mem_drop hx, hj⟩))]
  | _ => simp only [freezeT]; rw [freezeC_eq h1]
 | agg l => simp only [freezeT]; rw [freezeL_eq h1]
 | tup l => rfl
 | fp l => rfl
 | er id i off => simp only [freezeT]; rw [h1 id (by simp [idT])]
 | fn f l => simp only [freezeT]; rw [freezeL_eq h1]
theorem freezeA_eq : ∀ {l : List TV}, (∀ v ∈ l, EqT objs objs' v) → freezeA objs l = freezeA objs' l
 | [], _ => rfl
 | v :: l, h => by simp only [freezeA]; rw [freezeT_eq (h v (by simp)), freezeA_eq (fun u hu => h u (by simp [hu]))]
theorem lendC_eq {v : CV} (h : Eqs objs objs' (idC v)) : lendC objs v = lendC objs' v := by
 cases v with
 | ref id => simp only [lendC]; rw [h id (by simp [idC])]
 | pref id i j => simp only [lendC]; rw [freezeC_eq h]
 | _ => rfl
theorem lendL_eq : ∀ {l : List CV}, Eqs objs objs' (l.flatMap idC) → lendL objs l = lendL objs' l
 | [], _ => rfl
 | v :: l, h => by simp only [lendL]; rw [lendC_eq (eqs_head h), lendL_eq (eqs_tail h)]
theorem lendT_eq {v : TV} (h : EqT objs objs' v) : lendT objs v = lendT objs' v := by
 cases v with
 | c v => simp only [lendT]; rw [lendC_eq h.1]
 | agg l => simp only [lendT]; rw [lendL_eq h.1]
 | _ => rfl
theorem lendA_eq : ∀ {l : List TV}, (∀ v ∈ l, EqT objs objs' v) → lendA objs l = lendA objs' l
 | [], _ => rfl
 | v :: l, h => by simp only [lendA]; rw [lendT_eq (h v (by simp)), lendA_eq (fun u hu => h u (by simp [hu]))]
theorem lendX_eq {f : Nat} {l : List TV} (h : ∀ v ∈ l, EqT objs objs' v) : lendX T objs f l = lendX T objs' f l := by
 unfold lendX
 split
 ·split
  ·rename_i id i j lo hi
   rw [freezeC_eq (h (.c (.psub id i j lo hi)) (by simp)).1]
  ·rfl
 ·rw [lendA_eq h, freezeA_eq h]
theorem lendC_ids {v v' : CV} {b : List CV} (h : lendC objs v = some (v', b)) : ∀ x ∈ b.flatMap idC, x ∈ idC v := by
 cases v <;> simp only [lendC] at h
 case ref id =>
  split at h
  ·injection h with h
   obtain ⟨_, rfl⟩ := Prod.mk.inj h
   simp
  ·cases h
 case pref id i j =>
  split at h
  ·injection h with h
   obtain ⟨_, rfl⟩ := Prod.mk.inj h
   simp
  ·cases h
 all_goals first | (injection h with h; obtain ⟨_, rfl⟩ := Prod.mk.inj h; simp) | cases h
theorem lendL_ids : ∀ {l l' : List CV} {b : List CV}, lendL objs l = some (l', b) → ∀ x ∈ b.flatMap idC, x ∈ l.flatMap idC
 | [], l', b, h => by simp only [lendL] at h; injection h with h; obtain ⟨_, rfl⟩ := Prod.mk.inj h; simp
 | v :: l, l', b, h => by
  simp only [lendL] at h
  split at h
  ·rename_i h1 h2
   injection h with h
   obtain ⟨_, rfl⟩ := Prod.mk.inj h
   intro x hx
   rw [List.flatMap_append, List.mem_append] at hx
   rw [List.flatMap_cons, List.mem_append]
   exact hx.imp (lendC_ids h1 x) (lendL_ids h2 x)
  ·cases h
theorem lendT_ids {v v' : TV} {b : List CV} (h : lendT objs v = some (v', b)) : ∀ x ∈ b.flatMap idC, x ∈ idT v := by
 cases v <;> simp only [lendT] at h
 case c v =>
  split at h
  ·rename_i h1
   injection h with h
   obtain ⟨_, rfl⟩ := Prod.mk.inj h
   exact lendC_ids h1
  ·cases h
 case agg v =>
  split at h
  ·rename_i h1
   injection h with h
   obtain ⟨_, rfl⟩ := Prod.mk.inj h
   exact lendL_ids h1
  ·cases h
 all_goals first | (injection h with h; obtain ⟨_, rfl⟩ := Prod.mk.inj h; simp) | cases h
theorem lendA_ids : ∀ {l l' : List TV} {b : List CV}, lendA objs l = some (l', b) → ∀ x ∈ b.flatMap idC, ∃ v ∈ l, x ∈ idT v
 | [], l', b, h => by simp only [lendA] at h; injection h with h; obtain ⟨_, rfl⟩ := Prod.mk.inj h; simp
 | v :: l, l', b, h => by
  simp only [lendA] at h
  split at h
  ·rename_i h1 h2
   injection h with h
   obtain ⟨_, rfl⟩ := Prod.mk.inj h
   intro x hx
   rw [List.flatMap_append, List.mem_append] at hx
   rcases hx with hx | hx
   ·exact ⟨v, by simp, lendT_ids h1 x hx⟩
   ·obtain ⟨u, hu, hx⟩ := lendA_ids h2 x hx
    exact ⟨u, by simp [hu], hx⟩
  ·cases h
theorem lendX_ids {f : Nat} {l l' : List TV} {b : List CV} (h : lendX T objs f l = some (l', b)) : ∀ x ∈ b.flatMap idC, ∃ v ∈ l, x ∈ idT v := by
 unfold lendX at h
 split at h
 ·split at h
  ·split at h
   ·injection h with h
    obtain ⟨_, rfl⟩ := Prod.mk.inj h
    intro x hx
    exact ⟨_, List.mem_singleton.2 rfl, by simpa [idT] using hx⟩
   ·cases h
  ·cases h
 ·split at h
  ·exact lendA_ids h
  ·split at h
   ·injection h with h
    obtain ⟨_, rfl⟩ := Prod.mk.inj h
    simp
   ·cases h
theorem giveBack_eq : ∀ {b m : List CV}, Eqs objs objs' (b.flatMap idC) → giveBack objs b m = giveBack objs' b m
 | [], [], _ => rfl
 | [], _ :: _, _ => rfl
 | v :: b, [], _ => by cases v <;> rfl
 | v :: b, u :: m, h => by
  have ih := giveBack_eq (b := b) (m := m) (eqs_tail h)
  cases v with
  | ref id => cases u <;> first | rfl | (simp only [giveBack]; rw [ih])
  | pref id i j => simp only [giveBack]; rw [ih, h id (by simp [idC])]
  | psub id i j lo hi => cases u <;> first | rfl | (simp only [giveBack]; rw [ih, h id (by simp [idC])])
  | _ => rfl
theorem aliveC_eq {v : CV} (h : Eqs objs objs' (idC v)) : aliveC objs v = aliveC objs' v := by
 cases v <;> first | rfl | (simp only [aliveC]; rw [h _ (by simp [idC])])
theorem allAlive_eq {l : List CV} (h : Eqs objs objs' (l.flatMap idC)) : l.all (aliveC objs) = l.all (aliveC objs') := by
 induction l with
 | nil => rfl
 | cons v l ih => rw [List.all_cons, List.all_cons, aliveC_eq (eqs_head h), ih (eqs_tail h)]
theorem aliveT_eq {v : TV} (h : EqT objs objs' v) : aliveT objs v = aliveT objs' v := by
 cases v with
 | c v => cases v <;> first | rfl | (simp only [aliveT]; rw [h.1 _ (by simp [idT, idC])])
 | er id i off => simp only [aliveT]; rw [h.1 _ (by simp [idT])]
 | _ => rfl
theorem cellsOf_eq {v : TV} (h : Eqs objs objs' (idT v)) : cellsOf objs v = cellsOf objs' v := by
 cases v with
 | c v => simp only [cellsOf]; rw [aliveC_eq h]
 | _ => rfl
theorem cellsOf_ids {v : TV} {vs : List CV} (h : cellsOf objs v = some vs) : ∀ x ∈ vs.flatMap idC, x ∈ idT v := by
 cases v with
 | c v =>
  simp only [cellsOf] at h
  split at h
  ·injection h with h; subst h; simp [idT]
  ·cases h
 | agg l => simp only [cellsOf] at h; injection h with h; subst h; simp [idT]
 | _ => cases h
theorem content_eq {v : CV} (h : Eqs objs objs' (idC v)) : content objs v = content objs' v := by
 unfold content; simp only; rw [freezeC_eq h]
theorem decO_eq : ∀ (c : CT) {l : List CV}, Eqs objs objs' (l.flatMap idC) → decO objs c l = decO objs' c l
 | .int k, l, h => by
  cases l <;> try rfl
  rename_i v l; cases v <;> rfl
 | .bool, l, h => by
  cases l <;> try rfl
  rename_i v l; cases v <;> rfl
 | .str, l, h => by
  cases l <;> try rfl
  rename_i v l; cases v <;> rfl
 | .sl r, l, h => by
  cases l with
  | nil => rfl
  | cons v l => cases v <;> first | rfl | (simp only [decO]; rw [h _ (by simp [idC])])
 | .pair a b, l, h => by
  simp only [decO]
  rw [decO_eq a h]
  split
  ·rename_i x l1 i1 h1
   have : ∀ (c : CT) {l l1 : List CV} {x : El c} {i1 : List Nat}, decO objs' c l = some (x, l1, i1) → ∀ y ∈ l1, y ∈ l := by
    intro c
    induction c with
    | int k =>
     intro l l1 x i1 h
     cases l with
     | nil => cases h
     | cons v l =>
      cases v <;> simp only [decO] at h <;> try cases h
      split at h
      ·injection h with h
       have := (Prod.mk.inj (Prod.mk.inj h).2).1
       subst this
       intro y hy; simp [hy]
      ·cases h
    | bool =>
     intro l l1 x i1 h
     cases l with
     | nil => cases h
     | cons v l =>
      cases v <;> simp only [decO] at h <;> try cases h
      intro y hy; simp [hy]
    | str =>
     intro l l1 x i1 h
     cases l with
     | nil => cases h
     | cons v l =>
      cases v <;> simp only [decO] at h <;> try cases h
      intro y hy; simp [hy]
    | sl r _ =>
     intro l l1 x i1 h
     cases l with
     | nil => cases h
     | cons v l =>
      cases v <;> simp only [decO] at h <;> try cases h
      ·intro y hy; simp [hy]
      ·split at h
       ·split at h
        ·injection h with h
         have := (Prod.mk.inj (Prod.mk.inj h).2).1
         subst this
         intro y hy; simp [hy]
        ·cases h
       ·cases h
    | pair a b iha ihb =>
     intro l l1 x i1 h
     simp only [decO] at h
     split at h
     ·rename_i h1
      split at h
      ·rename_i h2
       injection h with h
       have := (Prod.mk.inj (Prod.mk.inj h).2).1
       subst this
       intro y hy
       exact iha h1 y (ihb h2 y hy)
      ·cases h
     ·cases h
   have hm := this a h1
   rw [decO_eq b (l := l1) (fun id hi => h id (by
    rw [List.mem_flatMap] at hi ⊢
    obtain ⟨y, hy, hi⟩ := hi
    exact ⟨y, hm y hy, hi⟩))]
  ·rfl
theorem partsOf_eq {ti : TI} : ∀ (ps : List (Nat × TV)) (cells : List CV), (∀ p ∈ ps, EqT objs objs' p.2) → partsOf objs ti cells ps = partsOf objs' ti cells ps
 | [], _, _ => rfl
 | (i, v) :: ps, cells, h => by
  simp only [partsOf]
  have hv : Eqs objs objs' (idT v) := (h (i, v) (by simp)).1
  rw [cellsOf_eq hv]
  split
  ·split
   ·exact partsOf_eq ps _ (fun p hp => h p (by simp [hp]))
   ·rfl
  ·rfl
theorem builtL_eq {r : CT} : ∀ (ps : List (Nat × TV)) (n : Nat), (∀ p ∈ ps, EqT objs objs' p.2) → builtL objs r n ps = builtL objs' r n ps
 | [], _, _ => rfl
 | (i, v) :: ps, n, h => by
  have hv : Eqs objs objs' (idT v) := (h (i, v) (by simp)).1
  simp only [builtL]
  rw [cellsOf_eq hv, builtL_eq ps (n + 1) (fun p hp => h p (by simp [hp]))]
  split
  ·split
   ·rename_i vs hvs
    rw [decO_eq r (l := vs) (fun id hi => hv id (cellsOf_ids hvs id hi))]
   ·rfl
  ·rfl
variable {R : Type} (K : Kont R)
theorem lenC_eq (t : Nat) {v : TV} (h : EqT objs objs' v) : lenC T objs t v K = lenC T objs' t v K := by
 cases v <;> try rfl
 rename_i v
 cases v <;> try rfl
 all_goals (simp only [lenC]; rw [freezeC_eq h.1])
theorem ixC_eq (te : TI) {v i : TV} (h : EqT objs objs' v) : ixC objs te v i K = ixC objs' te v i K := by
 cases v <;> try rfl
 rename_i v
 cases v <;> cases i <;> try rfl
 all_goals (rename_i i; cases i <;> try rfl)
 all_goals (simp only [ixC]; rw [h.1 _ (by simp [idT, idC])])
theorem loadC_eq (ti : TI) {v : TV} (h : EqT objs objs' v) : loadC objs ti v K = loadC objs' ti v K := by
 cases v <;> try rfl
 ·rename_i v
  cases v <;> try rfl
  simp only [loadC]; rw [h.1 _ (by simp [idT, idC])]
 ·simp only [loadC]; rw [h.1 _ (by simp [idT])]
theorem storeC_eq (ti : TI) {v x : TV} (h : EqT objs objs' v) (hx : Eqs objs objs' (idT x)) : storeC objs ti v x K = storeC objs' ti v x K := by
 unfold storeC
 rw [cellsOf_eq hx]
 split
 ·rename_i vs hvs
  rw [allAlive_eq (objs := objs) (objs' := objs') (l := vs) (fun id hi => hx id (cellsOf_ids hvs id hi))]
  split
  ·cases v <;> try rfl
   ·rename_i v
    cases v <;> try rfl
    simp only; rw [h.1 _ (by simp [idT, idC])]
   ·simp only; rw [h.1 _ (by simp [idT])]
  ·rfl
 ·rfl
theorem oneN_eq {c : CT} {v : CV} (h : Eqs objs objs' (idC v)) : oneN objs c v = oneN objs' c v := by
 unfold oneN
 rw [decO_eq c (l := [v]) (fun id hi => h id (by simpa using hi))]
theorem setN_eq {off : Nat} {vs : List CV} (h : Eqs objs objs' (vs.flatMap idC)) : ∀ (c : CT) (j : Nat) (x : El c), setN objs off vs c j x = setN objs' off vs c j x := by
 have key : ∀ (c : CT) (j : Nat) (x : El c), (if off ≤ j ∧ j < off + vs.length then oneN objs c (vs.getD (j - off) .dead) else some (x, [])) = (if off ≤ j ∧ j < off + vs.length then oneN objs' c (vs.getD (j - off) .dead) else some (x, [])) := by
  intro c j x
  by_cases hin : off ≤ j ∧ j < off + vs.length
  ·rw [if_pos hin, if_pos hin]
   refine oneN_eq (fun id hi => h id ?_)
   have hl : j - off < vs.length := by omega
   rw [List.getD_eq_getElem?_getD, List.getElem?_eq_getElem hl, Option.getD_some] at hi
   exact List.mem_flatMap.2 ⟨_, List.getElem_mem hl, hi⟩
  ·rw [if_neg hin, if_neg hin]
 intro c
 induction c with
 | pair a b iha ihb =>
  intro j x
  simp only [setN]
  rw [iha, ihb]
 | int k => intro j x; simp only [setN]; exact key _ j x
 | bool => intro j x; simp only [setN]; exact key _ j x
 | str => intro j x; simp only [setN]; exact key _ j x
 | sl r _ => intro j x; simp only [setN]; exact key _ j x
theorem storeN_eq (ti : TI) {v x : TV} (h : EqT objs objs' v) (hx : Eqs objs objs' (idT x)) : storeN objs ti v x K = storeN objs' ti v x K := by
 unfold storeN
 rw [cellsOf_eq hx]
 cases hvs : cellsOf objs' x with
 | none => rfl
 | some vs =>
  cases v <;> try rfl
  rename_i id i off
  have hv : Eqs objs objs' (vs.flatMap idC) := fun id hi => hx id (cellsOf_ids hvs id hi)
  simp only
  rw [allAlive_eq hv, h.1 _ (by simp [idT])]
  split
  ·split
   ·rename_i r xs _
    rw [setN_eq hv r 0]
   ·rfl
  ·rfl
theorem fldC_eq (off : Nat) {v : TV} (h : EqT objs objs' v) : fldC objs off v K = fldC objs' off v K := by
 unfold fldC
 rw [aliveT_eq h]
theorem appC_eq (nid bytes : Nat) (r : CT) {s x : TV} (hs : EqT objs objs' s) (hx : EqT objs objs' x) : appC objs nid bytes r s x K = appC objs' nid bytes r s x K := by
 cases s <;> try rfl
 cases x <;> try rfl
 rename_i s x
 simp only [appC]
 rw [content_eq hx.1]
 split
 ·split
  ·split
   ·split
    ·rfl
    ·rw [hs.1 _ (by simp [idT, idC])]
    ·rfl
   ·rfl
  ·rfl
 ·rfl
theorem sliC_eq (te : TI) {v : TV} (lo hi : Option TV) (h : EqT objs objs' v) : sliC objs te v lo hi K = sliC objs' te v lo hi K := by
 cases v <;> try rfl
 rename_i v
 cases v <;> try rfl
 ·simp only [sliC]; rw [h.1 _ (by simp [idT, idC])]
 ·simp only [sliC]; rw [freezeC_eq h.1]
end
end Go.Proofs.YtgcioclfplafkaaGreatV
end
section
namespace Go.Proofs.YtgcioclfplafkaaGreatV
open Go Go.RowKit
section
variable {T : Tab} {st st' : St}
theorem opd_tmps {x : Operand} (h : ∀ t, x = Operand.tmp t → st.get t = st'.get t) (t : Nat) : opd T st t x = opd T st' t x := by
 cases x with
 | tmp n => exact h n rfl
 | const v =>
  cases v <;> try rfl
  rename_i a n c
  cases a <;> try rfl
  cases n <;> try rfl
  cases c <;> rfl
 | _ => rfl
theorem constC_ids (c : CT) (v : Value) : idC (constC c v) = [] := by
 unfold constC
 split
 ·rfl
 ·unfold ofCell; split <;> rfl
theorem constL_ids : ∀ (c : CT) (l : List Value), (constL c l).flatMap idC = []
 | .pair a b, l => by simp only [constL, List.flatMap_append, constL_ids a, constL_ids b, List.append_nil]
 | .int k, l => by simp [constL, constC_ids]
 | .bool, l => by simp [constL, constC_ids]
 | .str, l => by simp [constL, constC_ids]
 | .sl r, l => by simp [constL, constC_ids]
theorem opd_ids (x : Operand) (t : Nat) : idT (opd T st t x) = match x with | .tmp n => idT (st.get n) | _ => [] := by
 cases x with
 | tmp n => rfl
 | func f => rfl
 | const v =>
  simp only
  unfold opd
  split
  ·rename_i h; cases h
  ·split
   ·split
    ·simp only [idT, constL_ids]
    ·rfl
   ·rfl
  ·split
   ·simp only [idT, constC_ids]
   ·rfl
  ·simp only [idT]
   unfold ofCell; split <;> rfl
  ·rename_i h; cases h
  ·rfl
 | _ => rfl
theorem pairs_eq {α : Type} {l : List (α × Operand)} {f g : Operand → TV} (h : ∀ p ∈ l, f p.2 = g p.2) : (l.map fun (i, x) => (i, f x)) = l.map fun (i, x) => (i, g x) :=
 List.map_congr_left fun p hp => by obtain ⟨i, x⟩ := p; simp only; rw [h (i, x) hp]
variable {R : Type} (K : Kont R)
theorem opSem_eq (nid : Nat) (o : Oper) (hρ : ∀ x ∈ o.op.operands.toList, ∀ t, opd T st t x = opd T st' t x) (hE : ∀ x ∈ o.op.operands.toList, ∀ t, EqT st.objs st'.objs (opd T st t x)) :
  opSem T st nid o K = opSem T st' nid o K := by
 obtain ⟨dst, op, type, pos, after, guard⟩ := o
 unfold opSem
 cases op <;> try rfl
 case move x => simp only; rw [hρ x (by simp [Op.operands])]
 case assign x => simp only; rw [hρ x (by simp [Op.operands])]
 case nilCheck x => simp only; rw [← hρ x (by simp [Op.operands]), aliveT_eq (hE x (by simp [Op.operands]) _)]
 case pick c a b => simp only; rw [hρ c (by simp [Op.operands]), hρ a (by simp [Op.operands]), hρ b (by simp [Op.operands])]
 case box t x => simp only; rw [← hρ x (by simp [Op.operands]), cellsOf_eq (hE x (by simp [Op.operands]) _).1]
 case build t ps =>
  simp only
  have h1 : ∀ p ∈ ps.toList, opd T st type p.2 = opd T st' type p.2 := fun p hp => hρ p.2 (by simp only [Op.operands, List.mem_map]; exact ⟨p, hp, rfl⟩) _
  rw [← pairs_eq h1]
  cases T.ty t <;> try rfl
  simp only
  rw [partsOf_eq (objs := st.objs) (objs' := st'.objs) _ _ (fun p hp => by
   obtain ⟨q, hq, rfl⟩ := List.mem_map.1 hp
   exact hE q.2 (by simp only [Op.operands, List.mem_map]; exact ⟨q, hq, rfl⟩) _)]
 case buildSlice t n ps =>
  simp only
  cases T.ty t <;> try rfl
  rename_i ts
  cases elemTy T t <;> try rfl
  simp only
  have h1 : ∀ p ∈ ps.toList, opd T st ts.elem p.2 = opd T st' ts.elem p.2 := fun p hp => hρ p.2 (by simp only [Op.operands, List.mem_map]; exact ⟨p, hp, rfl⟩) _
  rw [← pairs_eq h1, builtL_eq (objs := st.objs) (objs' := st'.objs) _ _ (fun p hp => by
   obtain ⟨q, hq, rfl⟩ := List.mem_map.1 hp
   exact hE q.2 (by simp only [Op.operands, List.mem_map]; exact ⟨q, hq, rfl⟩) _)]
 case load t a =>
  simp only; rw [← hρ a (by simp [Op.operands])]
  split
  ·exact loadC_eq K _ (hE a (by simp [Op.operands]) _)
  ·rfl
 case store t a x =>
  simp only; rw [← hρ a (by simp [Op.operands]), ← hρ x (by simp [Op.operands])]
  split
  ·split
   ·exact storeN_eq K _ (hE a (by simp [Op.operands]) _) (hE x (by simp [Op.operands]) _).1
   ·exact storeC_eq K _ (hE a (by simp [Op.operands]) _) (hE x (by simp [Op.operands]) _).1
  ·rfl
 case binOp b t x y p => simp only; rw [hρ x (by simp [Op.operands]), hρ y (by simp [Op.operands])]
 case unOp u t x => simp only; rw [hρ x (by simp [Op.operands])]
 case convert s t x =>
  simp only; rw [← hρ x (by simp [Op.operands])]
  have hx := hE x (by simp [Op.operands]) type
  generalize opd T st type x = v at *
  cases v <;> try rfl
  rename_i v
  have := freezeC_eq (objs := st.objs) (objs' := st'.objs) (v := v) hx.1
  cases T.ty t <;> cases v <;> first | rfl | simp only [this]
 case makeSlice t n c => simp only; rw [hρ n (by simp [Op.operands]), hρ c (by simp [Op.operands])]
 case slice t x lo hi mx =>
  cases mx <;> try rfl
  simp only
  have hx := hE x (by simp [Op.operands]) type
  rw [← hρ x (by simp [Op.operands])]
  have hl : lo.map (opd T st type) = lo.map (opd T st' type) := by
   cases lo with
   | none => rfl
   | some l => simp only [Option.map_some]; rw [hρ l (by simp [Op.operands])]
  have hh : hi.map (opd T st type) = hi.map (opd T st' type) := by
   cases hi with
   | none => rfl
   | some l => simp only [Option.map_some]; rw [hρ l (by simp [Op.operands])]
  rw [hl, hh]
  generalize opd T st type x = v at *
  split
  ·rfl
  ·split
   ·exact sliC_eq K _ _ _ hx
   ·rfl
 case fieldAddr t x f =>
  simp only; rw [← hρ x (by simp [Op.operands])]
  repeat' (first | rfl | exact fldC_eq K _ (hE x (by simp [Op.operands]) _) | split)
 case indexAddr t x i =>
  simp only; rw [← hρ x (by simp [Op.operands]), hρ i (by simp [Op.operands])]
  split
  ·exact ixC_eq K _ (hE x (by simp [Op.operands]) _)
  ·rfl
 case index t x i => simp only; rw [hρ x (by simp [Op.operands]), hρ i (by simp [Op.operands])]
 case extract x i => simp only; rw [hρ x (by simp [Op.operands])]
 case call c =>
  obtain ⟨callee, args, ts⟩ := c
  have harg : ∀ (i : Nat) (x : Operand), args[i]? = some x → x ∈ args.toList := fun i x h => by rw [← Array.getElem?_toList] at h; exact List.mem_of_getElem? h
  cases callee <;> try rfl
  case value x =>
   simp only
   have hx := hE x (by simp [Op.operands, Call.operands]) type
   rw [← hρ x (by simp [Op.operands, Call.operands])]
   generalize opd T st type x = v at *
   cases v <;> try rfl
   rename_i f caps
   simp only
   have h1 : ((args.toList.zip ts.toList).map fun p => opd T st p.2 p.1) = (args.toList.zip ts.toList).map fun p => opd T st' p.2 p.1 := List.map_congr_left fun p hp => hρ p.1 (by
    simp only [Op.operands, Call.operands, Array.toList_append]; exact List.mem_append_right _ (List.of_mem_zip hp).1) p.2
   have h2 : ∀ v ∈ ((args.toList.zip ts.toList).map fun p => opd T st p.2 p.1) ++ caps.map TV.c, EqT st.objs st'.objs v := by
    intro v hv
    rcases List.mem_append.1 hv with hv | hv
    ·obtain ⟨⟨y, t⟩, hy, rfl⟩ := List.mem_map.1 hv
     exact hE y (by simp only [Op.operands, Call.operands, Array.toList_append]; exact List.mem_append_right _ (List.of_mem_zip hy).1) t
    ·obtain ⟨c, hc, rfl⟩ := List.mem_map.1 hv
     have hs : ∀ id ∈ idC c, id ∈ caps.flatMap idC := fun id hi => List.mem_flatMap.2 ⟨c, hc, hi⟩
     exact ⟨fun id hi => hx.1 id (hs id hi), fun id hi => hx.2 id (hs id hi)⟩
   rw [← h1, ← lendX_eq h2]
   generalize hb : lendX T st.objs f _ = q
   cases q with
   | some q =>
    obtain ⟨vs, back⟩ := q
    have h3 : Eqs st.objs st'.objs (back.flatMap idC) := fun id hi => by
     obtain ⟨v, hv, hi⟩ := lendX_ids hb id hi
     exact (h2 v hv).1 id hi
    simp only [giveBack_eq h3]
   | none => rfl
  case builtin b =>
   have hO : ∀ x ∈ args.toList, x ∈ (Op.call ⟨.builtin b, args, ts⟩).operands.toList := fun x hx => by simpa [Op.operands, Call.operands] using hx
   cases b <;> try rfl
   case len =>
    simp only
    split
    ·rename_i x t hx _
     have hm := hO x (harg 0 x hx)
     rw [← hρ x hm]
     exact lenC_eq K _ (hE x hm _)
    ·rfl
   case append =>
    simp only
    split
    ·rename_i s x te hs hx _
     have hms := hO s (harg 0 s hs)
     have hmx := hO x (harg 1 x hx)
     rw [← hρ s hms, ← hρ x hmx, appC_eq (objs := st.objs) (objs' := st'.objs) K nid _ _ (hE s hms _) (hE x hmx _)]
    ·rfl
   case min =>
    simp only
    split
    ·rename_i x y hx hy _
     rw [← hρ x (hO x (harg 0 x hx)), ← hρ y (hO y (harg 1 y hy))]
    ·rename_i x y z hx hy hz
     split
     ·rename_i u hu _
      rw [← hρ x (hO x (harg 0 x hx)), ← hρ y (hO y (harg 1 y hy)), ← hρ z (hO z (harg 2 z hz)), ← hρ u (hO u (harg 3 u hu))]
     ·rfl
    ·rfl
   all_goals
    simp only
    split
    ·rename_i x y hx hy _
     have hmx := hO x (harg 0 x hx)
     have hmy := hO y (harg 1 y hy)
     rw [← hρ x hmx, ← hρ y hmy]
    ·rfl
end
end Go.Proofs.YtgcioclfplafkaaGreatV
end
section
namespace Go.Proofs.YtgcioclfplafkaaGreatV
open Go Go.RowKit
theorem setAt_gt : ∀ (l : List CV) (off : Nat) (vs : List CV) (k : Nat), (setAt l off vs)[k]? = if k < l.length ∧ off ≤ k ∧ k < off + vs.length then vs[k - off]? else l[k]?
 | [], 0, [], k => by simp [setAt]
 | [], 0, _ :: _, k => by simp [setAt]
 | [], _ + 1, [], k => by simp [setAt]
 | [], _ + 1, _ :: _, k => by simp [setAt]
 | x :: l, 0, [], k => by
  simp only [setAt]
  rw [if_neg (by simp)]
 | x :: l, 0, v :: vs, 0 => by simp [setAt]
 | x :: l, 0, v :: vs, k + 1 => by
  simp only [setAt, List.getElem?_cons_succ]
  rw [setAt_gt l 0 vs k]
  by_cases h : k < l.length ∧ 0 ≤ k ∧ k < 0 + vs.length
  ·rw [if_pos h, if_pos (by simp only [List.length_cons]; omega)]
   simp
  ·rw [if_neg h, if_neg (by simp only [List.length_cons]; omega)]
 | x :: l, n + 1, vs, 0 => by
  cases vs <;> simp [setAt]
 | x :: l, n + 1, vs, k + 1 => by
  have e : setAt (x :: l) (n + 1) vs = x :: setAt l n vs := by cases vs <;> rfl
  rw [e, List.getElem?_cons_succ, setAt_gt l n vs k, List.getElem?_cons_succ]
  by_cases h : k < l.length ∧ n ≤ k ∧ k < n + vs.length
  ·rw [if_pos h, if_pos (by simp only [List.length_cons]; omega)]
   congr 1; omega
  ·rw [if_neg h, if_neg (by simp only [List.length_cons]; omega)]
def PtEq (objs objs' : List Ob) (p : Pt) : Prop :=
 Ob.at objs p.id = Ob.at objs' p.id ∨ (p.n ≠ 0 ∧ ∃ l l', Ob.at objs p.id = .box l ∧ Ob.at objs' p.id = .box l' ∧ l.length = l'.length ∧ ∀ k, p.lo ≤ k → k < p.lo + p.n → l[k]? = l'[k]?)
theorem PtEq.symm {objs objs' : List Ob} {p : Pt} (h : PtEq objs objs' p) : PtEq objs' objs p := by
 rcases h with h | ⟨h0, l, l', h1, h2, h3, h4⟩
 ·exact .inl h.symm
 ·exact .inr ⟨h0, l', l, h2, h1, h3.symm, fun k a b => (h4 k a b).symm⟩
structure Agree (L : List Nat) (ps : List Pt) (st st' : St) : Prop where
 tl : st.tmps.length = st'.tmps.length
 ol : st.objs.length = st'.objs.length
 tm : ∀ t ∈ L, st.get t = st'.get t
 ob : ∀ p ∈ ps, PtEq st.objs st'.objs p
theorem Agree.refl (L : List Nat) (ps : List Pt) (st : St) : Agree L ps st st := ⟨rfl, rfl, fun _ _ => rfl, fun _ _ => .inl rfl⟩
theorem Agree.symm {L : List Nat} {ps : List Pt} {st st' : St} (h : Agree L ps st st') : Agree L ps st' st := ⟨h.tl.symm, h.ol.symm, fun t ht => (h.tm t ht).symm, fun p hp => (h.ob p hp).symm⟩
theorem at_set (objs : List Ob) (i j : Nat) (o : Ob) : Ob.at (objs.set i o) j = if i = j ∧ j < objs.length then o else Ob.at objs j := by
 unfold Ob.at
 rw [List.getD_eq_getElem?_getD, List.getD_eq_getElem?_getD, List.getElem?_set]
 by_cases h : i = j
 ·subst h
  by_cases hl : i < objs.length
  ·simp [hl]
  ·simp [hl]
 ·simp [h]
theorem at_box_lt {objs : List Ob} {i : Nat} {l : List CV} (h : Ob.at objs i = .box l) : i < objs.length := by
 unfold Ob.at at h
 rw [List.getD_eq_getElem?_getD] at h
 rcases Nat.lt_or_ge i objs.length with hl | hl
 ·exact hl
 ·rw [List.getElem?_eq_none hl] at h; cases h
def setOne (objs : List Ob) : Nat × Md → List Ob
 | (i, .ob o) => objs.set i o
 | (i, .cells off vs) => match Ob.at objs i with | .box c => objs.set i (.box (setAt c off vs)) | _ => objs
theorem setOb_cons (objs : List Ob) (m : Nat × Md) (u : List (Nat × Md)) : setOb objs (m :: u) = setOb (setOne objs m) u := by
 obtain ⟨i, m⟩ := m
 cases m <;> rfl
theorem setOne_length (objs : List Ob) (m : Nat × Md) : (setOne objs m).length = objs.length := by
 obtain ⟨i, m⟩ := m
 cases m with
 | ob o => simp [setOne]
 | cells off vs =>
  simp only [setOne]
  split <;> simp
theorem at_setOne (objs : List Ob) (m : Nat × Md) (j : Nat) (h : m.1 ≠ j) : Ob.at (setOne objs m) j = Ob.at objs j := by
 obtain ⟨i, m⟩ := m
 cases m with
 | ob o => simp only [setOne, at_set]; rw [if_neg (fun e => h e.1)]
 | cells off vs =>
  simp only [setOne]
  split
  ·rw [at_set, if_neg (fun e => h e.1)]
  ·rfl
theorem pt_both {objs objs' : List Ob} {p : Pt} (hl : objs.length = objs'.length) (h : PtEq objs objs' p) (m : Nat × Md) : PtEq (setOne objs m) (setOne objs' m) p := by
 by_cases e : m.1 = p.id
 ·obtain ⟨i, m⟩ := m
  simp only at e
  subst e
  rcases h with h | ⟨h0, l, l', h1, h2, h3, h4⟩
  ·refine .inl ?_
   cases m with
   | ob o => simp only [setOne, at_set, hl, h]
   | cells off vs =>
    simp only [setOne]
    rw [h]
    split
    ·rw [at_set, at_set, hl, h]
    ·exact h
  ·cases m with
   | ob o =>
    refine .inl ?_
    simp only [setOne, at_set]
    rw [if_pos ⟨trivial, at_box_lt h1⟩, if_pos ⟨trivial, at_box_lt h2⟩]
   | cells off vs =>
    refine .inr ⟨h0, setAt l off vs, setAt l' off vs, ?_, ?_, by rw [setAt_length, setAt_length, h3], fun k a b => ?_⟩
    ·simp only [setOne, h1]
     rw [at_set, if_pos ⟨rfl, at_box_lt h1⟩]
    ·simp only [setOne, h2]
     rw [at_set, if_pos ⟨rfl, at_box_lt h2⟩]
    ·rw [setAt_gt, setAt_gt, h3, h4 k a b]
 ·rcases h with h | ⟨h0, l, l', h1, h2, h3, h4⟩
  ·exact .inl (by rw [at_setOne _ _ _ e, at_setOne _ _ _ e, h])
  ·exact .inr ⟨h0, l, l', by rw [at_setOne _ _ _ e, h1], by rw [at_setOne _ _ _ e, h2], h3, h4⟩
theorem meets_iff {x y : Pt} : x.meets y = false ↔ (x.id = y.id → x.n ≠ 0 ∧ y.n ≠ 0 ∧ (y.lo + y.n ≤ x.lo ∨ x.lo + x.n ≤ y.lo)) := by
 unfold Pt.meets
 by_cases h : x.id = y.id
 ·rw [decide_eq_true h]
  simp [h]
  omega
 ·rw [decide_eq_false h]
  simp [h]
theorem meets_comm {x y : Pt} (h : x.meets y = false) : y.meets x = false := by
 rw [meets_iff] at *
 intro e
 have := h e.symm
 omega
theorem pt_one {objs objs' : List Ob} {p : Pt} (h : PtEq objs objs' p) (m : Nat × Md) (hm : (wrOf m).meets p = false) : PtEq (setOne objs m) objs' p := by
 by_cases e : m.1 = p.id
 ·obtain ⟨i, m⟩ := m
  simp only at e
  subst e
  cases m with
  | ob o => simp [wrOf, Pt.meets] at hm
  | cells off vs =>
   obtain ⟨hv, hn, hr⟩ := meets_iff.1 hm rfl
   simp only [wrOf] at hv hr
   simp only [setOne]
   split
   ·rename_i c hc
    refine .inr ⟨hn, setAt c off vs, ?_⟩
    have hfr : ∀ k, p.lo ≤ k → k < p.lo + p.n → (setAt c off vs)[k]? = c[k]? := fun k a b => by
     rw [setAt_gt, if_neg (by omega)]
    have hat : Ob.at (objs.set p.id (.box (setAt c off vs))) p.id = .box (setAt c off vs) := by rw [at_set, if_pos ⟨rfl, at_box_lt hc⟩]
    rcases h with h | ⟨h0, l, l', h1, h2, h3, h4⟩
    ·exact ⟨c, hat, by rw [← h, hc], setAt_length .., hfr⟩
    ·rw [hc] at h1
     injection h1 with h1
     subst h1
     exact ⟨l', hat, h2, by rw [setAt_length, h3], fun k a b => by rw [hfr k a b, h4 k a b]⟩
   ·exact h
 ·rcases h with h | ⟨h0, l, l', h1, h2, h3, h4⟩
  ·exact .inl (by rw [at_setOne _ _ _ e, h])
  ·exact .inr ⟨h0, l, l', by rw [at_setOne _ _ _ e, h1], h2, h3, h4⟩
theorem pts_both {p : Pt} : ∀ (u : List (Nat × Md)) {objs objs' : List Ob}, objs.length = objs'.length → PtEq objs objs' p → PtEq (setOb objs u) (setOb objs' u) p
 | [], _, _, _, h => h
 | m :: u, objs, objs', hl, h => by
  rw [setOb_cons, setOb_cons]
  exact pts_both u (by rw [setOne_length, setOne_length, hl]) (pt_both hl h m)
theorem pts_one {p : Pt} : ∀ (u : List (Nat × Md)) {objs objs' : List Ob}, PtEq objs objs' p → (∀ m ∈ u, (wrOf m).meets p = false) → PtEq (setOb objs u) objs' p
 | [], _, _, h, _ => h
 | m :: u, objs, objs', h, hm => by
  rw [setOb_cons]
  exact pts_one u (pt_one h m (hm m (by simp))) (fun x hx => hm x (by simp [hx]))
theorem upd_objs (st : St) (d : Option Nat) (v : TV) (u : List (Nat × Md)) : (st.upd d v u).objs = setOb st.objs u := by cases d <;> rfl
theorem upd_tmps (st : St) (d : Option Nat) (v : TV) (u : List (Nat × Md)) : (st.upd d v u).tmps = match d with | some t => st.tmps.set t v | none => st.tmps := by cases d <;> rfl
theorem upd_len (st : St) (d : Option Nat) (v : TV) (u : List (Nat × Md)) : (st.upd d v u).tmps.length = st.tmps.length := by cases d <;> simp [upd_tmps]
theorem get_set (l : List TV) (i j : Nat) (v : TV) : (l.set i v).getD j .dead = if i = j ∧ j < l.length then v else l.getD j .dead := by
 rw [List.getD_eq_getElem?_getD, List.getD_eq_getElem?_getD, List.getElem?_set]
 by_cases h : i = j
 ·subst h
  by_cases hl : i < l.length <;> simp [hl]
 ·simp [h]
theorem agree_both {L : List Nat} {ps : List Pt} {st st' : St} (h : Agree L ps st st') (d : Option Nat) (v : TV) (u : List (Nat × Md)) : Agree L ps (st.upd d v u) (st'.upd d v u) := by
 refine ⟨by rw [upd_len, upd_len, h.tl], by rw [upd_objs, upd_objs, setOb_length, setOb_length, h.ol], fun t ht => ?_, fun p hp => by rw [upd_objs, upd_objs]; exact pts_both u h.ol (h.ob p hp)⟩
 have := h.tm t ht
 unfold St.get at *
 rw [upd_tmps, upd_tmps]
 cases d with
 | none => exact this
 | some d => simp only; rw [get_set, get_set, h.tl, this]
theorem agree_one {L : List Nat} {ps : List Pt} {st st' : St} (h : Agree L ps st st') (d : Option Nat) (v : TV) (u : List (Nat × Md)) (hd : ∀ t, d = some t → t ∉ L) (hu : ∀ m ∈ u, ∀ p ∈ ps, (wrOf m).meets p = false) : Agree L ps (st.upd d v u) st' := by
 refine ⟨by rw [upd_len, h.tl], by rw [upd_objs, setOb_length, h.ol], fun t ht => ?_, fun p hp => by rw [upd_objs]; exact pts_one u (h.ob p hp) (fun m hm => hu m hm p hp)⟩
 have := h.tm t ht
 unfold St.get at *
 rw [upd_tmps]
 cases d with
 | none => exact this
 | some d => simp only; rw [get_set, if_neg (fun e : d = t ∧ _ => hd d rfl (e.1 ▸ ht)), this]
theorem one_comm (objs : List Ob) (m n : Nat × Md) (h : (wrOf m).meets (wrOf n) = false) : setOne (setOne objs m) n = setOne (setOne objs n) m := by
 obtain ⟨i, m⟩ := m
 obtain ⟨j, n⟩ := n
 by_cases e : i = j
 ·subst e
  cases m with
  | ob o => cases n <;> simp [wrOf, Pt.meets] at h
  | cells off vs =>
   cases n with
   | ob o => simp [wrOf, Pt.meets] at h
   | cells off' vs' =>
    obtain ⟨hv, hn, hr⟩ := meets_iff.1 h rfl
    simp only [wrOf] at hv hn hr
    simp only [setOne]
    cases hc : Ob.at objs i <;> simp only [hc]
    rename_i c
    have hl := at_box_lt hc
    rw [at_set, if_pos ⟨rfl, hl⟩, at_set, if_pos ⟨rfl, hl⟩]
    simp only [List.set_set]
    congr 2
    apply List.ext_getElem?
    intro k
    rw [setAt_gt, setAt_gt, setAt_gt, setAt_gt, setAt_length, setAt_length]
    by_cases h1 : k < c.length ∧ off ≤ k ∧ k < off + vs.length
    ·rw [if_neg (by omega), if_pos h1, if_pos h1]
    ·rw [if_neg h1, if_neg h1]
 ·have key : ∀ (a : List Ob) (i j : Nat) (m n : Md), i ≠ j → setOne (setOne a (i, m)) (j, n) = (match n with | .ob o => (setOne a (i, m)).set j o | .cells off vs => match Ob.at a j with | .box c => (setOne a (i, m)).set j (.box (setAt c off vs)) | _ => setOne a (i, m)) := by
   intro a i j m n e
   cases n with
   | ob o => rfl
   | cells off vs =>
    have := at_setOne a (i, m) j e
    simp only [setOne] at this ⊢
    rw [this]
  rw [key _ _ _ _ _ e, key _ _ _ _ _ (Ne.symm e)]
  cases m <;> cases n <;> simp only [setOne]
  ·rw [List.set_comm _ _ e]
  ·split
   ·rw [List.set_comm _ _ e]
   ·rfl
  ·split
   ·rw [List.set_comm _ _ e]
   ·rfl
  ·cases Ob.at objs i <;> cases Ob.at objs j <;> simp only
   rw [List.set_comm _ _ e]
theorem one_comms (m : Nat × Md) : ∀ (u : List (Nat × Md)) (objs : List Ob), (∀ n ∈ u, (wrOf m).meets (wrOf n) = false) → setOb (setOne objs m) u = setOne (setOb objs u) m
 | [], _, _ => rfl
 | n :: u, objs, h => by
  rw [setOb_cons, setOb_cons, one_comm _ _ _ (h n (by simp)), one_comms m u _ (fun x hx => h x (by simp [hx]))]
theorem setOb_comm : ∀ (u u' : List (Nat × Md)) (objs : List Ob), (∀ m ∈ u, ∀ n ∈ u', (wrOf m).meets (wrOf n) = false) → setOb (setOb objs u) u' = setOb (setOb objs u') u
 | [], _, _, _ => rfl
 | m :: u, u', objs, h => by
  rw [setOb_cons, setOb_comm u u' _ (fun x hx => h x (by simp [hx])), one_comms m u' objs (h m (by simp)), ← setOb_cons]
theorem upd_comm (st : St) {d d' : Option Nat} (v v' : TV) {u u' : List (Nat × Md)} (hd : ∀ t, d = some t → d' ≠ some t) (hu : ∀ m ∈ u, ∀ n ∈ u', (wrOf m).meets (wrOf n) = false) :
  (st.upd d v u).upd d' v' u' = (st.upd d' v' u').upd d v u := by
 have key : ∀ (a b : St), a.tmps = b.tmps → a.objs = b.objs → a = b := fun a b h1 h2 => by cases a; cases b; simp only at h1 h2; rw [h1, h2]
 refine key _ _ ?_ (by simp only [upd_objs]; exact setOb_comm u u' st.objs hu)
 simp only [upd_tmps]
 cases d <;> cases d' <;> simp only
 rename_i a b
 exact List.set_comm _ _ (fun e => hd a rfl (by rw [e]))
end Go.Proofs.YtgcioclfplafkaaGreatV
end

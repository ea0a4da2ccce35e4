/- The code's tree; loops; no condition. -/
import Derived.Test.YtgcioclfplafkaaGreatA06
set_option linter.all false
section
namespace Go.Proofs.YtgcioclfplafkaaGreatV
open Go Go.RowKit
section
variable {P : Program} {T : Tab} {W : List Gh} {w0 w : World} {g : List Gh} {st : St} {a : Act}
theorem RepTs_same {S : Nat → Prop} : ∀ {l : List TV} {us : List Value} (n : Nat) {v : TV}, RepTs w S g l us → RepT w S g v (us.getD n undef) → RepTs w S g (l.set n v) us
 | [], us, n, v, h, _ => h
 | _ :: _, [], _, _, h, _ => h.elim
 | _ :: _, _ :: _, 0, _, h, hv => ⟨hv, h.2⟩
 | _ :: _, _ :: _, n + 1, _, h, hv => ⟨h.1, RepTs_same n h.2 (by simpa using hv)⟩
theorem rel_same (hR : RelG W w0 g st a w) (d : Nat) {v : TV} (hv : RepT w (Stable w g) g v (a.tmps.toList.getD d undef)) : RelG W w0 g (st.put (some d) v) a w :=
 ⟨RepTs_same d hR.tm hv, hR.ob, hR.nd, hR.own, hR.keep, hR.kept, hR.df⟩
theorem rep_undef {S : Nat → Prop} : RepT w S g .undef undef := ⟨[], rfl, trivial⟩
theorem rel_skip (hR : RelG W w0 g st a w) (d : Option Nat) : RelG W w0 g (st.put d .undef) (a.put d undef) w := rel_pure hR d rep_undef
theorem yielded_get {ops : Array Oper} {tmps : Array Value} {j d : Nat} (h : (ops[j]?).bind (·.dst) = some d) (hd : d < tmps.size) : yielded ops tmps j = match tmps.toList.getD d undef with | .bool b => some b | _ => none := by
 unfold yielded
 rw [h]
 simp only [Option.bind_some]
 rw [Array.getElem?_eq_getElem hd]
 have : tmps.toList.getD d undef = tmps[d] := by
  rw [List.getD_eq_getElem?_getD, Array.getElem?_toList, Array.getElem?_eq_getElem hd, Option.getD_some]
 rw [this]
 cases tmps[d] <;> rfl
theorem askG_ok {R : Type} {ops : Array Oper} {o : Oper} {yes no : St → Option R} {r : R} (hR : RelG W w0 g st a w) (h : askG ops st o yes no = some r) :
  (Region.wanted o (yielded ops a.tmps) = true ∧ ∃ st', RelG W w0 g st' a w ∧ st' = st ∧ yes st' = some r) ∨
  (Region.wanted o (yielded ops a.tmps) = false ∧ ∃ st', RelG W w0 g st' a w ∧ st' = st ∧ no st' = some r) := by
 unfold askG at h
 unfold Region.wanted
 split at h
 ·rename_i hg
  rw [hg]
  exact .inl ⟨rfl, st, hR, rfl, h⟩
 ·rename_i j want hg
  rw [hg]
  simp only
  split at h
  ·rename_i d hd
   have hsz : st.tmps.length = a.tmps.size := by simpa using RepTs_length hR.tm
   have hget := RepTs_getD d hR.tm
   by_cases hlt : d < a.tmps.size
   ·rw [yielded_get hd hlt]
    split at h
    ·rename_i b hb
     have hu : a.tmps.toList.getD d undef = .bool b := by
      have : st.tmps.getD d .dead = .c (.bool b) := hb
      rw [this] at hget
      exact hget
     have hsame : RelG W w0 g (st.put (some d) (.c (.bool b))) a w := rel_same hR d (by rw [hu]; rfl)
     rw [hu]
     have hpg := put_get hb (by simp)
     cases b <;> cases want <;> simp only [cond_true, cond_false, if_true, Bool.false_eq_true, if_false] at h
     ·exact .inl ⟨rfl, _, hsame, hpg, h⟩
     ·exact .inr ⟨rfl, _, hsame, hpg, h⟩
     ·exact .inr ⟨rfl, _, hsame, hpg, h⟩
     ·exact .inl ⟨rfl, _, hsame, hpg, h⟩
    ·rename_i hb
     have : st.tmps.getD d .dead = .tup [] := hb
     rw [this] at hget
     obtain ⟨us, hus, hp⟩ := hget
     rw [hus]
     exact .inr ⟨rfl, st, hR, rfl, h⟩
    ·cases h
   ·have : st.get d = .dead := by
     have hle : st.tmps.length ≤ d := by rw [hsz]; exact Nat.le_of_not_lt hlt
     unfold St.get
     rw [List.getD_eq_getElem?_getD, List.getElem?_eq_none hle]
     rfl
    rw [this] at h
    cases h
  ·cases h
theorem allB_unborn (n : Nat) : allB (List.replicate n Gh.unborn) = [] := by
 induction n with
 | zero => rfl
 | succ n ih => simpa [List.replicate_succ, allB, Gh.blocks] using ih
theorem obs_unborn {S : Nat → Prop} : ∀ n, ObsOK w S g (List.replicate n Ob.unborn) (List.replicate n Gh.unborn)
 | 0 => trivial
 | n + 1 => ⟨trivial, obs_unborn n⟩
theorem rel_pad (hR : RelG W w0 g st a w) (n : Nat) : RelG W w0 (g ++ List.replicate n .unborn) { st with objs := st.objs ++ List.replicate n .unborn } a w := by
 have hB : allB (g ++ List.replicate n .unborn) = allB g := by rw [allB_append, allB_unborn, List.append_nil]
 have hG : GExt g (g ++ List.replicate n .unborn) := fun i h hi => .inr (.inl (by rw [List.getElem?_append_left (List.getElem?_eq_some_iff.1 hi).1]; exact hi))
 have hS : ∀ b, Stable w g b → Stable w (g ++ List.replicate n .unborn) b ∧ w.heap[b]? = w.heap[b]? := fun b hb => ⟨⟨hb.1, by rw [hB]; exact hb.2⟩, rfl⟩
 exact ⟨RepTs_mono hS hG hR.tm, ObsOK_append (ObsOK_mono hS hG (fun _ _ _ _ => rfl) hR.ob) (obs_unborn n), by rw [hB]; exact hR.nd, by rw [hB]; exact hR.own, hR.keep, hR.kept.ext hG, hR.df⟩
theorem ObsOK_split {S : Nat → Prop} {h : List Gh} : ∀ {l m : List Ob} {g' : List Gh}, ObsOK w S h (l ++ m) g' → ∃ g1 g2, g' = g1 ++ g2 ∧ ObsOK w S h l g1 ∧ ObsOK w S h m g2
 | [], _, g', hk => ⟨[], g', rfl, trivial, hk⟩
 | _ :: _, _, [], hk => hk.elim
 | o :: l, m, x :: g', hk => by
  obtain ⟨g1, g2, h1, h2, h3⟩ := ObsOK_split (l := l) hk.2
  exact ⟨x :: g1, g2, by rw [h1]; rfl, ⟨hk.1, h2⟩, h3⟩
theorem obs_unborn_inv {S : Nat → Prop} {h : List Gh} : ∀ {n : Nat} {g2 : List Gh}, ObsOK w S h (List.replicate n Ob.unborn) g2 → g2 = List.replicate n .unborn
 | 0, [], _ => rfl
 | 0, _ :: _, hk => hk.elim
 | _ + 1, [], hk => hk.elim
 | n + 1, x :: g2, hk => by
  have h1 := hk.1
  cases x <;> first | exact h1.elim | (rw [obs_unborn_inv hk.2]; rfl)
theorem rel_drop {objs : List Ob} {tmps : List TV} {n : Nat} (hR : RelG W w0 g { tmps := tmps, objs := objs ++ List.replicate n .unborn } a w) : ∃ g', RelG W w0 g' { tmps := tmps, objs := objs } a w := by
 obtain ⟨g1, g2, rfl, h1, h2⟩ := ObsOK_split hR.ob
 have := obs_unborn_inv h2
 subst this
 have hB : allB (g1 ++ List.replicate n .unborn) = allB g1 := by rw [allB_append, allB_unborn, List.append_nil]
 have hG : GExt (g1 ++ List.replicate n .unborn) g1 := fun i h hi => by
  by_cases e : i < g1.length
  ·rw [List.getElem?_append_left e] at hi; exact .inr (.inl hi)
  ·rw [List.getElem?_append_right (by omega)] at hi
   exact .inl (List.eq_of_mem_replicate (List.mem_of_getElem? hi))
 have hS : ∀ b, Stable w (g1 ++ List.replicate n .unborn) b → Stable w g1 b ∧ w.heap[b]? = w.heap[b]? := fun b hb => ⟨⟨hb.1, by rw [← hB]; exact hb.2⟩, rfl⟩
 exact ⟨g1, RepTs_mono hS hG hR.tm, ObsOK_mono hS hG (fun _ _ _ _ => rfl) h1, by rw [← hB]; exact hR.nd, by rw [← hB]; exact hR.own, hR.keep, hR.kept.ext hG, hR.df⟩
theorem setOb_left : ∀ (u : List (Nat × Md)) (objs tail : List Ob), (u.all fun m => decide (m.1 < objs.length)) = true → setOb (objs ++ tail) u = setOb objs u ++ tail
 | [], _, _, _ => rfl
 | (i, .ob o) :: u, objs, tail, h => by
  simp only [List.all_cons, Bool.and_eq_true, decide_eq_true_eq] at h
  simp only [setOb]
  rw [List.set_append_left _ _ h.1]
  exact setOb_left u _ tail (by simpa using h.2)
 | (i, .cells off vs) :: u, objs, tail, h => by
  simp only [List.all_cons, Bool.and_eq_true, decide_eq_true_eq] at h
  have hat : Ob.at (objs ++ tail) i = Ob.at objs i := by
   unfold Ob.at
   rw [List.getD_eq_getElem?_getD, List.getD_eq_getElem?_getD, List.getElem?_append_left h.1]
  simp only [setOb]
  rw [hat]
  cases Ob.at objs i <;> simp only
  case box c =>
   rw [List.set_append_left _ _ h.1]
   exact setOb_left u _ tail (by simpa using h.2)
  all_goals exact setOb_left u _ tail h.2
theorem setNew_tail : ∀ (new : List Ob) (objs : List Ob) (n : Nat), new.length ≤ n → setOb (objs ++ List.replicate n .unborn) ((numb objs.length new).map fun p => (p.1, Md.ob p.2)) = objs ++ new ++ List.replicate (n - new.length) .unborn
 | [], objs, n, _ => by simp [numb, setOb]
 | x :: new, objs, 0, h => by simp at h
 | x :: new, objs, n + 1, h => by
  simp only [numb, List.map_cons, setOb]
  have : (objs ++ List.replicate (n + 1) Ob.unborn).set objs.length x = (objs ++ [x]) ++ List.replicate n .unborn := by
   rw [List.set_append_right _ _ (Nat.le_refl _)]
   simp [List.replicate_succ]
  rw [this]
  have := setNew_tail new (objs ++ [x]) n (by simpa using h)
  rw [List.length_append] at this
  simp only [List.length_singleton] at this
  rw [this]
  simp
theorem rel_step {v : TV} {new : List Ob} {mods : List (Nat × Md)} {d : Option Nat} {a' : Act} {n : Nat} (hl : new.length ≤ n) (hm : (mods.all fun m => decide (m.1 < st.objs.length)) = true)
  (hR : RelG W w0 g (({ st with objs := st.objs ++ List.replicate n .unborn } : St).upd d v (upsOf st.objs.length mods new)) a' w) : Rel W w0 (st.step d v new mods) a' w := by
 have e : setOb (st.objs ++ List.replicate n .unborn) (upsOf st.objs.length mods new) = (setOb st.objs mods ++ new) ++ List.replicate (n - new.length) .unborn := by
  rw [upsOf, setOb_append, setOb_left _ _ _ hm]
  have := setNew_tail new (setOb st.objs mods) n hl
  rw [setOb_length] at this
  exact this
 unfold St.upd at hR
 simp only [e] at hR
 unfold St.step
 cases d with
 | none => exact rel_drop hR
 | some d => exact rel_drop hR
theorem evOps_ok {R : Type} (hT : TabFn P T) {ops : Array Oper} {lo : Nat} {Q : Exit → Act → World → Prop} : ∀ (l : List Oper) {g : List Gh} {st : St} {a : Act} {w : World} {K : St → Option R} {r : R}, RelG W w0 g st a w → NPS T W st → evOps T lo ops l st K = some r →
  (∀ st' a' w', RelN T W w0 st' a' w' → K st' = some r → Q .normal a' w') → wpList P ops Q l a w
 | [], g, st, a, w, K, r, hR, hnp, h, hQ => hQ st a w ⟨⟨g, hR⟩, hnp⟩ h
 | o :: rest, g, st, a, w, K, r, hR, hnp, h, hQ => by
  simp only [evOps] at h
  rcases askG_ok hR h with ⟨hw, st', hR', hse, h'⟩ | ⟨hw, st', hR', hse, h'⟩ <;> rw [← hse] at hnp
  ·rw [opSem_k _ _ hT.leaf] at h'
   cases hp : opSem T { st' with objs := st'.objs ++ List.replicate 8 .unborn } st'.objs.length o pk with
   | none => rw [hp] at h'; cases h'
   | some p =>
    obtain ⟨v, new, mods⟩ := p
    rw [hp] at h'
    simp only [Option.bind_some, kk] at h'
    split at h'
    ·rename_i hc
     rw [Bool.and_eq_true, decide_eq_true_eq] at hc
     obtain ⟨hc1, hc2⟩ := hc
     rw [Bool.and_eq_true] at hc2
     obtain ⟨hc2, hc3⟩ := hc2
     have hlen := ObsOK_length hR'.ob
     have hst := step_ok hT (rel_pad hR' 8) (fun hn => ⟨np_pad (hnp hn).1, (hnp hn).2⟩) (nid := st'.objs.length) (o := o) (v := v) (new := new) (mods := mods) (fun k hk => by
      rw [List.getElem?_append_right (by omega), List.getElem?_replicate, if_pos (by omega)]) hp
     unfold wpList
     rw [hw]
     simp only [if_true]
     left
     refine hst _ Q (fun u w' g' hg' => ?_)
     obtain ⟨g2, h2⟩ := rel_step hc1 (by
      rw [List.all_eq_true] at hc2 ⊢
      intro m hm
      have := hc2 m hm
      rw [Bool.and_eq_true] at this
      exact this.2) hg'
     exact evOps_ok hT rest h2 (fun hn => ⟨np_step hn (hnp hn).1 hc3, (hnp hn).2⟩) h' hQ
    ·cases h'
  ·unfold wpList
   rw [hw]
   simp only [Bool.false_eq_true, if_false]
   exact evOps_ok hT rest (rel_skip hR' o.dst) (fun hn => ⟨np_put (hnp hn).1 rfl, (hnp hn).2⟩) h' hQ
end
end Go.Proofs.YtgcioclfplafkaaGreatV
end
section
namespace Go.Proofs.YtgcioclfplafkaaGreatV
open Go Go.RowKit
def Ex.out : Ex → Exit
 | .normal => .normal
 | .exit i => .exit i
 | .ret => .ret
theorem exists_min {J : Nat → Prop} (h : ∃ g, J g) : ∃ g, J g ∧ ∀ g', J g' → g ≤ g' := by
 obtain ⟨n, hn⟩ := h
 induction n using Nat.strongRecOn with
 | ind n ih =>
  by_cases hm : ∃ m, m < n ∧ J m
  ·obtain ⟨m, h1, h2⟩ := hm
   exact ih m h1 h2
  ·refine ⟨n, hn, fun g' hg => Nat.le_of_not_lt (fun hlt => hm ⟨g', hlt, hg⟩)⟩
theorem wp_loop_fuel {P : Program} {c : Code} {Q : Exit → Act → World → Prop} {a : Act} {w : World} (J : Nat → Act → World → Prop) (h0 : ∃ g, J g a w)
  (round : ∀ g a w, J g a w → c.wp P (Exit.then (fun a' w' => ∃ g', g' < g ∧ J g' a' w') Q) a w) : (Code.loop c).wp P Q a w := by
 classical
 refine wp_loop (fun a w => ∃ g, J g a w) (fun a w => if h : ∃ g, J g a w then Classical.choose (exists_min h) else 0) h0 (fun a w h => ?_)
 obtain ⟨hm, _⟩ := Classical.choose_spec (exists_min h)
 refine wp_mono (round _ a w hm) (fun e a' w' hq => ?_)
 cases e <;> try exact hq
 obtain ⟨g', h1, h2⟩ := hq
 refine ⟨⟨g', h2⟩, ?_⟩
 have h3 : ∃ g, J g a' w' := ⟨g', h2⟩
 show (if h : ∃ g, J g a' w' then Classical.choose (exists_min h) else 0) < (if h : ∃ g, J g a w then Classical.choose (exists_min h) else 0)
 rw [dif_pos h3, dif_pos h]
 exact Nat.lt_of_le_of_lt ((Classical.choose_spec (exists_min h3)).2 g' h2) h1
def CodeOK (P : Program) (T : Tab) (W : List Gh) (w0 : World) (c : Code) (run : {R : Type} → St → (Ex → St → Option R) → Option R) : Prop :=
 ∀ {R : Type} (st : St) (K : Ex → St → Option R) (r : R) (a : Act) (w : World) (Q : Exit → Act → World → Prop), RelN T W w0 st a w → run st K = some r →
  (∀ e st' a' w', RelN T W w0 st' a' w' → K e st' = some r → Q e.out a' w') → c.wp P Q a w
def AllLoops (H : Code → Prop) : Code → Prop
 | .seq a b => AllLoops H a ∧ AllLoops H b
 | .cond _ a b => AllLoops H a ∧ AllLoops H b
 | .block _ c => AllLoops H c
 | .loop c => H c
 | _ => True
def LoopsOK (P : Program) (T : Tab) (W : List Gh) (w0 : World) (c : Code) : Prop := ∀ L, T.loop (keyOf c) = some L → CodeOK P T W w0 (.loop c) L.run
section
variable {P : Program} {T : Tab} {W : List Gh} {w0 w : World} {st : St} {a : Act}
theorem cond_rep (h : RelN T W w0 st a w) {c : Operand} {e : Bool} (hc : opd T st 0 c = .c (.bool e)) : a.eval c = .bool e := by
 obtain ⟨⟨g, hR⟩, _⟩ := h
 have := opd_rep (T := T) hR.tm 0 c
 rw [hc] at this
 exact this
theorem ev_ok (hreg : ∀ id ops draw, CodeOK P T W w0 (.region id ops draw) (fun st K => ev T (.region id ops draw) st K)) : ∀ (c : Code), AllLoops (LoopsOK P T W w0) c → CodeOK P T W w0 c (fun st K => ev T c st K)
 | .skip, _ => fun st K r a w Q hR h hQ => wp_skip (hQ .normal st a w hR h)
 | .region id ops draw, _ => hreg id ops draw
 | .seq x y, hl => fun st K r a w Q hR h hQ => by
  simp only [ev] at h
  refine wp_seq ?_
  refine ev_ok hreg x hl.1 st _ r a w _ hR h (fun e st' a' w' hR' h' => ?_)
  cases e with
  | normal => exact ev_ok hreg y hl.2 st' K r a' w' Q hR' h' hQ
  | exit i => exact hQ (.exit i) st' a' w' hR' h'
  | ret => exact hQ .ret st' a' w' hR' h'
 | .cond c x y, hl => fun st K r a w Q hR h hQ => by
  simp only [ev] at h
  split at h
  ·rename_i e hc
   refine wp_cond (cond_rep hR hc) ?_
   cases e
   ·exact ev_ok hreg y hl.2 st K r a w Q hR h hQ
   ·exact ev_ok hreg x hl.1 st K r a w Q hR h hQ
  ·cases h
 | .block id c, hl => fun st K r a w Q hR h hQ => by
  simp only [ev] at h
  refine wp_block ?_
  refine ev_ok hreg c hl st _ r a w _ hR h (fun e st' a' w' hR' h' => ?_)
  cases e with
  | normal => exact hQ .normal st' a' w' hR' h'
  | exit i =>
   simp only at h'
   by_cases e : i = id
   ·rw [if_pos e] at h'
    have := hQ .normal st' a' w' hR' h'
    subst e
    simpa [Exit.inBlock, Ex.out] using this
   ·rw [if_neg e] at h'
    have := hQ (.exit i) st' a' w' hR' h'
    simpa [Exit.inBlock, Ex.out, e] using this
  | ret => exact hQ .ret st' a' w' hR' h'
 | .loop c, hl => fun st K r a w Q hR h hQ => by
  simp only [ev] at h
  split at h
  ·rename_i L hL
   exact hl L hL st K r a w Q hR h hQ
  ·cases h
 | .exit id, _ => fun st K r a w Q hR h hQ => wp_exit (hQ (.exit id) st a w hR h)
 | .ret, _ => fun st K r a w Q hR h hQ => wp_ret (hQ .ret st a w hR h)
 | .label _, _ => fun st K r a w Q hR h hQ => by simp [ev] at h
 | .goto _, _ => fun st K r a w Q hR h hQ => by simp [ev] at h
 | .scope _, _ => fun st K r a w Q hR h hQ => by simp [ev] at h
 | .rangeFunc .., _ => fun st K r a w Q hR h hQ => by simp [ev] at h
 | .refuse .., _ => fun st K r a w Q hR h hQ => by simp [ev] at h
end
end Go.Proofs.YtgcioclfplafkaaGreatV
end
section
namespace Go.Proofs.YtgcioclfplafkaaGreatV
open Go Go.RowKit
theorem sc_inst {s : SC} {v : CV} {l : List CV} (h : s.dec v = some l) (m : List CV) : s.inst (l ++ m) = (v, m) := by
 cases s <;> cases v <;> simp only [SC.dec, reduceCtorEq, Option.some.injEq] at h
 all_goals first
  | (subst h; rfl)
  |
   split at h
   ·rename_i e; simp only [Option.some.injEq] at h; subst h; first | (subst e; rfl) | (obtain ⟨rfl, rfl⟩ := e; rfl)
   ·cases h
theorem l_inst : ∀ {ss : List SC} {vs l : List CV}, decL ss vs = some l → ∀ m, instL ss (l ++ m) = (vs, m)
 | [], [], l, h, m => by simp only [decL, Option.some.injEq] at h; subst h; rfl
 | [], _ :: _, l, h, m => by simp [decL] at h
 | _ :: _, [], l, h, m => by simp [decL] at h
 | s :: ss, v :: vs, l, h, m => by
  simp only [decL] at h
  split at h
  ·rename_i a b h1 h2
   injection h with h
   subst h
   simp only [instL, List.append_assoc]
   rw [sc_inst h1]
   simp only
   rw [l_inst h2]
  ·cases h
theorem p_inst : ∀ {ss : List (Bool × List SC)} {vs : List (Bool × List CV)} {l : List CV}, decP ss vs = some l → ∀ m, instP ss (l ++ m) = (vs, m)
 | [], [], l, h, m => by simp only [decP, Option.some.injEq] at h; subst h; rfl
 | [], _ :: _, l, h, m => by simp [decP] at h
 | _ :: _, [], l, h, m => by simp [decP] at h
 | (b, s) :: ss, (b', v) :: vs, l, h, m => by
  simp only [decP] at h
  split at h
  ·rename_i e
   subst e
   split at h
   ·rename_i x y h1 h2
    injection h with h
    subst h
    simp only [instP, List.append_assoc]
    rw [l_inst h1]
    simp only
    rw [p_inst h2]
   ·cases h
  ·cases h
theorem t_inst {s : TT} {v : TV} {l : List CV} (h : s.dec v = some l) (m : List CV) : s.inst (l ++ m) = (v, m) := by
 cases s <;> cases v <;> simp only [TT.dec, reduceCtorEq] at h
 ·simp only [TT.inst, sc_inst h]
 ·simp only [TT.inst, l_inst h]
 ·simp only [TT.inst, p_inst h]
 ·simp only [TT.inst, l_inst h]
 ·split at h
  ·rename_i e
   subst e
   simp only [TT.inst, l_inst h]
  ·cases h
theorem o_inst {s : OT} {v : Ob} {l : List CV} (h : s.dec v = some l) (m : List CV) : s.inst (l ++ m) = (v, m) := by
 cases s <;> cases v <;> simp only [OT.dec, reduceCtorEq, Option.some.injEq] at h
 ·subst h; rfl
 ·simp only [OT.inst, l_inst h]
 ·subst h; rfl
theorem ts_inst : ∀ {ss : List TT} {vs : List TV} {l : List CV}, decTs ss vs = some l → ∀ m, instTs ss (l ++ m) = (vs, m)
 | [], [], l, h, m => by simp only [decTs, Option.some.injEq] at h; subst h; rfl
 | [], _ :: _, l, h, m => by simp [decTs] at h
 | _ :: _, [], l, h, m => by simp [decTs] at h
 | s :: ss, v :: vs, l, h, m => by
  simp only [decTs] at h
  split at h
  ·rename_i a b h1 h2
   injection h with h
   subst h
   simp only [instTs, List.append_assoc]
   rw [t_inst h1]
   simp only
   rw [ts_inst h2]
  ·cases h
theorem os_inst : ∀ {ss : List OT} {vs : List Ob} {l : List CV}, decOs ss vs = some l → ∀ m, instOs ss (l ++ m) = (vs, m)
 | [], [], l, h, m => by simp only [decOs, Option.some.injEq] at h; subst h; rfl
 | [], _ :: _, l, h, m => by simp [decOs] at h
 | _ :: _, [], l, h, m => by simp [decOs] at h
 | s :: ss, v :: vs, l, h, m => by
  simp only [decOs] at h
  split at h
  ·rename_i a b h1 h2
   injection h with h
   subst h
   simp only [instOs, List.append_assoc]
   rw [o_inst h1]
   simp only
   rw [os_inst h2]
  ·cases h
theorem sf_inst {f : SF} {st : St} {l : List CV} (h : f.dec st = some l) : f.inst l = st := by
 unfold SF.dec at h
 split at h
 ·rename_i a b h1 h2
  injection h with h
  subst h
  unfold SF.inst
  rw [ts_inst h1]
  simp only
  have := os_inst h2 []
  rw [List.append_nil] at this
  rw [this]
 ·cases h
theorem toCV_from {c : CT} {v : CV} {x : El c} (h : fromCV c v = some x) : toCV c x = v := by
 cases c <;> cases v <;> simp only [fromCV, reduceCtorEq] at h
 ·split at h
  ·rename_i e
   injection h with h
   subst e; subst h
   rfl
  ·cases h
 ·injection h with h; subst h; rfl
 ·injection h with h; subst h; rfl
 ·obtain ⟨e, h⟩ := cast_eq h
  subst e
  simp only at h
  subst h
  rfl
theorem toCVs_from : ∀ {cs : List CT} {l : List CV} {x : HT cs}, fromCVs cs l = some x → toCVs cs x = l
 | [], [], _, _ => rfl
 | [], _ :: _, _, h => by simp [fromCVs] at h
 | [c], [], _, h => by simp [fromCVs] at h
 | [c], [v], x, h => by
  simp only [fromCVs] at h
  simp only [toCVs, toCV_from h]
 | [c], _ :: _ :: _, _, h => by simp [fromCVs] at h
 | c :: d :: cs, [], _, h => by simp [fromCVs] at h
 | c :: d :: cs, v :: l, x, h => by
  simp only [fromCVs] at h
  split at h
  ·rename_i a b h1 h2
   injection h with h
   subst h
   simp only [toCVs, toCV_from h1, toCVs_from h2]
  ·cases h
theorem read_mk {f : SF} {cs : List CT} {st : St} {x : HT cs} (h : f.read cs st = some x) : f.mk' cs x = norm f.m f.live st := by
 unfold SF.read at h
 cases hd : f.dec (norm f.m f.live st) with
 | none => rw [hd] at h; cases h
 | some l =>
  rw [hd] at h
  unfold SF.mk'
  rw [toCVs_from h]
  exact sf_inst hd
end Go.Proofs.YtgcioclfplafkaaGreatV
end
section
namespace Go.Proofs.YtgcioclfplafkaaGreatV
open Go Go.RowKit
theorem pos_get : ∀ {l : List Nat} {y k : Nat}, pos? l y = some k → l[k]? = some y
 | [], _, _, h => by simp [pos?] at h
 | x :: l, y, k, h => by
  simp only [pos?] at h
  split at h
  ·rename_i e
   injection h with h
   subst h; subst e
   rfl
  ·split at h
   ·rename_i n hn
    injection h with h
    subst h
    simpa using pos_get hn
   ·cases h
theorem addNew_nodup : ∀ (l acc : List Nat), acc.Nodup → (addNew acc l).Nodup
 | [], _, h => h
 | x :: l, acc, h => by
  simp only [addNew]
  split
  ·exact addNew_nodup l acc h
  ·rename_i hx
   refine addNew_nodup l _ ?_
   rw [List.nodup_append]
   refine ⟨h, by simp, fun a ha b hb e => ?_⟩
   simp only [List.mem_singleton] at hb
   subst hb; subst e
   exact hx (by simpa using ha)
section
variable {P : Program} {T : Tab} {W : List Gh} {w0 w : World} {g : List Gh} {S S' : Nat → Prop} {st : St} {a : Act}
def selG (g : List Gh) (sel : List Nat) : List Gh := sel.map fun id => g.getD id .gone
theorem selG_get {sel : List Nat} {k id : Nat} (h : pos? sel id = some k) : (selG g sel)[k]? = some (g.getD id .gone) := by
 unfold selG
 rw [List.getElem?_map, pos_get h]
 rfl
theorem selG_some {sel : List Nat} {k id : Nat} {x : Gh} (h : pos? sel id = some k) (hg : g[id]? = some x) : (selG g sel)[k]? = some x := by
 rw [selG_get h, List.getD_eq_getElem?_getD, hg, Option.getD_some]
theorem FzC_up (hS : ∀ b, S b → S' b) {c : CT} {cs : Array Value} {o : Nat} {x : El c} (h : FzC w S c cs o x) : FzC w S' c cs o x := FzC_mono (fun b hb => ⟨hS b hb, rfl⟩) h
def SelOK (g : List Gh) (sel : List Nat) (G : List Gh) : Prop := ∀ (id k : Nat) (x : Gh), pos? sel id = some k → g[id]? = some x → G[k]? = some x
theorem selOK_self (g : List Gh) (sel : List Nat) : SelOK g sel (selG g sel) := fun _ _ _ hp hg => selG_some hp hg
theorem renC_rep (hS : ∀ b, S b → S' b) {sel : List Nat} {G : List Gh} (hG : SelOK g sel G) {v : CV} {u : Value} (h : RepC w S g v u) : RepC w S' G (renC sel v) u := by
 cases v <;> simp only [renC]
 case fz r xs => exact FzC_up hS h
 case ref id =>
  cases hp : pos? sel id with
  | none => trivial
  | some k =>
   cases hg : g[id]? with
   | none => simp [RepC, hg] at h
   | some x => simp only [RepC, hG id k x hp hg]; simpa only [RepC, hg] using h
 case sub id lo hi =>
  cases hp : pos? sel id with
  | none => trivial
  | some k =>
   cases hg : g[id]? with
   | none => simp [RepC, hg] at h
   | some x => simp only [RepC, hG id k x hp hg]; simpa only [RepC, hg] using h
 case pref id i j =>
  cases hp : pos? sel id with
  | none => trivial
  | some k =>
   cases hg : g[id]? with
   | none => simp [RepC, hg] at h
   | some x => simp only [RepC, hG id k x hp hg]; simpa only [RepC, hg] using h
 case psub id i j lo hi =>
  cases hp : pos? sel id with
  | none => trivial
  | some k =>
   cases hg : g[id]? with
   | none => simp [RepC, hg] at h
   | some x => simp only [RepC, hG id k x hp hg]; simpa only [RepC, hg] using h
 case box id off =>
  cases hp : pos? sel id with
  | none => trivial
  | some k =>
   cases hg : g[id]? with
   | none => simp [RepC, hg] at h
   | some x => simp only [RepC, hG id k x hp hg]; simpa only [RepC, hg] using h
 all_goals exact h
theorem renL_rep (hS : ∀ b, S b → S' b) {sel : List Nat} {G : List Gh} (hG : SelOK g sel G) : ∀ {l : List CV} {us : List Value}, RepL w S g l us → RepL w S' G (l.map (renC sel)) us
 | [], [], _ => trivial
 | [], _ :: _, h => h.elim
 | _ :: _, [], h => h.elim
 | _ :: _, _ :: _, h => ⟨renC_rep hS hG h.1, renL_rep hS hG h.2⟩
theorem renAt_rep (hS : ∀ b, S b → S' b) {sel : List Nat} {G : List Gh} (hG : SelOK g sel G) : ∀ {l : List CV} {cs : Array Value} {o : Nat}, RepAt w S g l cs o → RepAt w S' G (l.map (renC sel)) cs o
 | [], _, _, _ => trivial
 | _ :: _, _, _, h => by
  obtain ⟨⟨u, h1, h2⟩, h3⟩ := h
  exact ⟨⟨u, h1, renC_rep hS hG h2⟩, renAt_rep hS hG h3⟩
theorem renP_rep (hS : ∀ b, S b → S' b) {sel : List Nat} {G : List Gh} (hG : SelOK g sel G) : ∀ {l : List (Bool × List CV)} {us : List Value}, RepP w S g l us → RepP w S' G (l.map fun p => (p.1, p.2.map (renC sel))) us
 | [], [], _ => trivial
 | [], _ :: _, h => h.elim
 | (true, _) :: _, [], h => h.elim
 | (false, _) :: _, [], h => h.elim
 | (true, _) :: _, _ :: _, h => by
  obtain ⟨⟨us, h1, h2⟩, h3⟩ := h
  exact ⟨⟨us, h1, renL_rep hS hG h2⟩, renP_rep hS hG h3⟩
 | (false, _) :: _, _ :: _, h => ⟨renL_rep hS hG h.1, renP_rep hS hG h.2⟩
theorem renC_nil {sel : List Nat} {v : CV} {u : Value} (hS : ∀ b, S b → S' b) (h : RepC w S [] v u) : RepC w S' [] (renC sel v) u := by
 cases v <;> simp only [renC]
 case fz r xs => exact FzC_up hS h
 all_goals first | exact h.elim | exact h
theorem renAt_nil {sel : List Nat} (hS : ∀ b, S b → S' b) : ∀ {l : List CV} {cs : Array Value} {o : Nat}, RepAt w S [] l cs o → RepAt w S' [] (l.map (renC sel)) cs o
 | [], _, _, _ => trivial
 | _ :: _, _, _, h => by
  obtain ⟨⟨u, h1, h2⟩, h3⟩ := h
  exact ⟨⟨u, h1, renC_nil hS h2⟩, renAt_nil hS h3⟩
theorem renT_rep (hS : ∀ b, S b → S' b) {sel : List Nat} {G : List Gh} (hG : SelOK g sel G) {v : TV} {u : Value} (h : RepT w S g v u) : RepT w S' G (renT sel v) u := by
 cases v with
 | c v => exact renC_rep hS hG h
 | agg l => obtain ⟨us, h1, h2⟩ := h; exact ⟨us, h1, renL_rep hS hG h2⟩
 | tup l => obtain ⟨us, h1, h2⟩ := h; exact ⟨us, h1, renP_rep hS hG h2⟩
 | fp l =>
  obtain ⟨b, off, cells, t, fr, h1, h2, h3, h4⟩ := h
  exact ⟨b, off, cells, t, fr, h1, hS b h2, h3, renAt_nil hS h4⟩
 | er id i off =>
  simp only [renT]
  cases hp : pos? sel id with
  | none => trivial
  | some k =>
   cases hg : g[id]? with
   | none => simp [RepT, hg] at h
   | some x => simp only [RepT, hG id k x hp hg]; simpa only [RepT, hg] using h
 | fn f l => obtain ⟨us, h1, h2⟩ := h; exact ⟨us, h1, renL_rep hS hG h2⟩
theorem renTs_rep (hS : ∀ b, S b → S' b) {sel : List Nat} {G : List Gh} (hG : SelOK g sel G) : ∀ {l : List TV} {us : List Value}, RepTs w S g l us → RepTs w S' G (l.map (renT sel)) us
 | [], [], _ => trivial
 | [], _ :: _, h => h.elim
 | _ :: _, [], h => h.elim
 | _ :: _, _ :: _, h => ⟨renT_rep hS hG h.1, renTs_rep hS hG h.2⟩
theorem renO_rep (hS : ∀ b, S b → S' b) {sel : List Nat} {G : List Gh} (hG : SelOK g sel G) {o : Ob} {x : Gh} (h : ObOK w S g o x) : ObOK w S' G (renO sel o) x := by
 cases o <;> cases x <;> simp only [renO] <;> try exact h
 obtain ⟨cells, t, h1, h2, h3⟩ := h
 exact ⟨cells, t, h1, by rw [List.length_map]; exact h2, renAt_rep hS hG h3⟩
theorem selB_mem {sel : List Nat} {b : Nat} (h : b ∈ allB (selG g sel)) : ∃ id ∈ sel, ∃ x, g[id]? = some x ∧ b ∈ x.blocks := by
 obtain ⟨x, hx, hb⟩ := mem_allB.1 h
 obtain ⟨id, h1, h2⟩ := List.mem_map.1 hx
 cases hg : g[id]? with
 | none =>
  rw [List.getD_eq_getElem?_getD, hg] at h2
  subst h2
  simp [Gh.blocks] at hb
 | some y =>
  rw [List.getD_eq_getElem?_getD, hg] at h2
  simp only [Option.getD_some] at h2
  subst h2
  exact ⟨id, h1, y, hg, hb⟩
theorem selB_nodup (hn : (allB g).Nodup) : ∀ {sel : List Nat}, sel.Nodup → (allB (selG g sel)).Nodup
 | [], _ => by simp [selG, allB]
 | id :: sel, h => by
  rw [List.nodup_cons] at h
  have : allB (selG g (id :: sel)) = (g.getD id .gone).blocks ++ allB (selG g sel) := by simp [selG, allB]
  rw [this, List.nodup_append]
  refine ⟨?_, selB_nodup hn h.2, fun p hp q hq e => ?_⟩
  ·cases hg : g[id]? with
   | none => rw [List.getD_eq_getElem?_getD, hg]; simp [Gh.blocks]
   | some y => rw [List.getD_eq_getElem?_getD, hg]; exact nodup_of hn hg
  ·subst e
   obtain ⟨jd, h1, y, h2, h3⟩ := selB_mem hq
   cases hg : g[id]? with
   | none => rw [List.getD_eq_getElem?_getD, hg] at hp; simp [Gh.blocks] at hp
   | some x =>
    rw [List.getD_eq_getElem?_getD, hg] at hp
    exact nodup_apart (i := id) (j := jd) hn (fun e => h.1 (by rw [e]; exact h1)) hg h2 p hp h3
theorem obs_sel (hS : ∀ b, S b → S' b) {sel0 : List Nat} {G : List Gh} (hG : SelOK g sel0 G) {objs : List Ob} (ho : ObsOK w S g objs g) : ∀ {sel : List Nat}, ObsOK w S' G (sel.map fun id => renO sel0 (Ob.at objs id)) (selG g sel)
 | [] => trivial
 | id :: sel => ⟨renO_rep hS hG (ObsOK_get id ho), obs_sel hS hG ho⟩
theorem rel_sel (hR : RelG W w0 g st a w) {sel : List Nat} (hs : sel.Nodup) (hp : ∀ (i : Nat) (x : Gh), W[i]? = some x → (x.fixed → sel[i]? = some i) ∧ ((∃ t, x = .row t) → sel[i]? = some i ∨ ∃ j, sel[i]? = some j ∧ g.length ≤ j)) : RelG W w0 (selG g sel) { tmps := st.tmps.map (renT sel), objs := sel.map fun id => renO sel (Ob.at st.objs id) } a w := by
 have hsub : ∀ b, b ∈ allB (selG g sel) → b ∈ allB g := fun b hb => by
  obtain ⟨id, _, x, h1, h2⟩ := selB_mem hb
  exact allB_mem h1 h2
 have hS : ∀ b, Stable w g b → Stable w (selG g sel) b := fun b hb => ⟨hb.1, fun h => hb.2 (hsub b h)⟩
 refine ⟨renTs_rep hS (selOK_self g sel) hR.tm, obs_sel hS (selOK_self g sel) hR.ob, selB_nodup hR.nd hs, fun b hb => hR.own b (hsub b hb), hR.keep, ⟨fun i t hi => ?_, fun i x hx hi => ?_⟩, hR.df⟩
 ·rcases (hp i _ hi).2 ⟨t, rfl⟩ with h1 | ⟨j, h1, hj⟩
  ·have h2 : (selG g sel)[i]? = some (g.getD i .gone) := by unfold selG; rw [List.getElem?_map, h1]; rfl
   rw [h2, List.getD_eq_getElem?_getD]
   rcases hR.kept.1 i t hi with h | h <;> rw [h]
   ·exact .inl rfl
   ·exact .inr rfl
  ·right
   unfold selG
   rw [List.getElem?_map, h1, Option.map_some, List.getD_eq_getElem?_getD, List.getElem?_eq_none hj, Option.getD_none]
 ·have h1 := (hp i _ hi).1 hx
  have h2 : (selG g sel)[i]? = some (g.getD i .gone) := by unfold selG; rw [List.getElem?_map, h1]; rfl
  rw [h2, List.getD_eq_getElem?_getD, hR.kept.2 i x hx hi]
  rfl
theorem keepT_rep : ∀ {l : List TV} {us : List Value} (n : Nat) (live : List Nat), RepTs w S g l us → RepTs w S g (keepT n live l) us
 | [], [], _, _, _ => trivial
 | [], _ :: _, _, _, h => h.elim
 | _ :: _, [], _, _, h => h.elim
 | _ :: _, _ :: _, n, live, h => by
  refine ⟨?_, keepT_rep (n + 1) live h.2⟩
  split
  ·exact h.1
  ·trivial
end
end Go.Proofs.YtgcioclfplafkaaGreatV
end
section
namespace Go.Proofs.YtgcioclfplafkaaGreatV
open Go Go.RowKit
def gx : Ob → Gh
 | .row r _ => .row (.sl r.size (.slice none 0 0) [])
 | _ => .gone
def NilRows (l : List Ob) : Prop := ∀ o ∈ l, ∃ r, o = .row r []
theorem NilRows_append {l m : List Ob} (h : NilRows l) (h' : NilRows m) : NilRows (l ++ m) := fun o ho => by
 rcases List.mem_append.1 ho with ho | ho
 ·exact h o ho
 ·exact h' o ho
theorem NilRows_nil : NilRows [] := fun o h => by simp at h
theorem nilC_rows (n : Nat) (v : CV) : NilRows (nilC n v).2 := by
 cases v <;> simp only [nilC] <;> first | exact NilRows_nil | (intro o ho; simp only [List.mem_singleton] at ho; exact ⟨_, ho⟩)
theorem nilL_rows : ∀ (l : List CV) (n : Nat), NilRows (nilL n l).2
 | [], _ => NilRows_nil
 | v :: l, n => by simp only [nilL]; exact NilRows_append (nilC_rows n v) (nilL_rows l _)
theorem nilT_rows (n : Nat) (v : TV) : NilRows (nilT n v).2 := by
 cases v <;> simp only [nilT] <;> first | exact NilRows_nil | exact nilC_rows _ _ | exact nilL_rows _ _
theorem nilTs_rows : ∀ (l : List TV) (n : Nat), NilRows (nilTs n l).2
 | [], _ => NilRows_nil
 | v :: l, n => by simp only [nilTs]; exact NilRows_append (nilT_rows n v) (nilTs_rows l _)
theorem nilO_rows (n : Nat) (v : Ob) : NilRows (nilO n v).2 := by
 cases v <;> simp only [nilO] <;> first | exact NilRows_nil | exact nilL_rows _ _
theorem nilOs_rows : ∀ (l : List Ob) (n : Nat), NilRows (nilOs n l).2
 | [], _ => NilRows_nil
 | v :: l, n => by simp only [nilOs]; exact NilRows_append (nilO_rows n v) (nilOs_rows l _)
theorem nilOs_length : ∀ (l : List Ob) (n : Nat), (nilOs n l).1.length = l.length
 | [], _ => rfl
 | v :: l, n => by simp only [nilOs, List.length_cons, nilOs_length l]
theorem allB_gx : ∀ {l : List Ob}, NilRows l → allB (l.map gx) = []
 | [], _ => rfl
 | o :: l, h => by
  obtain ⟨r, e⟩ := h o (by simp)
  subst e
  have := allB_gx (l := l) (fun o ho => h o (by simp [ho]))
  simpa [allB, gx, Gh.blocks, GT.blocks, GT.blocksL, blockOf] using this
section
variable {P : Program} {T : Tab} {W : List Gh} {w0 w : World} {g g' : List Gh} {S S' : Nat → Prop} {st : St} {a : Act}
def Have (g' : List Gh) (n : Nat) (l : List Ob) : Prop := ∀ k, k < l.length → g'[n + k]? = (l.map gx)[k]?
theorem Have_append {n : Nat} {l m : List Ob} (h : Have g' n (l ++ m)) : Have g' n l ∧ Have g' (n + l.length) m := by
 constructor
 ·intro k hk
  have := h k (by simp; omega)
  rw [this, List.map_append, List.getElem?_append_left (by simpa using hk)]
 ·intro k hk
  have := h (l.length + k) (by simp; omega)
  rw [← Nat.add_assoc] at this
  rw [this, List.map_append, List.getElem?_append_right (by simp)]
  simp
theorem obs_gx : ∀ {l : List Ob}, NilRows l → ObsOK w S g l (l.map gx)
 | [], _ => trivial
 | o :: l, h => by
  obtain ⟨r, e⟩ := h o (by simp)
  subst e
  exact ⟨⟨.slice none 0 0, [], rfl, .slice none 0 0, [], rfl, rfl, .inl ⟨rfl, rfl, rfl⟩⟩, obs_gx (fun o ho => h o (by simp [ho]))⟩
theorem nilC_rep (hS : ∀ b, S b → S' b ∧ w.heap[b]? = w.heap[b]?) (hG : GExt g g') {n : Nat} {v : CV} {u : Value} (hh : Have g' n (nilC n v).2) (h : RepC w S g v u) : RepC w S' g' (nilC n v).1 u := by
 cases v
 case nilS r =>
  have := hh 0 (by simp [nilC])
  simp only [nilC, Nat.add_zero, List.map_cons, List.getElem?_cons_zero, gx] at this
  simp only [nilC, RepC, this]
  exact h
 all_goals exact RepC_mono hS hG h
theorem nilL_rep (hS : ∀ b, S b → S' b ∧ w.heap[b]? = w.heap[b]?) (hG : GExt g g') : ∀ {l : List CV} {us : List Value} {n : Nat}, Have g' n (nilL n l).2 → RepL w S g l us → RepL w S' g' (nilL n l).1 us
 | [], [], _, _, _ => trivial
 | [], _ :: _, _, _, h => h.elim
 | _ :: _, [], _, _, h => h.elim
 | v :: l, u :: us, n, hh, h => by
  simp only [nilL] at hh ⊢
  obtain ⟨h1, h2⟩ := Have_append hh
  exact ⟨nilC_rep hS hG h1 h.1, nilL_rep hS hG h2 h.2⟩
theorem nilAt_rep (hS : ∀ b, S b → S' b ∧ w.heap[b]? = w.heap[b]?) (hG : GExt g g') : ∀ {l : List CV} {cs : Array Value} {o n : Nat}, Have g' n (nilL n l).2 → RepAt w S g l cs o → RepAt w S' g' (nilL n l).1 cs o
 | [], _, _, _, _, _ => trivial
 | v :: l, cs, o, n, hh, h => by
  simp only [nilL] at hh ⊢
  obtain ⟨h1, h2⟩ := Have_append hh
  obtain ⟨⟨u, h3, h4⟩, h5⟩ := h
  exact ⟨⟨u, h3, nilC_rep hS hG h1 h4⟩, nilAt_rep hS hG h2 h5⟩
theorem nilT_rep (hS : ∀ b, S b → S' b ∧ w.heap[b]? = w.heap[b]?) (hG : GExt g g') {n : Nat} {v : TV} {u : Value} (hh : Have g' n (nilT n v).2) (h : RepT w S g v u) : RepT w S' g' (nilT n v).1 u := by
 cases v
 case c v => exact nilC_rep hS hG hh h
 case agg l => obtain ⟨us, h1, h2⟩ := h; exact ⟨us, h1, nilL_rep hS hG hh h2⟩
 all_goals exact RepT_mono hS hG h
theorem nilTs_rep (hS : ∀ b, S b → S' b ∧ w.heap[b]? = w.heap[b]?) (hG : GExt g g') : ∀ {l : List TV} {us : List Value} {n : Nat}, Have g' n (nilTs n l).2 → RepTs w S g l us → RepTs w S' g' (nilTs n l).1 us
 | [], [], _, _, _ => trivial
 | [], _ :: _, _, _, h => h.elim
 | _ :: _, [], _, _, h => h.elim
 | v :: l, u :: us, n, hh, h => by
  simp only [nilTs] at hh ⊢
  obtain ⟨h1, h2⟩ := Have_append hh
  exact ⟨nilT_rep hS hG h1 h.1, nilTs_rep hS hG h2 h.2⟩
theorem nilO_rep (hS : ∀ b, S b → S' b ∧ w.heap[b]? = w.heap[b]?) (hG : GExt g g') {n : Nat} {o : Ob} {x : Gh} (hh : Have g' n (nilO n o).2) (h : ObOK w S g o x) : ObOK w S' g' (nilO n o).1 x := by
 cases o
 case box l =>
  cases x <;> try exact h.elim
  obtain ⟨cells, t, h1, h2, h3⟩ := h
  refine ⟨cells, t, h1, ?_, nilAt_rep hS hG hh h3⟩
  rw [h2]
  have : ∀ (l : List CV) (n : Nat), (nilL n l).1.length = l.length := by
   intro l
   induction l with
   | nil => intro n; rfl
   | cons v l ih => intro n; simp only [nilL, List.length_cons, ih]
  exact (this l n).symm
 all_goals exact ObOK_mono hS hG (fun _ _ => rfl) h
theorem nilOs_rep (hS : ∀ b, S b → S' b ∧ w.heap[b]? = w.heap[b]?) (hG : GExt g g') : ∀ {l : List Ob} {m : List Gh} {n : Nat}, Have g' n (nilOs n l).2 → ObsOK w S g l m → ObsOK w S' g' (nilOs n l).1 m
 | [], [], _, _, _ => trivial
 | [], _ :: _, _, _, h => h.elim
 | _ :: _, [], _, _, h => h.elim
 | o :: l, x :: m, n, hh, h => by
  simp only [nilOs] at hh ⊢
  obtain ⟨h1, h2⟩ := Have_append hh
  exact ⟨nilO_rep hS hG h1 h.1, nilOs_rep hS hG h2 h.2⟩
theorem addNew_pre : ∀ (l acc : List Nat) (i : Nat), i < acc.length → (addNew acc l)[i]? = acc[i]?
 | [], _, _, _ => rfl
 | x :: l, acc, i, h => by
  simp only [addNew]
  split
  ·exact addNew_pre l acc i h
  ·rw [addNew_pre l _ i (by simp; omega), List.getElem?_append_left h]
theorem addNew_le : ∀ (l acc : List Nat), acc.length ≤ (addNew acc l).length
 | [], _ => Nat.le_refl _
 | x :: l, acc => by
  simp only [addNew]
  split
  ·exact addNew_le l acc
  ·refine Nat.le_trans ?_ (addNew_le l _)
   simp
theorem norm_ok (m : Nat) (live : List Nat) (hm : W.length ≤ m) (h : Rel W w0 st a w) : Rel W w0 (norm m live st) a w := by
 obtain ⟨g, hR⟩ := h
 have hlen := ObsOK_length hR.ob
 have hr2 := nilTs_rows (keepT 0 live st.tmps) st.objs.length
 have hr3 := nilOs_rows st.objs (st.objs.length + (nilTs st.objs.length (keepT 0 live st.tmps)).2.length)
 generalize hgx : g ++ (nilTs st.objs.length (keepT 0 live st.tmps)).2.map gx ++ (nilOs (st.objs.length + (nilTs st.objs.length (keepT 0 live st.tmps)).2.length) st.objs).2.map gx = g'
 have hB : allB g' = allB g := by rw [← hgx, allB_append, allB_append, allB_gx hr2, allB_gx hr3]; simp
 have hG : GExt g g' := fun i x hi => by
  have hl := (List.getElem?_eq_some_iff.1 hi).1
  right; left
  rw [← hgx, List.append_assoc, List.getElem?_append_left hl]
  exact hi
 have hS : ∀ b, Stable w g b → Stable w g' b ∧ w.heap[b]? = w.heap[b]? := fun b hb => ⟨⟨hb.1, by rw [hB]; exact hb.2⟩, rfl⟩
 have h2 : Have g' st.objs.length (nilTs st.objs.length (keepT 0 live st.tmps)).2 := fun k hk => by
  rw [← hgx, List.append_assoc, List.getElem?_append_right (by omega), hlen, Nat.add_sub_cancel_left, List.getElem?_append_left (by simpa [hlen] using hk)]
 have h3 : Have g' (st.objs.length + (nilTs st.objs.length (keepT 0 live st.tmps)).2.length) (nilOs (st.objs.length + (nilTs st.objs.length (keepT 0 live st.tmps)).2.length) st.objs).2 := fun k hk => by
  rw [← hgx, List.getElem?_append_right (by simp; omega)]
  congr 1
  simp
  omega
 have hmid : RelG W w0 g' { tmps := (nilTs st.objs.length (keepT 0 live st.tmps)).1, objs := (nilOs (st.objs.length + (nilTs st.objs.length (keepT 0 live st.tmps)).2.length) st.objs).1 ++ (nilTs st.objs.length (keepT 0 live st.tmps)).2 ++ (nilOs (st.objs.length + (nilTs st.objs.length (keepT 0 live st.tmps)).2.length) st.objs).2 } a w := by
  refine ⟨nilTs_rep hS hG h2 (keepT_rep 0 live hR.tm), ?_, by rw [hB]; exact hR.nd, by rw [hB]; exact hR.own, hR.keep, hR.kept.ext hG, hR.df⟩
  have := ObsOK_append (ObsOK_append (nilOs_rep hS hG h3 hR.ob) (obs_gx (w := w) (S := Stable w g') (g := g') hr2)) (obs_gx (w := w) (S := Stable w g') (g := g') hr3)
  rw [hgx] at this
  exact this
 refine ⟨_, rel_sel hmid (addNew_nodup _ _ (addNew_nodup _ _ (addNew_nodup _ _ List.nodup_range))) (fun i x hi => ?_)⟩
 have hl := (List.getElem?_eq_some_iff.1 hi).1
 suffices h : _ = _ from ⟨fun _ => h, fun _ => .inl h⟩
 have h0 : i < (List.range m).length := by simp; omega
 have h1 := Nat.lt_of_lt_of_le h0 (addNew_le ((nilTs st.objs.length (keepT 0 live st.tmps)).1.flatMap idT) (List.range m))
 rw [addNew_pre _ _ _ (Nat.lt_of_lt_of_le h1 (addNew_le _ _)), addNew_pre _ _ _ h1, addNew_pre _ _ _ h0, List.getElem?_range (by omega)]
theorem np_keep : ∀ {l : List TV} (n : Nat) (live : List Nat), l.all npT = true → (keepT n live l).all npT = true
 | [], _, _, _ => rfl
 | v :: l, n, live, h => by
  simp only [List.all_cons, Bool.and_eq_true] at h
  simp only [keepT, List.all_cons, Bool.and_eq_true]
  refine ⟨?_, np_keep (n + 1) live h.2⟩
  split
  ·exact h.1
  ·rfl
theorem np_nilC (n : Nat) {v : CV} (h : npC v = true) : npC (nilC n v).1 = true := by cases v <;> first | rfl | exact h
theorem np_nilL : ∀ {l : List CV} (n : Nat), l.all npC = true → (nilL n l).1.all npC = true
 | [], _, _ => rfl
 | v :: l, n, h => by
  simp only [List.all_cons, Bool.and_eq_true] at h
  simp only [nilL, List.all_cons, Bool.and_eq_true]
  exact ⟨np_nilC n h.1, np_nilL _ h.2⟩
theorem np_nilT (n : Nat) {v : TV} (h : npT v = true) : npT (nilT n v).1 = true := by
 cases v with
 | c v => exact np_nilC n h
 | agg l => exact np_nilL n h
 | _ => exact h
theorem np_nilTs : ∀ {l : List TV} (n : Nat), l.all npT = true → (nilTs n l).1.all npT = true
 | [], _, _ => rfl
 | v :: l, n, h => by
  simp only [List.all_cons, Bool.and_eq_true] at h
  simp only [nilTs, List.all_cons, Bool.and_eq_true]
  exact ⟨np_nilT n h.1, np_nilTs _ h.2⟩
theorem np_nilO (n : Nat) {v : Ob} (h : npO v = true) : npO (nilO n v).1 = true := by
 cases v with
 | box l => exact np_nilL n h
 | _ => exact h
theorem np_nilOs : ∀ {l : List Ob} (n : Nat), l.all npO = true → (nilOs n l).1.all npO = true
 | [], _, _ => rfl
 | v :: l, n, h => by
  simp only [List.all_cons, Bool.and_eq_true] at h
  simp only [nilOs, List.all_cons, Bool.and_eq_true]
  exact ⟨np_nilO n h.1, np_nilOs _ h.2⟩
theorem np_rows {l : List Ob} (h : NilRows l) : l.all npO = true := List.all_eq_true.2 (fun x hx => by obtain ⟨r, rfl⟩ := h x hx; rfl)
theorem np_renC {sel : List Nat} {v : CV} (h : npC v = true) : npC (renC sel v) = true := by
 cases v with
 | pref id i j => cases h
 | psub id i j lo hi => cases h
 | ref id => simp only [renC]; split <;> rfl
 | sub id lo hi => simp only [renC]; split <;> rfl
 | box id off => simp only [renC]; split <;> rfl
 | _ => exact h
theorem np_renL {sel : List Nat} {l : List CV} (h : l.all npC = true) : (l.map (renC sel)).all npC = true := by
 rw [List.all_eq_true] at *
 intro x hx
 obtain ⟨y, hy, rfl⟩ := List.mem_map.1 hx
 exact np_renC (h y hy)
theorem np_renT {sel : List Nat} {v : TV} (h : npT v = true) : npT (renT sel v) = true := by
 cases v with
 | c v => exact np_renC h
 | agg l => exact np_renL h
 | tup l =>
  simp only [npT, renT, List.all_eq_true] at *
  intro x hx
  obtain ⟨y, hy, rfl⟩ := List.mem_map.1 hx
  have := np_renL (sel := sel) (List.all_eq_true.2 (h y hy))
  exact List.all_eq_true.1 this
 | fp l => exact np_renL h
 | er id i off => simp only [renT]; split <;> rfl
 | fn f l => exact np_renL h
theorem np_renO {sel : List Nat} {o : Ob} (h : npO o = true) : npO (renO sel o) = true := by
 cases o with
 | box l => exact np_renL h
 | _ => exact h
theorem np_at {l : List Ob} (h : l.all npO = true) (k : Nat) : npO (Ob.at l k) = true := by
 unfold Ob.at
 rw [List.getD_eq_getElem?_getD]
 cases hk : l[k]? with
 | none => rfl
 | some o => exact np_get h hk
theorem np_norm {m : Nat} {live : List Nat} {st : St} (h : npSt st = true) : npSt (norm m live st) = true := by
 unfold npSt at h
 rw [Bool.and_eq_true] at h
 have h1 := np_nilTs st.objs.length (np_keep 0 live h.1)
 have hr2 := np_rows (nilTs_rows (keepT 0 live st.tmps) st.objs.length)
 have hr3 := np_rows (nilOs_rows st.objs (st.objs.length + (nilTs st.objs.length (keepT 0 live st.tmps)).2.length))
 have h2 := np_nilOs (st.objs.length + (nilTs st.objs.length (keepT 0 live st.tmps)).2.length) h.2
 unfold npSt norm
 simp only [Bool.and_eq_true]
 constructor
 ·rw [List.all_eq_true]
  intro x hx
  obtain ⟨y, hy, rfl⟩ := List.mem_map.1 hx
  exact np_renT ((List.all_eq_true.1 h1) y hy)
 ·rw [List.all_eq_true]
  intro x hx
  obtain ⟨y, hy, rfl⟩ := List.mem_map.1 hx
  refine np_renO (np_at ?_ y)
  rw [List.all_append, List.all_append, Bool.and_eq_true, Bool.and_eq_true]
  exact ⟨⟨h2, hr2⟩, hr3⟩
end
end Go.Proofs.YtgcioclfplafkaaGreatV
end
section
namespace Go.Proofs.YtgcioclfplafkaaGreatV
open Go Go.RowKit
section
variable {P : Program} {T : Tab} {W : List Gh} {w0 : World} {c : Code}
theorem rel_read {w : World} {st : St} {a : Act} {f : SF} {cs : List CT} {x : HT cs} (hm : W.length ≤ f.m) (hR : RelN T W w0 st a w) (h : f.read cs st = some x) : RelN T W w0 (f.mk' cs x) a w := by
 rw [read_mk h]
 exact ⟨norm_ok _ _ hm hR.1, fun hn => ⟨np_norm (hR.2 hn).1, (hR.2 hn).2⟩⟩
theorem loopA_ok {f g : SF} {cs co : List CT} {e : Nat} (hmf : W.length ≤ f.m) (hmg : W.length ≤ g.m) (lf : Nat → HT cs → Option (HT co)) (h0 : ∀ x, lf 0 x = none) (h1 : ∀ n x, lf (n + 1) x = ev T c (f.mk' cs x) (outA e g co f cs (lf n)))
  (hbody : CodeOK P T W w0 c (fun st K => ev T c st K)) (k : Nat) : CodeOK P T W w0 (.loop c) (loopA f cs e g co (lf k)).run := by
 intro R st K r a w Q hR h hQ
 simp only [loopA] at h
 obtain ⟨x, hx, h⟩ := Option.bind_eq_some_iff.1 h
 obtain ⟨y, hy, h⟩ := Option.bind_eq_some_iff.1 h
 refine wp_loop_fuel (fun n a w => ∃ st x, RelN T W w0 st a w ∧ f.read cs st = some x ∧ lf n x = some y) ⟨k, st, x, hR, hx, hy⟩ (fun n a w hJ => ?_)
 obtain ⟨st, x, hR, hx, hy⟩ := hJ
 cases n with
 | zero => rw [h0] at hy; cases hy
 | succ n =>
  rw [h1] at hy
  refine hbody _ _ y a w _ (rel_read hmf hR hx) hy (fun e' st' a' w' hR' h' => ?_)
  cases e' with
  | normal =>
   simp only [outA] at h'
   obtain ⟨x', hx', h'⟩ := Option.bind_eq_some_iff.1 h'
   exact ⟨n, Nat.lt_succ_self n, st', x', hR', hx', h'⟩
  | exit i =>
   simp only [outA] at h'
   split at h'
   ·rename_i e'
    subst e'
    exact hQ (.exit i) _ a' w' (rel_read hmg hR' h') h
   ·cases h'
  | ret => cases h'
theorem loopB_ok {f g h : SF} {cs co cr : List CT} {e : Nat} (hmf : W.length ≤ f.m) (hmg : W.length ≤ g.m) (hmh : W.length ≤ h.m) (lf : Nat → HT cs → Option (HT co ⊕ HT cr)) (h0 : ∀ x, lf 0 x = none) (h1 : ∀ n x, lf (n + 1) x = ev T c (f.mk' cs x) (outB e g co h cr f cs (lf n)))
  (hbody : CodeOK P T W w0 c (fun st K => ev T c st K)) (k : Nat) : CodeOK P T W w0 (.loop c) (loopB f cs e g co h cr (lf k)).run := by
 intro R st K r a w Q hR h2 hQ
 simp only [loopB] at h2
 obtain ⟨x, hx, h2⟩ := Option.bind_eq_some_iff.1 h2
 obtain ⟨y, hy, h2⟩ := Option.bind_eq_some_iff.1 h2
 refine wp_loop_fuel (fun n a w => ∃ st x, RelN T W w0 st a w ∧ f.read cs st = some x ∧ lf n x = some y) ⟨k, st, x, hR, hx, hy⟩ (fun n a w hJ => ?_)
 obtain ⟨st, x, hR, hx, hy⟩ := hJ
 cases n with
 | zero => rw [h0] at hy; cases hy
 | succ n =>
  rw [h1] at hy
  refine hbody _ _ y a w _ (rel_read hmf hR hx) hy (fun e' st' a' w' hR' h' => ?_)
  cases e' with
  | normal =>
   simp only [outB] at h'
   obtain ⟨x', hx', h'⟩ := Option.bind_eq_some_iff.1 h'
   exact ⟨n, Nat.lt_succ_self n, st', x', hR', hx', h'⟩
  | exit i =>
   simp only [outB] at h'
   split at h'
   ·rename_i e'
    subst e'
    split at h'
    ·rename_i z hz
     injection h' with h'
     subst h'
     exact hQ (.exit i) _ a' w' (rel_read hmg hR' hz) h2
    ·cases h'
   ·cases h'
  | ret =>
   simp only [outB] at h'
   split at h'
   ·rename_i z hz
    injection h' with h'
    subst h'
    exact hQ .ret _ a' w' (rel_read hmh hR' hz) h2
   ·cases h'
end
end Go.Proofs.YtgcioclfplafkaaGreatV
end
section
namespace Go.Proofs.YtgcioclfplafkaaGreatV
open Go Go.RowKit
section
variable {P : Program} {T : Tab} {W : List Gh} {w0 : World}
theorem reg_text (hT : TabFn P T) (lo id : Nat) (ops : Array Oper) : CodeOK P T W w0 (.region id ops false) (fun st K => evReg T lo ops false st (K .normal)) := by
 intro R st K r a w Q hR h hQ
 obtain ⟨⟨g, hR⟩, hnp⟩ := hR
 simp only [evReg, Bool.false_eq_true, if_false] at h
 exact wp_region_list (evOps_ok hT ops.toList hR hnp h (fun st' a' w' hR' h' => hQ .normal st' a' w' hR' h'))
theorem pos_range' : ∀ (n s i : Nat), i < n → pos? (List.range' s n) (s + i) = some i
 | 0, _, _, h => by omega
 | n + 1, s, 0, _ => by simp [List.range'_succ, pos?]
 | n + 1, s, i + 1, h => by
  simp only [List.range'_succ, pos?]
  rw [if_neg (by omega), show s + (i + 1) = (s + 1) + i by omega, pos_range' n (s + 1) i (by omega)]
theorem pos_range {n i : Nat} (h : i < n) : pos? (List.range n) i = some i := by
 rw [List.range_eq_range']
 have := pos_range' n 0 i h
 rwa [Nat.zero_add] at this
variable {w : World} {S : Nat → Prop} {g : List Gh}
theorem lt_of_get {id : Nat} {x : Gh} (h : g[id]? = some x) : id < g.length := (List.getElem?_eq_some_iff.1 h).1
theorem renC_range {v : CV} {u : Value} (h : RepC w S g v u) : renC (List.range g.length) v = v := by
 cases v with
 | ref id =>
  cases hg : g[id]? with
  | none => simp [RepC, hg] at h
  | some x => simp only [renC, pos_range (lt_of_get hg)]
 | sub id lo hi =>
  cases hg : g[id]? with
  | none => simp [RepC, hg] at h
  | some x => simp only [renC, pos_range (lt_of_get hg)]
 | pref id i j =>
  cases hg : g[id]? with
  | none => simp [RepC, hg] at h
  | some x => simp only [renC, pos_range (lt_of_get hg)]
 | psub id i j lo hi =>
  cases hg : g[id]? with
  | none => simp [RepC, hg] at h
  | some x => simp only [renC, pos_range (lt_of_get hg)]
 | box id off =>
  cases hg : g[id]? with
  | none => simp [RepC, hg] at h
  | some x => simp only [renC, pos_range (lt_of_get hg)]
 | _ => rfl
theorem renL_range : ∀ {l : List CV} {us : List Value}, RepL w S g l us → l.map (renC (List.range g.length)) = l
 | [], [], _ => rfl
 | [], _ :: _, h => h.elim
 | _ :: _, [], h => h.elim
 | _ :: _, _ :: _, h => by rw [List.map_cons, renC_range h.1, renL_range h.2]
theorem renP_range : ∀ {l : List (Bool × List CV)} {us : List Value}, RepP w S g l us → (l.map fun p => (p.1, p.2.map (renC (List.range g.length)))) = l
 | [], [], _ => rfl
 | [], _ :: _, h => h.elim
 | (true, _) :: _, [], h => h.elim
 | (false, _) :: _, [], h => h.elim
 | (true, _) :: _, _ :: _, h => by
  obtain ⟨⟨us, h1, h2⟩, h3⟩ := h
  rw [List.map_cons, renL_range h2, renP_range h3]
 | (false, _) :: _, _ :: _, h => by rw [List.map_cons, renL_range h.1, renP_range h.2]
theorem renAt_self {sel : List Nat} : ∀ {l : List CV} {cs : Array Value} {o : Nat}, RepAt w S [] l cs o → l.map (renC sel) = l
 | [], _, _, _ => rfl
 | v :: _, _, _, h => by
  obtain ⟨⟨u, h1, h2⟩, h3⟩ := h
  rw [List.map_cons, renAt_self h3]
  congr 1
  cases v <;> first | rfl | exact h2.elim
theorem renT_range {v : TV} {u : Value} (h : RepT w S g v u) : renT (List.range g.length) v = v := by
 cases v with
 | c v => simp only [renT, renC_range h]
 | agg l => obtain ⟨us, _, h2⟩ := h; simp only [renT, renL_range h2]
 | tup l => obtain ⟨us, _, h2⟩ := h; simp only [renT, renP_range h2]
 | fp l => obtain ⟨b, off, cells, t, fr, _, _, _, h4⟩ := h; simp only [renT, renAt_self h4]
 | er id i off =>
  cases hg : g[id]? with
  | none => simp [RepT, hg] at h
  | some x => simp only [renT, pos_range (lt_of_get hg)]
 | fn f l => obtain ⟨us, _, h2⟩ := h; simp only [renT, renL_range h2]
theorem renAt_range : ∀ {l : List CV} {cs : Array Value} {o : Nat}, RepAt w S g l cs o → l.map (renC (List.range g.length)) = l
 | [], _, _, _ => rfl
 | v :: _, _, _, h => by
  obtain ⟨⟨u, h1, h2⟩, h3⟩ := h
  rw [List.map_cons, renAt_range h3, renC_range h2]
theorem renO_range {o : Ob} {x : Gh} (h : ObOK w S g o x) : renO (List.range g.length) o = o := by
 cases o <;> try rfl
 cases x <;> try exact h.elim
 obtain ⟨cells, t, h1, h2, h3⟩ := h
 simp only [renO, renAt_range h3]
end
end Go.Proofs.YtgcioclfplafkaaGreatV
end

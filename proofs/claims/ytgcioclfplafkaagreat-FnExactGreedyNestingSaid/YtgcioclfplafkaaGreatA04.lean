/- Operations that build, and stores; no condition. -/
import Derived.Test.YtgcioclfplafkaaGreatA03
import Derived.Laws.MakeOwn
import Derived.Great.BuildSlice
import Derived.Great.FillDense
set_option linter.all false
section
namespace Go.Proofs.YtgcioclfplafkaaGreatV
open Go Go.RowKit
theorem nodup_of {g : List Gh} {i : Nat} {x : Gh} (h : (allB g).Nodup) (hi : g[i]? = some x) : x.blocks.Nodup := by
 obtain ⟨l, m, h1, _⟩ := allB_set .gone hi
 rw [h1, List.append_assoc, List.nodup_append] at h
 rw [List.nodup_append] at h
 exact h.2.1.1
theorem mul_apart {i j sz k n : Nat} (h : i ≠ j) (hk : k < sz) (hn : n < sz) : i * sz + k ≠ j * sz + n := by
 intro e
 rcases Nat.lt_or_gt_of_ne h with h | h
 ·have := Nat.mul_le_mul_right sz (show i + 1 ≤ j from h)
  rw [Nat.add_mul, Nat.one_mul] at this
  omega
 ·have := Nat.mul_le_mul_right sz (show j + 1 ≤ i from h)
  rw [Nat.add_mul, Nat.one_mul] at this
  omega
section
variable {P : Program} {T : Tab} {W : List Gh} {w0 w : World} {g : List Gh} {st : St} {a : Act}
theorem splice_get (L : List Value) (o : Nat) (us : List Value) (k : Nat) (h : o + us.length ≤ L.length) : (L.take o ++ us ++ L.drop (o + us.length)).toArray[k]? = if k < o then L[k]? else if k < o + us.length then us[k - o]? else L[k]? := by
 simp only [List.getElem?_toArray]
 by_cases h1 : k < o
 ·rw [if_pos h1, List.append_assoc, List.getElem?_append_left (by simp; omega), List.getElem?_take_of_lt h1]
 ·rw [if_neg h1]
  by_cases h2 : k < o + us.length
  ·rw [if_pos h2, List.getElem?_append_left (by simp; omega), List.getElem?_append_right (by simp; omega)]
   congr 1; simp; omega
  ·rw [if_neg h2, List.getElem?_append_right (by simp; omega), List.getElem?_drop]
   congr 1; simp; omega
theorem rel_store_er (hR : RelG W w0 g st a w) {id i off : Nat} {r : CT} {xs : List (El r)} {y : El r} {vs : List CV} {us : List Value} {b cap : Nat} {cells : Array Value} {ty : TypeId} {rows : List GT}
  (hg : g[id]? = some (.row (.sl r.size (.slice (some ⟨b, 0, none⟩) xs.length cap) rows))) (hh : w.heap[b]? = some (.cells cells ty (0, 0))) (hi : i < xs.length)
  (htop : OwnC w (.sl r) #[.slice (some ⟨b, 0, none⟩) xs.length cap] 0 xs (.sl r.size (.slice (some ⟨b, 0, none⟩) xs.length cap) rows))
  (hv : RepL w (Stable w g) g vs us) (hu : updS r (xs.getD i (dflt r)) off vs = some y) (hfit : off + vs.length ≤ r.size) (d : Option Nat) :
  RelG W w0 g (({ tmps := st.tmps, objs := st.objs.set id (.row r (xs.set i y)) } : St).put d .dead) (a.put d undef) (w.setRow b (cells.toList.take (i * r.size + off) ++ us ++ cells.toList.drop (i * r.size + off + us.length)).toArray) := by
 refine rel_write hR hg (by simp [Gh.blocks, GT.blocks, blockOf]) _ ?_ d trivial
 obtain ⟨v', rows', e, h1, h2⟩ := htop
 injection e with _ e2 e3
 subst e2; subst e3
 have hl := RepL_length hv
 rcases h2 with ⟨h2, _⟩ | ⟨b', cap', cells', ty', hv', hc, hm, hh', hs, hrl, hr⟩
 ·subst h2; simp at hi
 ·injection hv' with hb _ hcap
  injection hb with hb
  injection hb with hb
  subst hb; subst hcap
  rw [hh] at hh'
  injection hh' with hh'
  injection hh' with e1 e2 e3
  subst e1
  have hnd := nodup_of hR.nd hg
  simp only [Gh.blocks, GT.blocks, blockOf, List.singleton_append, List.nodup_cons] at hnd
  have hfit2 : i * r.size + off + us.length ≤ cells.toList.length := by
   have := Nat.mul_le_mul_right r.size (show i + 1 ≤ cap by omega)
   rw [Nat.add_mul, Nat.one_mul] at this
   simp only [Array.length_toList, hs]
   omega
  have hget := fun k => splice_get cells.toList (i * r.size + off) us k hfit2
  refine ⟨_, rows, rfl, _, rows, rfl, by simp, .inr ⟨b, cap, _, ty, by simp, by simpa using hc, hm, setRow_heap w b cells _ ty _ hh, ?_, by simpa using hrl, fun j hj hj' => ?_⟩⟩
  ·simp only [List.size_toArray, List.length_append, List.length_take, List.length_drop, Array.length_toList] at hfit2 ⊢
   omega
  ·have hjx : j < xs.length := by simpa using hj
   have hframe : ∀ c ∈ (rows[j]).blocks, (w.setRow b (cells.toList.take (i * r.size + off) ++ us ++ cells.toList.drop (i * r.size + off + us.length)).toArray).heap[c]? = w.heap[c]? := fun c hc' =>
    setRow_other w b c _ (fun e => hnd.1 (e ▸ blocksL_mem (List.getElem_mem hj') hc'))
   refine OwnC_frame hframe ?_
   have hold := hr j hjx hj'
   by_cases hji : i = j
   ·subst hji
    rw [List.getElem_set_self]
    have hx : xs.getD i (dflt r) = xs[i] := by rw [List.getD_eq_getElem?_getD, List.getElem?_eq_getElem hjx, Option.getD_some]
    rw [hx] at hu
    refine updS_own hold hu hv hfit (fun k hk => ?_) (fun k hk hk2 => ?_)
    ·rw [hget, if_neg (by omega), if_pos (by omega)]
     congr 1; omega
    ·rw [hget]
     by_cases h5 : i * r.size + k < i * r.size + off
     ·rw [if_pos h5]; simp
     ·rw [if_neg h5, if_neg (by omega)]; simp
   ·rw [List.getElem_set_ne hji]
    refine OwnC_congr (fun k hk => ?_) hold
    rw [hget]
    by_cases h5 : j * r.size + k < i * r.size + off
    ·rw [if_pos h5]; simp
    ·rw [if_neg h5]
     by_cases h6 : j * r.size + k < i * r.size + off + us.length
     ·exfalso
      have := mul_apart (i := i) (j := j) (sz := r.size) (k := j * r.size + k - i * r.size) (n := k) hji (by omega) hk
      omega
     ·rw [if_neg h6]; simp
def leafT : CT → GT
 | .pair a b => .pair a.size (leafT a) (leafT b)
 | _ => .leaf
theorem leafT_blocks : ∀ c : CT, (leafT c).blocks = []
 | .int _ => rfl
 | .bool => rfl
 | .str => rfl
 | .sl _ => rfl
 | .pair a b => by simp [leafT, GT.blocks, leafT_blocks a, leafT_blocks b]
theorem flat_own {S : Nat → Prop} : ∀ {c : CT} {cs cs' : Array Value} {o o' : Nat} {x : El c}, c.flat = true → FzC w S c cs o x → (∀ k, k < c.size → cs'[o' + k]? = cs[o + k]?) → ∀ w', OwnC w' c cs' o' x (leafT c)
 | .int _, _, _, _, _, _, _, h, k, _ => ⟨by have := k 0 (by simp [CT.size]); simp only [Nat.add_zero] at this; rw [this]; exact h, rfl⟩
 | .bool, _, _, _, _, _, _, h, k, _ => ⟨by have := k 0 (by simp [CT.size]); simp only [Nat.add_zero] at this; rw [this]; exact h, rfl⟩
 | .str, _, _, _, _, _, _, h, k, _ => ⟨by have := k 0 (by simp [CT.size]); simp only [Nat.add_zero] at this; rw [this]; exact h, rfl⟩
 | .sl _, _, _, _, _, _, hf, _, _, _ => by simp [CT.flat] at hf
 | .pair a b, _, _, o, o', _, hf, h, k, w' => by
  simp only [CT.flat, Bool.and_eq_true] at hf
  exact ⟨leafT a, leafT b, rfl, flat_own hf.1 h.1 (fun i hi => k i (by simp [CT.size]; omega)) w', flat_own hf.2 h.2 (fun i hi => by
   have := k (a.size + i) (by simp [CT.size]; omega)
   rwa [← Nat.add_assoc, ← Nat.add_assoc] at this) w'⟩
def zeroT : CT → GT
 | .pair a b => .pair a.size (zeroT a) (zeroT b)
 | .sl r => .sl r.size (.slice none 0 0) []
 | _ => .leaf
theorem zeroT_blocks : ∀ c : CT, (zeroT c).blocks = []
 | .int _ => rfl
 | .bool => rfl
 | .str => rfl
 | .sl _ => rfl
 | .pair a b => by simp [zeroT, GT.blocks, zeroT_blocks a, zeroT_blocks b]
theorem zero_own {S : Nat → Prop} (w' : World) : ∀ {c : CT} {us : List Value} {cs : Array Value} {o : Nat}, RepL w S g (zeroC c) us → (∀ k, k < us.length → cs[o + k]? = us[k]?) → OwnC w' c cs o (dflt c) (zeroT c)
 | .int kk, us, cs, o, h, k => by
  obtain ⟨u, m, rfl, h1, _⟩ := RepL_cons_inv h
  have := k 0 (by simp)
  simp only [RepC] at h1
  subst h1
  have h2 : cs[o]? = some (.int kk 0) := by simpa using this
  exact ⟨h2, rfl⟩
 | .bool, us, cs, o, h, k => by
  obtain ⟨u, m, rfl, h1, _⟩ := RepL_cons_inv h
  have := k 0 (by simp)
  simp only [RepC] at h1
  subst h1
  have h2 : cs[o]? = some (.bool false) := by simpa using this
  exact ⟨h2, rfl⟩
 | .str, us, cs, o, h, k => by
  obtain ⟨u, m, rfl, h1, _⟩ := RepL_cons_inv h
  have := k 0 (by simp)
  simp only [RepC] at h1
  subst h1
  have h2 : cs[o]? = some (.string ByteArray.empty) := by simpa using this
  exact ⟨h2, rfl⟩
 | .sl r, us, cs, o, h, k => by
  obtain ⟨u, m, rfl, h1, _⟩ := RepL_cons_inv h
  have := k 0 (by simp)
  simp only [RepC] at h1
  subst h1
  exact ⟨_, [], rfl, by simpa using this, .inl ⟨rfl, rfl, rfl⟩⟩
 | .pair a b, us, cs, o, h, k => by
  simp only [zeroC] at h
  have hl := RepL_length h
  simp only [List.length_append, zeroC_length] at hl
  have hsplit : ∀ {l m : List CV} {us : List Value}, RepL w S g (l ++ m) us → RepL w S g l (us.take l.length) ∧ RepL w S g m (us.drop l.length) := by
   intro l
   induction l with
   | nil => intro m us h; exact ⟨trivial, h⟩
   | cons v l ih =>
    intro m us h
    obtain ⟨u, us', rfl, h1, h2⟩ := RepL_cons_inv h
    have := ih h2
    exact ⟨⟨h1, this.1⟩, this.2⟩
  obtain ⟨h1, h2⟩ := hsplit h
  rw [zeroC_length] at h1 h2
  refine ⟨zeroT a, zeroT b, rfl, zero_own w' h1 (fun i hi => ?_), zero_own w' h2 (fun i hi => ?_)⟩
  ·simp only [List.length_take] at hi
   rw [k i (by omega), List.getElem?_take_of_lt (by omega)]
  ·simp only [List.length_drop] at hi
   rw [List.getElem?_drop, ← k (a.size + i) (by omega), Nat.add_assoc]
def goneG : List Gh → List Nat → List Gh
 | g, [] => g
 | g, i :: l => goneG (g.set i .gone) l
def goneO : List Ob → List Nat → List Ob
 | o, [] => o
 | o, i :: l => goneO (o.set i .gone) l
theorem goneG_length : ∀ (ids : List Nat) (g : List Gh), (goneG g ids).length = g.length
 | [], _ => rfl
 | i :: l, g => by simp [goneG, goneG_length l]
theorem goneO_length : ∀ (ids : List Nat) (g : List Ob), (goneO g ids).length = g.length
 | [], _ => rfl
 | i :: l, g => by simp [goneO, goneO_length l]
theorem goneG_get : ∀ (ids : List Nat) (g : List Gh) (k : Nat), (goneG g ids)[k]? = if k ∈ ids ∧ k < g.length then some .gone else g[k]?
 | [], g, k => by simp [goneG]
 | i :: l, g, k => by
  rw [goneG, goneG_get l, List.length_set]
  by_cases hk : k < g.length
  ·by_cases hl : k ∈ l
   ·simp [hl, hk]
   ·by_cases hi : i = k
    ·subst hi
     simp [hl, hk]
    ·have : ¬ k = i := fun e => hi e.symm
     simp only [List.mem_cons, this, hl, false_or, false_and, if_false, List.getElem?_set_ne hi]
  ·simp [hk]
theorem goneO_get : ∀ (ids : List Nat) (g : List Ob) (k : Nat), (goneO g ids)[k]? = if k ∈ ids ∧ k < g.length then some .gone else g[k]?
 | [], g, k => by simp [goneO]
 | i :: l, g, k => by
  rw [goneO, goneO_get l, List.length_set]
  by_cases hk : k < g.length
  ·by_cases hl : k ∈ l
   ·simp [hl, hk]
   ·by_cases hi : i = k
    ·subst hi
     simp [hl, hk]
    ·have : ¬ k = i := fun e => hi e.symm
     simp only [List.mem_cons, this, hl, false_or, false_and, if_false, List.getElem?_set_ne hi]
  ·simp [hk]
theorem goneG_nodup : ∀ (ids : List Nat) {g : List Gh}, (allB g).Nodup → (allB (goneG g ids)).Nodup
 | [], _, h => h
 | i :: l, g, h => by
  refine goneG_nodup l ?_
  cases hi : g[i]? with
  | none =>
   have : g.length ≤ i := List.getElem?_eq_none_iff.1 hi
   rwa [List.set_eq_of_length_le this]
  | some x =>
   obtain ⟨l1, m1, h1, h2⟩ := allB_set .gone hi
   rw [h1, List.append_assoc, List.nodup_append] at h
   rw [List.nodup_append] at h
   rw [h2]
   simp only [Gh.blocks, List.append_nil]
   rw [List.nodup_append]
   exact ⟨h.1, h.2.1.2.1, fun p hp q hq => h.2.2 p hp q (by simp [hq])⟩
theorem mem_goneG {ids : List Nat} {g : List Gh} {b : Nat} (h : b ∈ allB (goneG g ids)) : ∃ k x, k ∉ ids ∧ g[k]? = some x ∧ b ∈ x.blocks := by
 obtain ⟨x, hx, hb⟩ := mem_allB.1 h
 obtain ⟨k, hk⟩ := List.getElem?_of_mem hx
 rw [goneG_get] at hk
 split at hk
 ·injection hk with hk
  subst hk
  simp [Gh.blocks] at hb
 ·rename_i hn
  refine ⟨k, x, fun hm => hn ⟨hm, (List.getElem?_eq_some_iff.1 hk).1⟩, hk, hb⟩
theorem rel_row (hR : RelG W w0 g st a w) {nid : Nat} (hn : g[nid]? = some .unborn) {ids : List Nat} (hids : ∀ i ∈ ids, ∃ t, g[i]? = some (.row t)) {w' : World} {r : CT} {xs : List (El r)} {v : Value} {rows : List GT}
  (hok : OwnC w' (.sl r) #[v] 0 xs (.sl r.size v rows)) (hblk : ∀ b ∈ (GT.sl r.size v rows).blocks, (w.heap.size ≤ b ∧ b < w'.heap.size) ∨ ∃ i ∈ ids, ∃ x, g[i]? = some x ∧ b ∈ x.blocks) (hnd : (GT.sl r.size v rows).blocks.Nodup)
  (hw : ∀ b, b < w.heap.size → (∀ i ∈ ids, ∀ x, g[i]? = some x → b ∉ x.blocks) → w'.heap[b]? = w.heap[b]?) (hsz : w.heap.size ≤ w'.heap.size) (h1 : w'.os = w.os) (h2 : w'.tape = w.tape) (h3 : w'.output = w.output) (d : Option Nat) :
  RelG W w0 ((goneG g ids).set nid (.row (.sl r.size v rows))) (({ tmps := st.tmps, objs := (goneO st.objs ids).set nid (.row r xs) } : St).put d (.c (.ref nid))) (a.put d v) w' := by
 have hnl := (List.getElem?_eq_some_iff.1 hn).1
 have hnid : nid ∉ ids := fun h => by obtain ⟨t, h⟩ := hids nid h; rw [hn] at h; cases h
 have hn' : (goneG g ids)[nid]? = some .unborn := by rw [goneG_get, if_neg (fun h => hnid h.1)]; exact hn
 obtain ⟨l, m, h4, h5⟩ := allB_set (.row (.sl r.size v rows)) hn'
 simp only [Gh.blocks, List.append_nil] at h4 h5
 have hmem : ∀ b, b ∈ allB ((goneG g ids).set nid (.row (.sl r.size v rows))) → b ∈ (GT.sl r.size v rows).blocks ∨ ∃ k x, k ∉ ids ∧ g[k]? = some x ∧ b ∈ x.blocks := by
  intro b hb
  rw [h5] at hb
  simp only [List.mem_append] at hb
  rcases hb with (hb | hb) | hb
  ·exact .inr (mem_goneG (by rw [h4]; simp [hb]))
  ·exact .inl hb
  ·exact .inr (mem_goneG (by rw [h4]; simp [hb]))
 have hg : GExt g ((goneG g ids).set nid (.row (.sl r.size v rows))) := by
  intro i x hi
  by_cases e : nid = i
  ·subst e
   rw [hn] at hi
   injection hi with hi
   exact .inl hi.symm
  ·right
   rw [List.getElem?_set_ne e, goneG_get]
   by_cases hm : i ∈ ids
   ·right; rw [if_pos ⟨hm, (List.getElem?_eq_some_iff.1 hi).1⟩]
    obtain ⟨t, ht⟩ := hids i hm
    rw [hi] at ht
    injection ht with ht
    exact ⟨⟨t, ht⟩, rfl⟩
   ·left; rw [if_neg (fun h => hm h.1)]; exact hi
 have hS : ∀ b, Stable w g b → Stable w' ((goneG g ids).set nid (.row (.sl r.size v rows))) b ∧ w'.heap[b]? = w.heap[b]? := by
  intro b hb
  have hout : ∀ i ∈ ids, ∀ x, g[i]? = some x → b ∉ x.blocks := fun i _ x hx hbx => hb.2 (allB_mem hx hbx)
  refine ⟨⟨Nat.lt_of_lt_of_le hb.1 hsz, fun h => ?_⟩, hw b hb.1 hout⟩
  rcases hmem b h with h | ⟨k, x, _, h6, h7⟩
  ·rcases hblk b h with h | ⟨i, _, x, h6, h7⟩
   ·have := hb.1; omega
   ·exact hb.2 (allB_mem h6 h7)
  ·exact hb.2 (allB_mem h6 h7)
 refine rel_change hR hg hS ?_ ?_ ?_ ?_ d ?_
 ·refine ObsOK_but hS hg hR.ob (by simp [goneG_length, goneO_length, ObsOK_length hR.ob]) (fun i o x ho hx => ?_)
  by_cases e : nid = i
  ·subst e
   right
   rw [List.getElem?_set_self (by rw [goneO_length, ObsOK_length hR.ob]; exact hnl)] at ho
   rw [List.getElem?_set_self (by rw [goneG_length]; exact hnl)] at hx
   injection ho with ho; injection hx with hx
   subst ho; subst hx
   exact ⟨v, rows, rfl, hok⟩
  ·rw [List.getElem?_set_ne e, goneO_get] at ho
   rw [List.getElem?_set_ne e, goneG_get] at hx
   by_cases hm : i ∈ ids
   ·right
    have hl : i < g.length := by
     obtain ⟨t, h⟩ := hids i hm
     exact (List.getElem?_eq_some_iff.1 h).1
    rw [if_pos ⟨hm, by rw [ObsOK_length hR.ob]; exact hl⟩] at ho
    rw [if_pos ⟨hm, hl⟩] at hx
    injection ho with ho; injection hx with hx
    subst ho; subst hx
    trivial
   ·left
    rw [if_neg (fun h => hm h.1)] at ho hx
    refine ⟨ho, hx, fun b hb => hw b (hR.own b (allB_mem hx hb)).1 (fun j hj y hy hby => ?_)⟩
    exact nodup_apart (i := i) (j := j) hR.nd (fun e' => hm (by rw [e']; exact hj)) hx hy b hb hby
 ·rw [h5, List.append_assoc, List.nodup_append]
  have := goneG_nodup ids hR.nd
  rw [h4, List.nodup_append] at this
  have hap : ∀ b ∈ (GT.sl r.size v rows).blocks, b ∉ l ∧ b ∉ m := by
   intro b hb
   have : b ∉ allB (goneG g ids) := fun h => by
    obtain ⟨k, x, h6, h7, h8⟩ := mem_goneG h
    rcases hblk b hb with h | ⟨i, hi, y, h9, h10⟩
    ·have := (hR.own b (allB_mem h7 h8)).1; omega
    ·exact nodup_apart (i := k) (j := i) hR.nd (fun e => h6 (by rw [e]; exact hi)) h7 h9 b h8 h10
   rw [h4] at this
   simp only [List.mem_append, not_or] at this
   exact this
  refine ⟨this.1, ?_, ?_⟩
  ·rw [List.nodup_append]
   exact ⟨hnd, this.2.1, fun p hp q hq e => (hap p hp).2 (e ▸ hq)⟩
  ·intro p hp q hq
   rcases List.mem_append.1 hq with hq | hq
   ·exact fun e => (hap q hq).1 (e ▸ hp)
   ·exact this.2.2 p hp q hq
 ·intro b hb
  rcases hmem b hb with h | ⟨k, x, _, h6, h7⟩
  ·rcases hblk b h with h | ⟨i, _, x, h6, h7⟩
   ·exact ⟨h.2, .inl (Nat.le_trans hR.keep.size h.1)⟩
   ·have := hR.own b (allB_mem h6 h7)
    exact ⟨Nat.lt_of_lt_of_le this.1 hsz, this.2⟩
  ·have := hR.own b (allB_mem h6 h7)
   exact ⟨Nat.lt_of_lt_of_le this.1 hsz, this.2⟩
 ·exact keep_own hR h1 h2 h3 hsz (fun b hb hnb => hw b hb (fun i _ x hx hbx => hnb (allB_mem hx hbx)))
 ·simp only [RepT, RepC]
  rw [List.getElem?_set_self (by rw [goneG_length]; exact hnl)]
end
end Go.Proofs.YtgcioclfplafkaaGreatV
end
section
namespace Go.Proofs.YtgcioclfplafkaaGreatV
open Go Go.RowKit
section
variable {P : Program} {T : Tab} {W : List Gh} {w0 w : World} {g : List Gh} {st : St} {a : Act}
theorem made_get (z : Array Value) (n : Nat) (hz : 0 < z.size) (k : Nat) (hk : k < n) : (madeCells z n)[k]? = z[k % z.size]? := by
 have h2 : k % z.size < z.size := Nat.mod_lt _ hz
 unfold madeCells
 rw [Array.getElem?_map, Array.getElem?_eq_getElem (by simpa using hk), Array.getElem_range, Option.map_some, Array.getElem?_eq_getElem h2, getElem!_pos z (k % z.size) h2]
theorem mod_row {i k sz : Nat} (hk : k < sz) : (i * sz + k) % sz = k := by
 rw [Nat.add_comm, Nat.add_mul_mod_self_right, Nat.mod_eq_of_lt hk]
theorem row_lt {i n k sz : Nat} (hi : i < n) (hk : k < sz) : i * sz + k < n * sz := by
 have := Nat.mul_le_mul_right sz (show i + 1 ≤ n from hi)
 rw [Nat.add_mul, Nat.one_mul] at this
 omega
theorem rel_make (hT : TabOK P T) (hR : RelG W w0 g st a w) {nid : Nat} (hn : g[nid]? = some .unborn) {t : Nat} {te : TI} (he : elemTy T t = some te) {n c : Int} (h0 : 0 ≤ n) (h1 : n ≤ c) (h2 : te.bytes * c.toNat ≤ 140737488355328) (h3 : c.toNat < 4398046511104) (d : Option Nat) :
  ∃ u w', (Instr.makeSlice t (.int .i64 n) (.int .i64 c)).run P w = .ok u w' ∧
   RelG W w0 (g.set nid (.row (.sl te.ct.size u (List.replicate n.toNat (zeroT te.ct))))) (({ tmps := st.tmps, objs := st.objs.set nid (.row te.ct (List.replicate n.toNat (dflt te.ct))) } : St).put d (.c (.ref nid))) (a.put d u) w' := by
 obtain ⟨e, hu, hte, hptr, _⟩ := ty_elem hT he
 have hsz := te_size hT hte
 obtain ⟨z, i, hi, hz, his, hib, _, hzc⟩ := ty_zero hT hte hptr
 have hb : (i.bytes : Int) * c ≤ 281474976710656 := by
  have hcc : c = (c.toNat : Int) := by omega
  rw [hib, hcc]
  have : ((te.bytes * c.toNat : Nat) : Int) ≤ 140737488355328 := by omega
  rw [Int.natCast_mul] at this
  omega
 have hrun := run_make (P := P) w t e i z hu hi hz .i64 .i64 n c h0 h1 hb (by omega)
 refine ⟨_, _, hrun, ?_⟩
 have hzr := cvsAre_rep (w := w) (S := fun _ => True) (g := g) hzc
 have hzl := RepL_length hzr
 rw [zeroC_length, hsz] at hzl
 have hpos : 0 < te.size := by
  obtain ⟨_, _, _, _, _, _, h5, _⟩ := ty_info hT hte
  exact h5.1.1
 have hzs : z.cells.size = te.size := by simpa using hzl.symm
 have := rel_row (ids := []) (r := te.ct) (xs := List.replicate n.toNat (dflt te.ct)) (rows := List.replicate n.toNat (zeroT te.ct)) (v := .slice (some ⟨w.heap.size, 0, none⟩) n.toNat c.toNat) (w' := w.alloc (.cells (madeCells z.cells (c.toNat * i.size)) e))
  hR hn (by simp) ?_ ?_ ?_ ?_ ?_ rfl rfl rfl d
 ·exact this
 ·refine ⟨_, _, rfl, by simp, .inr ⟨w.heap.size, c.toNat, _, e, by simp, by simp; omega, by unfold maxLen; omega, heap_new w _, by rw [size_madeCells, his, hsz], by simp, fun k hk hk' => ?_⟩⟩
  rw [List.getElem_replicate, List.getElem_replicate]
  have hkn : k < n.toNat := by simpa using hk
  refine zero_own _ hzr (fun q hq => ?_)
  have hq' : q < te.size := by rw [hzl]; exact hq
  rw [made_get _ _ (by omega) _ (by rw [his, hsz]; exact row_lt (show k < c.toNat by omega) hq'), hzs, hsz, mod_row hq']
  simp
 ·intro b hb'
  left
  have : GT.blocksL (List.replicate n.toNat (zeroT te.ct)) = [] := by
   generalize n.toNat = q
   induction q with
   | zero => rfl
   | succ q ih => rw [List.replicate_succ, GT.blocksL, zeroT_blocks, ih]; rfl
  simp only [GT.blocks, blockOf, this, List.append_nil, List.mem_singleton] at hb'
  subst hb'
  exact ⟨Nat.le_refl _, by show _ < (w.heap.push _).size; simp⟩
 ·have : GT.blocksL (List.replicate n.toNat (zeroT te.ct)) = [] := by
   generalize n.toNat = q
   induction q with
   | zero => rfl
   | succ q ih => rw [List.replicate_succ, GT.blocksL, zeroT_blocks, ih]; rfl
  simp [GT.blocks, blockOf, this]
 ·exact fun b hb' _ => heap_old w _ hb'
 ·show _ ≤ (w.heap.push _).size; simp
end
end Go.Proofs.YtgcioclfplafkaaGreatV
end
section
namespace Go.Proofs.YtgcioclfplafkaaGreatV
open Go Go.RowKit
theorem FzC_size {w : World} {S : Nat → Prop} : ∀ {c : CT} {cs : Array Value} {o : Nat} {x : El c}, FzC w S c cs o x → ∀ k, k < c.size → ∃ u, cs[o + k]? = some u ∧ u.oneCell' = true
 | .int _, _, _, _, h, k, hk => by
  have : k = 0 := by simp [CT.size] at hk; exact hk
  subst this; exact ⟨_, h, rfl⟩
 | .bool, _, _, _, h, k, hk => by
  have : k = 0 := by simp [CT.size] at hk; exact hk
  subst this; exact ⟨_, h, rfl⟩
 | .str, _, _, _, h, k, hk => by
  have : k = 0 := by simp [CT.size] at hk; exact hk
  subst this; exact ⟨_, h, rfl⟩
 | .sl _, _, _, _, ⟨a, cap, h, _⟩, k, hk => by
  have : k = 0 := by simp [CT.size] at hk; exact hk
  subst this; exact ⟨_, h, rfl⟩
 | .pair a b, _, o, _, h, k, hk => by
  by_cases hka : k < a.size
  ·exact FzC_size h.1 k hka
  ·have := FzC_size h.2 (k - a.size) (by simp [CT.size] at hk; omega)
   rwa [show o + a.size + (k - a.size) = o + k by omega] at this
theorem fz_cells {w : World} {S : Nat → Prop} {r : CT} {xs : List (El r)} {u : Value} (h : FzC w S (.sl r) #[u] 0 xs) (hne : xs ≠ []) :
  ∃ b off cap cells ty fr, u = .slice (some ⟨b, off, none⟩) xs.length cap ∧ w.heap[b]? = some (.cells cells ty fr) ∧ S b ∧ (∀ i (h : i < xs.length), FzC w S r cells (off + i * r.size) xs[i]) ∧
   ∀ j, j < xs.length * r.size → ∃ v, cells[off + j]? = some v ∧ v.oneCell' = true := by
 obtain ⟨a, cap, hv, hc, hr⟩ := h
 simp only [List.getElem?_toArray, List.getElem?_cons_zero, Option.some.injEq] at hv
 obtain ⟨b, off, cells, ty, fr, ha, hS, hh, hx⟩ := hr hne
 subst ha
 refine ⟨b, off, cap, cells, ty, fr, hv, hh, hS, hx, fun j hj => ?_⟩
 have hpos : 0 < r.size := by
  rcases Nat.eq_zero_or_pos r.size with h | h
  ·rw [h] at hj; simp at hj
  ·exact h
 have hq : j / r.size < xs.length := Nat.div_lt_of_lt_mul (by rw [Nat.mul_comm]; exact hj)
 have := FzC_size (hx (j / r.size) hq) (j % r.size) (Nat.mod_lt _ hpos)
 rwa [Nat.add_assoc, Nat.mul_comm, Nat.div_add_mod] at this
section
variable {P : Program} {T : Tab} {W : List Gh} {w0 w : World} {g : List Gh} {st : St} {a : Act}
theorem append_none {t e : TypeId} {i : TypeInfo} {ty : TypeId} (hu : P.underlying t = some (.slice e)) (hi : P.info? e = some i) (hx0 : P.underlying t ≠ some (.int .i64)) {base sa : Option Addr} {n cap sc : Nat} (hc : n ≤ cap) :
  (Builtin.append_ #[t, t] ty #[.slice base n cap, .slice sa 0 sc]).run P w = .ok (.slice base n cap) w := by
 have hf : (Builtin.firstCells i.size 0 (.slice sa 0 sc)).run P w = .ok #[] w := by
  cases sa with
  | none => rfl
  | some ad => simp [Builtin.firstCells, loadCells, loadCellsFrom]
 cases base with
 | none => simp [Builtin.append_, run_underlying hu, sizeOf, typeInfo, hi, Builtin.lenOf, hc, hf]
 | some b => simp [Builtin.append_, run_underlying hu, sizeOf, typeInfo, hi, Builtin.lenOf, hc, hf, storeCells]
theorem append_room {t e : TypeId} {i : TypeInfo} {ty ety : TypeId} (ht : P.underlying t = some (.slice e)) (hi : P.info? e = some i)
  {b sLen sCap : Nat} {cur : Array Value} (hg : w.heap[b]? = some (.cells cur ety (0, 0))) {ad : Addr} {m c : Nat} {news : List Value} (hl : news.length = m * i.size) (hnews : ∀ j u, news[j]? = some u → w.cell? (ad.add j) = some u) (h1 : ∀ u ∈ news, u.oneCell' = true)
  (hroom : sLen + m ≤ sCap) (hfit : sLen * i.size + news.length ≤ cur.size) :
  (Builtin.append_ #[t, t] ty #[.slice (some ⟨b, 0, none⟩) sLen sCap, .slice (some ad) m c]).run P w =
   .ok (.slice (some ⟨b, 0, none⟩) (sLen + m) sCap) (w.setRow b (cur.toList.take (sLen * i.size) ++ news ++ cur.toList.drop (sLen * i.size + news.length)).toArray) := by
 have hf := run_firstCells_some (P := P) w i.size m ad m c news hl hnews
 have hst := run_storeCells_at P b (sLen * i.size) ety news 0 cur w hg (by simpa using hfit) h1
 simp only [Nat.add_zero] at hst
 simp [Builtin.append_, run_underlying ht, sizeOf, typeInfo, hi, Builtin.lenOf, hroom, hf, Addr.add_lit, hst]
theorem blocksL_append : ∀ l m : List GT, GT.blocksL (l ++ m) = GT.blocksL l ++ GT.blocksL m
 | [], _ => rfl
 | t :: l, m => by simp [GT.blocksL, blocksL_append l m]
theorem blocksL_nil : ∀ {l : List GT}, (∀ t ∈ l, t.blocks = []) → GT.blocksL l = []
 | [], _ => rfl
 | t :: l, h => by simp [GT.blocksL, h t (by simp), blocksL_nil (l := l) (fun t' ht => h t' (List.mem_cons_of_mem _ ht))]
theorem setOb_gone : ∀ (ids : List Nat) (objs : List Ob) (nid : Nat) (o : Ob), setOb objs ((ids.map fun i => (i, Md.ob .gone)) ++ [(nid, .ob o)]) = (goneO objs ids).set nid o
 | [], _, _, _ => rfl
 | i :: l, objs, nid, o => by simp only [List.map_cons, List.cons_append, setOb, goneO]; exact setOb_gone l _ nid o
theorem src_ok (hR : RelG W w0 g st a w) {x : CV} {ux : Value} {r : CT} {ys : List (El r)} (hx : RepC w (Stable w g) g x ux) (hf : freezeC st.objs x = some (.fz r ys)) {m : List (Nat × Md)}
  (hsrc : (if r.flat then some [] else (match x with | .ref j => some [(j, Md.ob .gone)] | .nilS _ => some [] | _ => none)) = some m) :
  ∃ (ids : List Nat) (rows2 : List GT), m = ids.map (fun i => (i, Md.ob .gone)) ∧ (∀ i ∈ ids, ∃ t, g[i]? = some (.row t)) ∧ rows2.length = ys.length ∧ (∀ b ∈ GT.blocksL rows2, ∃ i ∈ ids, ∃ y, g[i]? = some y ∧ b ∈ y.blocks) ∧ (GT.blocksL rows2).Nodup ∧
   ∀ bb off cap cells ty fr, ux = .slice (some ⟨bb, off, none⟩) ys.length cap → w.heap[bb]? = some (.cells cells ty fr) → (∀ i (h : i < ys.length), FzC w (fun _ => True) r cells (off + i * r.size) ys[i]) →
    ∀ i (hi : i < ys.length) (hi' : i < rows2.length) (cs' : Array Value) (o' : Nat), (∀ k, k < r.size → cs'[o' + k]? = cells[off + i * r.size + k]?) → OwnC w r cs' o' ys[i] rows2[i] := by
 split at hsrc
 ·rename_i hfl
  injection hsrc with hsrc
  subst hsrc
  have hb : GT.blocksL (List.replicate ys.length (leafT r)) = [] := blocksL_nil (fun t ht => by rw [List.eq_of_mem_replicate ht]; exact leafT_blocks r)
  refine ⟨[], List.replicate ys.length (leafT r), rfl, by simp, by simp, by rw [hb]; simp, by rw [hb]; exact List.nodup_nil, fun bb off cap cells ty fr _ _ hz i hi hi' cs' o' hk => ?_⟩
  rw [List.getElem_replicate]
  exact flat_own hfl (hz i hi) hk w
 ·split at hsrc
  ·rename_i j
   injection hsrc with hsrc
   subst hsrc
   simp only [freezeC] at hf
   cases hob : Ob.at st.objs j <;> rw [hob] at hf <;> simp only [reduceCtorEq, Option.some.injEq] at hf
   rename_i r' xs'
   injection hf with h1 h2
   subst h1
   have h2 := eq_of_heq h2
   subst h2
   obtain ⟨v, rows, h3, h4⟩ := row_at hR.ob hob
   simp only [RepC, h3] at hx
   subst hx
   have hnd := nodup_of hR.nd h3
   simp only [Gh.blocks, GT.blocks] at hnd
   refine ⟨[j], rows, rfl, by simpa using ⟨_, h3⟩, (OwnC_header h4).2.2, fun b hb => ⟨j, by simp, _, h3, by simp [Gh.blocks, GT.blocks, hb]⟩, (List.nodup_append.1 hnd).2.1, fun bb off cap cells ty fr hux hh _ i hi hi' cs' o' hk => ?_⟩
   obtain ⟨b, cap', cells', ty', hv, hh', _, ho⟩ := OwnC_row h4 (List.getElem?_eq_getElem hi')
   rw [hux] at hv
   injection hv with hv
   injection hv with hv
   injection hv with e1 e2
   subst e1; subst e2
   rw [hh] at hh'
   injection hh' with hh'
   injection hh' with e3
   subst e3
   rw [List.getD_eq_getElem?_getD, List.getElem?_eq_getElem hi, Option.getD_some] at ho
   exact OwnC_congr (fun k hk' => by rw [hk k hk', Nat.zero_add]) ho
  ·rename_i r'
   injection hsrc with hsrc
   subst hsrc
   simp only [freezeC, Option.some.injEq] at hf
   injection hf with h1 h2
   subst h1
   have h2 := eq_of_heq h2
   subst h2
   exact ⟨[], [], rfl, by simp, rfl, by simp [GT.blocksL], List.nodup_nil, fun _ _ _ _ _ _ _ _ _ i hi => by simp at hi⟩
  ·cases hsrc
theorem take_get {l : List Value} {n k : Nat} (h : k < n) : (l.take n)[k]? = l[k]? := List.getElem?_take_of_lt h
theorem appended {w w' : World} {r : CT} {xs ys : List (El r)} {rows rows2 : List GT} {b cap : Nat} {cells C C2 : Array Value} {ty : TypeId} {off : Nat} (hl1 : rows.length = xs.length) (hl2 : rows2.length = ys.length)
  (hcap : xs.length + ys.length ≤ cap) (hm : cap ≤ maxLen) (hh : w'.heap[b]? = some (.cells cells ty (0, 0))) (hs : cells.size = cap * r.size)
  (hold : ∀ k, k < xs.length * r.size → cells[k]? = C[k]?) (hnew : ∀ k, k < ys.length * r.size → cells[xs.length * r.size + k]? = C2[off + k]?)
  (h1 : ∀ i (hi : i < xs.length) (hi' : i < rows.length), OwnC w r C (i * r.size) xs[i] rows[i])
  (h2 : ∀ i (hi : i < ys.length) (hi' : i < rows2.length) (cs' : Array Value) (o' : Nat), (∀ k, k < r.size → cs'[o' + k]? = C2[off + i * r.size + k]?) → OwnC w r cs' o' ys[i] rows2[i])
  (hfr : ∀ c, c ∈ GT.blocksL (rows ++ rows2) → w'.heap[c]? = w.heap[c]?) :
  OwnC w' (.sl r) #[.slice (some ⟨b, 0, none⟩) (xs.length + ys.length) cap] 0 (xs ++ ys) (.sl r.size (.slice (some ⟨b, 0, none⟩) (xs.length + ys.length) cap) (rows ++ rows2)) := by
 refine ⟨_, _, rfl, by simp, .inr ⟨b, cap, cells, ty, by rw [List.length_append], by rw [List.length_append]; exact hcap, hm, hh, hs, by simp [hl1, hl2], fun i hi hi' => ?_⟩⟩
 refine OwnC_frame (fun c hc => hfr c (blocksL_mem (List.getElem_mem hi') hc)) ?_
 by_cases hix : i < xs.length
 ·rw [List.getElem_append_left hix, List.getElem_append_left (by omega)]
  exact OwnC_congr (fun k hk => hold _ (row_lt hix hk)) (h1 i hix (by omega))
 ·have hi2 : i - xs.length < ys.length := by rw [List.length_append] at hi; omega
  rw [List.getElem_append_right (by omega), List.getElem_append_right (by omega)]
  have e : i - rows.length = i - xs.length := by omega
  simp only [e]
  refine h2 (i - xs.length) hi2 (by omega) cells (i * r.size) (fun k hk => ?_)
  have := hnew ((i - xs.length) * r.size + k) (row_lt hi2 hk)
  rw [← Nat.add_assoc, ← Nat.add_mul, show xs.length + (i - xs.length) = i by omega] at this
  rw [this, Nat.add_assoc]
theorem made_row {ids : List Nat} {nid : Nat} {r : CT} {xs : List (El r)} {d : Option Nat} {v : TV} : st.upd d v ((ids.map fun i => (i, Md.ob .gone)) ++ [(nid, .ob (.row r xs))]) = ({ tmps := st.tmps, objs := (goneO st.objs ids).set nid (.row r xs) } : St).put d v := by
 unfold St.upd
 rw [setOb_gone]
theorem grown_get (o n : List Value) (z : Array Value) (k : Nat) : (k < o.length → (o.toArray ++ n.toArray ++ z)[k]? = o[k]?) ∧ (∀ j, j < n.length → (o.toArray ++ n.toArray ++ z)[o.length + j]? = n[j]?) := by
 constructor
 ·intro h
  rw [Array.getElem?_append_left (by simp; omega), Array.getElem?_append_left (by simpa using h)]
  simp
 ·intro j hj
  rw [Array.getElem?_append_left (by simp; omega), Array.getElem?_append_right (by simp)]
  simp
theorem append_core (hT : TabOK P T) (hR : RelG W w0 g st a w) {nid : Nat} (hn : g[nid]? = some .unborn) {t ty : Nat} {te : TI} (he : elemTy T t = some te) {us ux : Value} {xs ys : List (El te.ct)} {ids0 ids1 : List Nat} {rows rows2 : List GT}
  (hbytes : (xs.length + ys.length) * te.bytes ≤ 140737488355328)
  (hold : (xs = [] ∧ us = .slice none 0 0 ∧ ids0 = [] ∧ rows = []) ∨ ∃ id, ids0 = [id] ∧ g[id]? = some (.row (.sl te.ct.size us rows)) ∧ OwnC w (.sl te.ct) #[us] 0 xs (.sl te.ct.size us rows))
  (hux : FzC w (fun _ => True) (.sl te.ct) #[ux] 0 ys) (hi1 : ∀ i ∈ ids1, ∃ t, g[i]? = some (.row t)) (hdis : ∀ i ∈ ids0, i ∉ ids1) (hl2 : rows2.length = ys.length) (hb2 : ∀ b ∈ GT.blocksL rows2, ∃ i ∈ ids1, ∃ y, g[i]? = some y ∧ b ∈ y.blocks) (hnd2 : (GT.blocksL rows2).Nodup)
  (h2 : ∀ bb off cap cells ty fr, ux = .slice (some ⟨bb, off, none⟩) ys.length cap → w.heap[bb]? = some (.cells cells ty fr) → (∀ i (h : i < ys.length), FzC w (fun _ => True) te.ct cells (off + i * te.ct.size) ys[i]) →
    ∀ i (hi : i < ys.length) (hi' : i < rows2.length) (cs' : Array Value) (o' : Nat), (∀ k, k < te.ct.size → cs'[o' + k]? = cells[off + i * te.ct.size + k]?) → OwnC w te.ct cs' o' ys[i] rows2[i]) (d : Option Nat) :
  ∃ u w', (Builtin.append_ #[t, t] ty #[us, ux]).run P w = .ok u w' ∧
   ∃ g', RelG W w0 g' (({ tmps := st.tmps, objs := (goneO st.objs (ids0 ++ ids1)).set nid (.row te.ct (xs ++ ys)) } : St).put d (.c (.ref nid))) (a.put d u) w' := by
 obtain ⟨e, hu, hte, hptr, _⟩ := ty_elem hT he
 have hsz := te_size hT hte
 obtain ⟨z, i, hi, hz, his, hib, _, hzc⟩ := ty_zero hT hte hptr
 have hids : ∀ i ∈ ids0 ++ ids1, ∃ t, g[i]? = some (.row t) := by
  intro j hj
  rcases List.mem_append.1 hj with hj | hj
  ·rcases hold with ⟨_, _, h0, _⟩ | ⟨id, h0, h3, _⟩
   ·subst h0; simp at hj
   ·subst h0; simp only [List.mem_singleton] at hj; subst hj; exact ⟨_, h3⟩
  ·exact hi1 j hj
 have hpos : 0 < te.bytes ∨ te.bytes = 0 := by omega
 have hb1 : ∀ b ∈ GT.blocksL rows, ∃ i ∈ ids0, ∃ y, g[i]? = some y ∧ b ∈ y.blocks := by
  intro b hb
  rcases hold with ⟨_, _, _, h0⟩ | ⟨id, h0, h3, _⟩
  ·subst h0; simp [GT.blocksL] at hb
  ·exact ⟨id, by simp [h0], _, h3, by simp [Gh.blocks, GT.blocks, hb]⟩
 have hnd1 : (GT.blocksL rows).Nodup := by
  rcases hold with ⟨_, _, _, h0⟩ | ⟨id, h0, h3, _⟩
  ·subst h0; exact List.nodup_nil
  ·have := nodup_of hR.nd h3
   simp only [Gh.blocks, GT.blocks] at this
   exact (List.nodup_append.1 this).2.1
 have hrows : (GT.blocksL (rows ++ rows2)).Nodup := by
  rw [blocksL_append, List.nodup_append]
  refine ⟨hnd1, hnd2, fun p hp q hq e => ?_⟩
  subst e
  obtain ⟨i1, h5, y1, h6, h7⟩ := hb1 p hp
  obtain ⟨i2, h8, y2, h9, h10⟩ := hb2 p hq
  exact nodup_apart (i := i1) (j := i2) hR.nd (fun e => hdis i1 h5 (by rw [e]; exact h8)) h6 h9 p h7 h10
 have hblk : ∀ b ∈ GT.blocksL (rows ++ rows2), ∃ i ∈ ids0 ++ ids1, ∃ x, g[i]? = some x ∧ b ∈ x.blocks := by
  intro b hb
  rw [blocksL_append, List.mem_append] at hb
  rcases hb with hb | hb
  ·obtain ⟨j, h5, y, h6, h7⟩ := hb1 b hb; exact ⟨j, by simp [h5], y, h6, h7⟩
  ·obtain ⟨j, h5, y, h6, h7⟩ := hb2 b hb; exact ⟨j, by simp [h5], y, h6, h7⟩
 have hlt : ∀ b ∈ GT.blocksL (rows ++ rows2), b < w.heap.size := fun b hb => by
  obtain ⟨j, _, y, h6, h7⟩ := hblk b hb
  exact (hR.own b (allB_mem h6 h7)).1
 by_cases hy : ys = []
 ·-- nothing comes behind
  subst hy
  have hr2 : rows2 = [] := List.eq_nil_of_length_eq_zero (by simpa using hl2)
  subst hr2
  simp only [List.append_nil] at hblk hrows hlt ⊢
  obtain ⟨sa, sc, hv, _⟩ := hux
  simp only [List.getElem?_toArray, List.getElem?_cons_zero, Option.some.injEq, List.length_nil] at hv
  subst hv
  have hnx : P.underlying t ≠ some (.int .i64) := by rw [hu]; simp
  have huns : ∃ base n cap, us = .slice base n cap ∧ n ≤ cap := by
   rcases hold with ⟨_, h0, _⟩ | ⟨id, _, _, v', rows', e', h3, h4⟩
   ·exact ⟨none, 0, 0, h0, Nat.le_refl _⟩
   ·injection e' with _ e2 _
    subst e2
    rcases h4 with ⟨_, h4, _⟩ | ⟨b, cap, _, _, h4, h5, _⟩
    ·exact ⟨none, 0, 0, h4, Nat.le_refl _⟩
    ·exact ⟨_, _, _, h4, h5⟩
  obtain ⟨base, n, cap, rfl, hnc⟩ := huns
  refine ⟨_, w, append_none hu hi hnx hnc, _, rel_row hR hn hids (v := .slice base n cap) (rows := rows) ?_ ?_ ?_ (fun _ _ _ => rfl) (Nat.le_refl _) rfl rfl rfl d⟩
  ·rcases hold with ⟨h0, h1, _, h3⟩ | ⟨id, _, _, h3⟩
   ·subst h0; subst h3
    exact ⟨_, [], rfl, by simp, .inl ⟨rfl, h1, rfl⟩⟩
   ·exact h3
  ·intro b hb
   right
   rcases hold with ⟨h0, h1, _, h3⟩ | ⟨id, h0, h3, _⟩
   ·subst h3
    rw [h1] at hb
    simp [GT.blocks, blockOf, GT.blocksL] at hb
   ·exact ⟨id, by simp [h0], _, h3, hb⟩
  ·rcases hold with ⟨h0, h1, _, h3⟩ | ⟨id, h0, h3, _⟩
   ·subst h3; rw [h1]; simp [GT.blocks, blockOf, GT.blocksL]
   ·exact nodup_of hR.nd h3
 ·obtain ⟨bb, off, xcap, xcells, xty, xfr, hxv, hxh, _, hxr, hxc⟩ := fz_cells hux hy
  have h2' := h2 bb off xcap xcells xty xfr hxv hxh hxr
  subst hxv
  have hm0 : 0 < ys.length := List.length_pos_iff.2 hy
  have hfit0 : off + ys.length * te.ct.size ≤ xcells.size := by
   rcases Nat.eq_zero_or_pos te.ct.size with h0 | h0
   ·have := ty_info hT hte
    obtain ⟨_, _, _, _, _, _, h5, _⟩ := this
    omega
   ·have hlast := hxc (ys.length * te.ct.size - 1) (by have := Nat.mul_pos hm0 h0; omega)
    obtain ⟨v, hv, _⟩ := hlast
    have := (Array.getElem?_eq_some_iff.1 hv).1
    have := Nat.mul_pos hm0 h0
    omega
  let news := (xcells.toList.drop off).take (ys.length * te.ct.size)
  have hnl0 : news.length = ys.length * te.ct.size := by simp only [news, List.length_take, List.length_drop, Array.length_toList]; omega
  have hnl : news.length = ys.length * i.size := by rw [hnl0, his, hsz]
  have hng : ∀ j, j < ys.length * te.ct.size → news[j]? = xcells[off + j]? := by
   intro j hj
   simp only [news]
   rw [take_get hj, List.getElem?_drop]; simp
  have hnews : ∀ j u, news[j]? = some u → w.cell? ((⟨bb, off, none⟩ : Addr).add j) = some u := by
   intro j u hj
   have hjl : j < ys.length * te.ct.size := by
    have := (List.getElem?_eq_some_iff.1 hj).1
    rw [hnl, his, ← hsz] at this; exact this
   rw [hng j hjl] at hj
   rw [add_mul]
   simp [World.cell?, hxh, hj]
  have hone : ∀ u ∈ news, u.oneCell' = true := by
   intro u hu'
   obtain ⟨j, hj⟩ := List.getElem?_of_mem hu'
   have hjl : j < ys.length * te.ct.size := by
    have := (List.getElem?_eq_some_iff.1 hj).1
    rw [hnl, his, ← hsz] at this; exact this
   rw [hng j hjl] at hj
   obtain ⟨v, hv, hv1⟩ := hxc j hjl
   rw [hj] at hv; injection hv with hv; subst hv; exact hv1
  have hbpos : 0 < te.bytes := by
   obtain ⟨_, _, _, _, _, _, h5, _⟩ := ty_info hT hte
   exact h5.1.2
  have hsum : xs.length + ys.length ≤ 140737488355328 := by
   have := Nat.mul_le_mul_left (xs.length + ys.length) hbpos
   omega
  have fresh : ∀ (O : List Value) (cap' : Nat), O.length = xs.length * te.ct.size → xs.length + ys.length ≤ cap' → cap' ≤ maxLen → rows.length = xs.length →
    (∀ j (hj : j < xs.length) (hj' : j < rows.length), OwnC w te.ct O.toArray (j * te.ct.size) xs[j] rows[j]) →
    ∃ g', RelG W w0 g' (({ tmps := st.tmps, objs := (goneO st.objs (ids0 ++ ids1)).set nid (.row te.ct (xs ++ ys)) } : St).put d (.c (.ref nid))) (a.put d (.slice (some ⟨w.heap.size, 0, none⟩) (xs.length + ys.length) cap'))
     (w.drew.alloc (.cells (O.toArray ++ news.toArray ++ Builtin.zeroCells z.cells (cap' - (xs.length + ys.length))) e)) := by
   intro O cap' hO hc1 hc2 hrl hOr
   have hgg := grown_get O news (Builtin.zeroCells z.cells (cap' - (xs.length + ys.length)))
   have hzs : z.cells.size = te.ct.size := by
    have := RepL_length (cvsAre_rep (w := w) (S := fun _ => True) (g := g) hzc)
    rw [zeroC_length] at this
    simpa using this.symm
   have hsize : (O.toArray ++ news.toArray ++ Builtin.zeroCells z.cells (cap' - (xs.length + ys.length))).size = cap' * te.ct.size := by
    simp only [Array.size_append, List.size_toArray, size_zeroCells, hzs, hO, hnl0, ← Nat.add_mul]
    congr 1; omega
   refine ⟨_, rel_row hR hn hids (rows := rows ++ rows2) (appended (w := w) hrl hl2 hc1 hc2 (heap_new w.drew _) hsize (C := O.toArray) (C2 := xcells) (off := off) (fun k hk => ?_) (fun k hk => ?_) hOr h2' (fun c hc => heap_old w.drew _ (hlt c hc))) ?_ ?_ (fun b hb _ => heap_old w.drew _ hb) ?_ rfl rfl rfl d⟩
   ·rw [(hgg k).1 (by rw [hO]; exact hk)]; simp
   ·have := (hgg 0).2 k (by rw [hnl0]; exact hk)
    rw [hO] at this
    rw [this, hng k hk]
   ·intro b hb
    simp only [GT.blocks, blockOf, List.singleton_append, List.mem_cons] at hb
    rcases hb with hb | hb
    ·left; subst hb; exact ⟨Nat.le_refl _, by show _ < (w.heap.push _).size; simp⟩
    ·exact .inr (hblk b hb)
   ·simp only [GT.blocks, blockOf, List.singleton_append, List.nodup_cons]
    exact ⟨fun h => Nat.lt_irrefl _ (hlt _ h), hrows⟩
   ·show _ ≤ (w.heap.push _).size; simp
  have nilcase : xs = [] → us = .slice none 0 0 → rows = [] → ∃ u w', (Builtin.append_ #[t, t] ty #[us, .slice (some ⟨bb, off, none⟩) ys.length xcap]).run P w = .ok u w' ∧
   ∃ g', RelG W w0 g' (({ tmps := st.tmps, objs := (goneO st.objs (ids0 ++ ids1)).set nid (.row te.ct (xs ++ ys)) } : St).put d (.c (.ref nid))) (a.put d u) w' := by
   intro h0 h1 h3
   subst h0; subst h1; subst h3
   simp only [List.length_nil, Nat.zero_add] at hsum hbytes
   have hr := run_append_nil (P := P) w t ty e i z hu hi hz ⟨bb, off, none⟩ ys.length xcap news hnl hnews hm0 (by omega) (by rw [hib]; omega)
   have hge := grownCap_ge w ys.length 0 e
   have hcm := grownCap_le_maxLen w ys.length 0 e (by unfold maxLen; omega)
   obtain ⟨g', hg'⟩ := fresh [] (grownCap w ys.length 0 e) (by simp) (by simpa using hge) hcm rfl (fun j hj => by simp at hj)
   refine ⟨_, _, hr, g', ?_⟩
   simpa using hg'
  rcases hold with ⟨h0, h1, _, h3⟩ | ⟨id, hid, hgi, hown⟩
  ·exact nilcase h0 h1 h3
  ·have hown0 := hown
   obtain ⟨v', rows', e', h3, h4⟩ := hown
   injection e' with _ e2 e3
   subst e2; subst e3
   rcases h4 with ⟨h5, h6, h7⟩ | ⟨b, cap, cells, cty, hv', hc, hm, hh, hs, hrl, hr⟩
   ·exact nilcase h5 h6 h7
   ·subst hv'
    by_cases hroom : xs.length + ys.length ≤ cap
    ·-- in place
     have hfit : xs.length * i.size + news.length ≤ cells.size := by rw [hnl, hs, his, ← hsz, ← Nat.add_mul]; exact Nat.mul_le_mul_right _ hroom
     have hrun := append_room (P := P) (w := w) (ty := ty) hu hi hh hnl hnews hone hroom hfit (c := xcap)
     have hsg := fun k => splice_get cells.toList (xs.length * i.size) news k (by simpa using hfit)
     have hnd := nodup_of hR.nd hgi
     simp only [Gh.blocks, GT.blocks, blockOf, List.singleton_append, List.nodup_cons] at hnd
     have hbout : b ∉ GT.blocksL (rows ++ rows2) := by
      rw [blocksL_append, List.mem_append, not_or]
      refine ⟨hnd.1, fun hb => ?_⟩
      obtain ⟨i2, h8, y2, h9, h10⟩ := hb2 b hb
      exact nodup_apart (i := id) (j := i2) hR.nd (fun e => hdis id (by simp [hid]) (by rw [e]; exact h8)) hgi h9 b (by simp [Gh.blocks, GT.blocks, blockOf]) h10
     refine ⟨_, _, hrun, _, rel_row hR hn hids (rows := rows ++ rows2) (appended (w := w) hrl hl2 hroom hm (setRow_heap w b cells _ cty _ hh) ?_ (C := cells) (C2 := xcells) (off := off) (fun k hk => ?_) (fun k hk => ?_) hr h2' (fun c hc => setRow_other w b c _ (fun e => hbout (e ▸ hc)))) ?_ ?_ (fun c hc hn' => setRow_other w b c _ (fun e => hn' id (by simp [hid]) _ hgi (by rw [e]; simp [Gh.blocks, GT.blocks, blockOf]))) (by simp) rfl rfl rfl d⟩
     ·simp only [List.size_toArray, List.length_append, List.length_take, List.length_drop, Array.length_toList]
      omega
     ·rw [hsg, if_pos (by rw [his, ← hsz]; exact hk)]; simp
     ·rw [hsg, if_neg (by rw [his, ← hsz]; omega), if_pos (by rw [hnl0, his, ← hsz]; omega), his, ← hsz, Nat.add_sub_cancel_left, hng k hk]
     ·intro c hc
      simp only [GT.blocks, blockOf, List.singleton_append, List.mem_cons] at hc
      right
      rcases hc with hc | hc
      ·exact ⟨id, by simp [hid], _, hgi, by rw [hc]; simp [Gh.blocks, GT.blocks, blockOf]⟩
      ·exact hblk c hc
     ·simp only [GT.blocks, blockOf, List.singleton_append, List.nodup_cons]
      exact ⟨hbout, hrows⟩
    ·-- a new block
     have hfitO : xs.length * te.ct.size ≤ cells.size := by rw [hs]; exact Nat.mul_le_mul_right _ hc
     have hO : (cells.toList.take (xs.length * te.ct.size)).length = xs.length * te.ct.size := by simp; omega
     have holds : ∀ j v, (cells.toList.take (xs.length * te.ct.size))[j]? = some v → w.cell? ((⟨b, 0, none⟩ : Addr).add j) = some v := by
      intro j v hj
      have hjl := (List.getElem?_eq_some_iff.1 hj).1
      rw [hO] at hjl
      rw [take_get hjl] at hj
      rw [add_mul, Nat.zero_add]
      simpa [World.cell?, hh] using hj
     have hrun := run_append_grow (P := P) w t ty e i z hu hi hz ⟨b, 0, none⟩ xs.length cap (cells.toList.take (xs.length * te.ct.size)) (by rw [hO, his, hsz]) holds ⟨bb, off, none⟩ ys.length xcap news hnl hnews (by omega) (by omega) (by rw [hib]; exact growslice_fits (by omega) hbytes)
     have hge := grownCap_ge w (xs.length + ys.length) cap e
     have hcm := grownCap_le_maxLen w (xs.length + ys.length) cap e (by unfold maxLen; omega)
     obtain ⟨g', hg'⟩ := fresh (cells.toList.take (xs.length * te.ct.size)) (grownCap w (xs.length + ys.length) cap e) hO hge hcm hrl (fun j hj hj' => OwnC_congr (fun k hk => by
      have := row_lt hj hk
      simp only [List.getElem?_toArray]
      rw [take_get this]; simp) (hr j hj hj'))
     exact ⟨_, _, hrun, g', hg'⟩
end
end Go.Proofs.YtgcioclfplafkaaGreatV
end
section
namespace Go.Proofs.YtgcioclfplafkaaGreatV
open Go Go.RowKit
section
variable {P : Program} {T : Tab} {W : List Gh} {w0 w : World} {g : List Gh} {st : St} {a : Act}
def blksOf (g : List Gh) (ids : List Nat) : List Nat := ids.flatMap fun id => (g.getD id .gone).blocks
theorem blksOf_append (g : List Gh) (a b : List Nat) : blksOf g (a ++ b) = blksOf g a ++ blksOf g b := by simp [blksOf]
theorem nodupB_iff : ∀ {l : List Nat}, nodupB l = true → l.Nodup
 | [], _ => List.nodup_nil
 | x :: l, h => by
  simp only [nodupB, Bool.and_eq_true, Bool.not_eq_true', List.contains_eq_mem, decide_eq_false_iff_not] at h
  exact List.nodup_cons.2 ⟨h.1, nodupB_iff h.2⟩
theorem getD_of {g : List Gh} {i : Nat} {x : Gh} (h : g[i]? = some x) : g.getD i .gone = x := by rw [List.getD_eq_getElem?_getD, h, Option.getD_some]
theorem blksOf_nodup (hg : (allB g).Nodup) : ∀ {ids : List Nat}, ids.Nodup → (∀ i ∈ ids, ∃ t, g[i]? = some (.row t)) → (blksOf g ids).Nodup
 | [], _, _ => List.nodup_nil
 | i :: l, h, hi => by
  obtain ⟨t, ht⟩ := hi i (by simp)
  have h2 := List.nodup_cons.1 h
  show ((g.getD i .gone).blocks ++ blksOf g l).Nodup
  rw [getD_of ht, List.nodup_append]
  refine ⟨nodup_of hg ht, blksOf_nodup hg h2.2 (fun j hj => hi j (by simp [hj])), fun p hp q hq e => ?_⟩
  subst e
  obtain ⟨j, hj, hq⟩ := List.mem_flatMap.1 hq
  obtain ⟨t', ht'⟩ := hi j (by simp [hj])
  rw [getD_of ht'] at hq
  exact nodup_apart (i := i) (j := j) hg (fun e => h2.1 (by rw [e]; exact hj)) ht ht' p hp hq
theorem decO_ok (hR : RelG W w0 g st a w) : ∀ {c : CT} {l m : List CV} {us : List Value} {x : El c} {ids : List Nat}, RepL w (Stable w g) g l us → decO st.objs c l = some (x, m, ids) →
  ∃ us1 us2 t, us = us1 ++ us2 ∧ us1.length = c.size ∧ RepL w (Stable w g) g m us2 ∧ (∀ (cs : Array Value) (o : Nat), (∀ k, k < c.size → cs[o + k]? = us1[k]?) → OwnC w c cs o x t) ∧ t.blocks = blksOf g ids ∧ ∀ i ∈ ids, ∃ t', g[i]? = some (.row t')
 | .int k, l, m, us, x, ids, hl, h => by
  cases l with
  | nil => simp [decO] at h
  | cons v l =>
   cases v <;> simp [decO] at h
   obtain ⟨h1, h2, h3, h4⟩ := h
   subst h1; subst h2; subst h3; subst h4
   obtain ⟨u, us', rfl, h5, h6⟩ := RepL_cons_inv hl
   simp only [RepC] at h5; subst h5
   exact ⟨[_], us', .leaf, rfl, rfl, h6, fun cs o hk => ⟨by have := hk 0 (by simp [CT.size]); simpa using this, rfl⟩, rfl, by simp⟩
 | .bool, l, m, us, x, ids, hl, h => by
  cases l with
  | nil => simp [decO] at h
  | cons v l =>
   cases v <;> simp [decO] at h
   obtain ⟨h2, h3, h4⟩ := h
   subst h2; subst h3; subst h4
   obtain ⟨u, us', rfl, h5, h6⟩ := RepL_cons_inv hl
   simp only [RepC] at h5; subst h5
   exact ⟨[_], us', .leaf, rfl, rfl, h6, fun cs o hk => ⟨by have := hk 0 (by simp [CT.size]); simpa using this, rfl⟩, rfl, by simp⟩
 | .str, l, m, us, x, ids, hl, h => by
  cases l with
  | nil => simp [decO] at h
  | cons v l =>
   cases v <;> simp [decO] at h
   obtain ⟨h2, h3, h4⟩ := h
   subst h2; subst h3; subst h4
   obtain ⟨u, us', rfl, h5, h6⟩ := RepL_cons_inv hl
   simp only [RepC] at h5; subst h5
   exact ⟨[_], us', .leaf, rfl, rfl, h6, fun cs o hk => ⟨by have := hk 0 (by simp [CT.size]); simpa using this, rfl⟩, rfl, by simp⟩
 | .sl r, l, m, us, x, ids, hl, h => by
  cases l with
  | nil => simp [decO] at h
  | cons v l =>
   obtain ⟨u, us', rfl, h5, h6⟩ := RepL_cons_inv hl
   cases v <;> simp only [decO, reduceCtorEq, Option.some.injEq, Prod.mk.injEq] at h
   case nilS r' =>
    obtain ⟨h2, h3, h4⟩ := h
    subst h2; subst h3; subst h4
    simp only [RepC] at h5; subst h5
    refine ⟨[_], us', .sl r.size (.slice none 0 0) [], rfl, rfl, h6, fun cs o hk => ⟨_, [], rfl, ?_, .inl ⟨rfl, rfl, rfl⟩⟩, rfl, by simp⟩
    have := hk 0 (by simp [CT.size]); simpa using this
   case ref id =>
    cases hob : Ob.at st.objs id <;> rw [hob] at h <;> simp only [reduceCtorEq] at h
    rename_i r' xs
    cases e : cast? r' r xs with
    | none => rw [e] at h; simp at h
    | some ys =>
     rw [e] at h
     simp only [Option.some.injEq, Prod.mk.injEq] at h
     obtain ⟨h2, h3, h4⟩ := h
     subst h2; subst h3; subst h4
     obtain ⟨e1, e2⟩ := cast_eq e
     subst e1; subst e2
     obtain ⟨v, rows, h7, h8⟩ := row_at hR.ob hob
     simp only [RepC, h7] at h5
     subst h5
     refine ⟨[u], us', .sl r'.size u rows, rfl, rfl, h6, fun cs o hk => ?_, by
      have e9 : blksOf g [id] = (g.getD id .gone).blocks := by simp only [blksOf, List.flatMap_cons, List.flatMap_nil, List.append_nil]
      rw [e9, getD_of h7]; rfl, fun i hi => by simp at hi; subst hi; exact ⟨_, h7⟩⟩
     refine OwnC_congr (o := 0) (fun k hk' => ?_) h8
     have hk0 : k = 0 := by simp [CT.size] at hk'; exact hk'
     subst hk0
     have := hk 0 (by simp [CT.size])
     simpa using this
 | .pair ca cb, l, m, us, x, ids, hl, h => by
  simp only [decO] at h
  cases e1 : decO st.objs ca l with
  | none => rw [e1] at h; simp at h
  | some p =>
   obtain ⟨xa, l1, i1⟩ := p
   rw [e1] at h
   simp only at h
   cases e2 : decO st.objs cb l1 with
   | none => rw [e2] at h; simp at h
   | some q =>
    obtain ⟨xb, l2, i2⟩ := q
    rw [e2] at h
    simp only [Option.some.injEq, Prod.mk.injEq] at h
    obtain ⟨h1, h2, h3⟩ := h
    subst h1; subst h2; subst h3
    obtain ⟨ua, ub, ta, rfl, h4, h5, h6, h7, h8⟩ := decO_ok hR hl e1
    obtain ⟨uc, ud, tb, rfl, h9, h10, h11, h12, h13⟩ := decO_ok hR h5 e2
    refine ⟨ua ++ uc, ud, .pair ca.size ta tb, by simp, by simp [CT.size, h4, h9], h10, fun cs o hk => ⟨ta, tb, rfl, h6 cs o (fun k hk' => ?_), h11 cs (o + ca.size) (fun k hk' => ?_)⟩, by simp [GT.blocks, h7, h12, blksOf_append], fun i hi => ?_⟩
    ·rw [hk k (by simp [CT.size]; omega), List.getElem?_append_left (by omega)]
    ·rw [Nat.add_assoc, hk (ca.size + k) (by simp [CT.size]; omega), List.getElem?_append_right (by omega)]
     congr 1; omega
    ·rcases List.mem_append.1 hi with hi | hi
     ·exact h8 i hi
     ·exact h13 i hi
theorem builtL_ok (hR : RelG W w0 g st a w) {r : CT} : ∀ {k : Nat} {ps : List (Nat × TV)} {vs : List (Nat × Value)} {xs : List (El r)} {ids : List Nat}, ps.length = vs.length → (∀ (i : Nat) (p : Nat × TV) (v : Nat × Value), ps[i]? = some p → vs[i]? = some v → p.1 = v.1 ∧ RepT w (Stable w g) g p.2 v.2) → builtL st.objs r k ps = some (xs, ids) →
  ∃ rows : List GT, rows.length = xs.length ∧ xs.length = ps.length ∧ vs.map (·.1) = (List.range ps.length).map (k + ·) ∧ (∀ v ∈ vs, v.2.cells.size = r.size) ∧ GT.blocksL rows = blksOf g ids ∧ (∀ i ∈ ids, ∃ t', g[i]? = some (.row t')) ∧
   ∀ i (hi : i < xs.length) (hi' : i < rows.length) (hv : i < vs.length) (cs : Array Value) (o : Nat), (∀ q, q < r.size → cs[o + q]? = (vs[i]).2.cells[q]?) → OwnC w r cs o xs[i] rows[i]
 | k, [], vs, xs, ids, hl, _, h => by
  simp only [builtL, Option.some.injEq, Prod.mk.injEq] at h
  obtain ⟨h1, h2⟩ := h
  subst h1; subst h2
  have : vs = [] := List.eq_nil_of_length_eq_zero (by simpa using hl.symm)
  subst this
  exact ⟨[], rfl, rfl, by simp, by simp, rfl, by simp, fun i hi => by simp at hi⟩
 | k, (i0, p0) :: ps, [], xs, ids, hl, _, h => by simp at hl
 | k, (i0, p0) :: ps, (j0, v0) :: vs, xs, ids, hl, hp, h => by
  simp only [builtL] at h
  split at h
  ·rename_i hi0
   subst hi0
   obtain ⟨hj, hv0⟩ := hp 0 (i0, p0) (j0, v0) rfl rfl
   simp only at hj hv0
   subst hj
   cases e1 : cellsOf st.objs p0 with
   | none => rw [e1] at h; simp at h
   | some cvs =>
    rw [e1] at h
    simp only at h
    cases e2 : decO st.objs r cvs with
    | none => rw [e2] at h; simp at h
    | some q =>
     obtain ⟨x, rest, i1⟩ := q
     rw [e2] at h
     cases rest with
     | cons => simp at h
     | nil =>
      simp only at h
      cases e3 : builtL st.objs r (i0 + 1) ps with
      | none => rw [e3] at h; simp at h
      | some q2 =>
       obtain ⟨xs', i2⟩ := q2
       rw [e3] at h
       simp only [Option.some.injEq, Prod.mk.injEq] at h
       obtain ⟨h1, h2⟩ := h
       subst h1; subst h2
       obtain ⟨us, hus, hrep⟩ := cellsOf_ok hR.ob hv0 e1
       obtain ⟨u1, u2, t, h3, h4, h5, h6, h7, h8⟩ := decO_ok hR hrep e2
       have hu2 : u2 = [] := by
        cases u2 with
        | nil => rfl
        | cons => exact h5.elim
       subst hu2
       rw [List.append_nil] at h3
       subst h3
       obtain ⟨rows, h9, h10, h11, h12, h13, h14, h15⟩ := builtL_ok hR (k := i0 + 1) (ps := ps) (vs := vs) (by simpa using hl) (fun i p v h1 h2 => hp (i + 1) p v (by simpa using h1) (by simpa using h2)) e3
       refine ⟨t :: rows, by simp [h9], by simp [h10], ?_, ?_, by simp [GT.blocksL, h7, h13, blksOf_append], fun i hi => ?_, fun i hi hi' hv cs o hq => ?_⟩
       ·rw [List.map_cons, h11, List.length_cons, List.range_succ_eq_map, List.map_cons, List.map_map]
        simp only [Nat.add_zero, List.cons.injEq, true_and]
        apply List.map_congr_left
        intro q _
        simp only [Function.comp_apply]
        omega
       ·intro v hv
        rcases List.mem_cons.1 hv with rfl | hv
        ·simp [hus, h4]
        ·exact h12 v hv
       ·rcases List.mem_append.1 hi with hi | hi
        ·exact h8 i hi
        ·exact h14 i hi
       ·cases i with
        | zero =>
         simp only [List.getElem_cons_zero] at hq ⊢
         refine h6 cs o (fun q hq' => ?_)
         rw [hq q hq', hus]; simp
        | succ i =>
         simp only [List.getElem_cons_succ] at hq ⊢
         exact h15 i (by simpa using hi) (by simpa using hi') (by simpa using hv) cs o hq
  ·cases h
theorem mem_blksOf {ids : List Nat} {b : Nat} (h : b ∈ blksOf g ids) : ∃ i ∈ ids, ∃ x, g[i]? = some x ∧ b ∈ x.blocks := by
 obtain ⟨i, hi, hb⟩ := List.mem_flatMap.1 h
 cases e : g[i]? with
 | none => rw [List.getD_eq_getElem?_getD, e] at hb; simp [Gh.blocks] at hb
 | some x => rw [getD_of e] at hb; exact ⟨i, hi, x, e, hb⟩
theorem flat_len {s : Nat} : ∀ (l : List Value), (∀ v ∈ l, v.cells.size = s) → (l.flatMap fun v => v.cells.toList).length = l.length * s
 | [], _ => by simp
 | v :: l, h => by
  rw [List.flatMap_cons, List.length_append, flat_len l (fun v hv => h v (by simp [hv])), Array.length_toList, h v (by simp), List.length_cons, Nat.add_mul, Nat.one_mul, Nat.add_comm]
theorem rel_built (hT : TabOK P T) (hR : RelG W w0 g st a w) {nid : Nat} (hn : g[nid]? = some .unborn) {t : Nat} {te : TI} (he : elemTy T t = some te) {ps : List (Nat × TV)} {vs : List (Nat × Value)} {xs : List (El te.ct)} {ids : List Nat} {len : Nat}
  (hl : ps.length = vs.length) (hp : ∀ (i : Nat) (p : Nat × TV) (v : Nat × Value), ps[i]? = some p → vs[i]? = some v → p.1 = v.1 ∧ RepT w (Stable w g) g p.2 v.2) (h : builtL st.objs te.ct 0 ps = some (xs, ids)) (hlen : ps.length = len) (hnd : nodupB ids = true) (hsm : len * te.size ≤ 1000) (d : Option Nat) :
  ∃ u w' g', (Instr.buildSlice t len vs.toArray).run P w = .ok u w' ∧ RelG W w0 g' (({ tmps := st.tmps, objs := (goneO st.objs ids).set nid (.row te.ct xs) } : St).put d (.c (.ref nid))) (a.put d u) w' := by
 obtain ⟨e, hu, hte, hptr, _⟩ := ty_elem hT he
 have hsz := te_size hT hte
 obtain ⟨z, i, hi, hz, his, hib, _, hzc⟩ := ty_zero hT hte hptr
 obtain ⟨rows, h1, h2, h3, h4, h5, h6, h7⟩ := builtL_ok hR hl hp h
 have hpos : 0 < te.size := by
  obtain ⟨_, _, _, _, _, _, h5, _⟩ := ty_info hT hte
  exact h5.1.1
 have hvl : vs.length = len := by omega
 have hvs : vs = ((vs.map (·.2)).zipIdx 0).map fun x => (x.2, x.1) := by
  apply List.ext_getElem?
  intro q
  by_cases hq : q < vs.length
  ·have := congrArg (·[q]?) h3
   simp only [List.getElem?_map, List.getElem?_eq_getElem hq, Option.map_some, Nat.zero_add] at this
   rw [List.getElem?_range (by omega)] at this
   simp only [Option.map_some, Option.some.injEq] at this
   simp only [List.getElem?_map, List.getElem?_zipIdx, List.getElem?_eq_getElem hq, Option.map_some, Nat.zero_add]
   exact congrArg some (Prod.ext this rfl)
  ·rw [List.getElem?_eq_none (by omega), List.getElem?_eq_none (by simp; omega)]
 have hcs : ∀ v ∈ vs.map (·.2), v.cells.size = te.size := by
  intro v hv
  obtain ⟨p, hp1, rfl⟩ := List.mem_map.1 hv
  rw [← hsz]; exact h4 p hp1
 have hrun : ∃ cells : Array Value, (Instr.buildSlice t len vs.toArray).run P w = .ok (.slice (some ⟨w.heap.size, 0, none⟩) len len) (w.alloc (.cells cells e)) ∧ cells = ((vs.map (·.2)).flatMap fun v => v.cells.toList).toArray := by
  refine ⟨_, ?_, rfl⟩
  by_cases h0 : len * i.size = 0
  ·have hlen0 : len = 0 := by
    rcases Nat.mul_eq_zero.1 h0 with h | h
    ·exact h
    ·omega
   subst hlen0
   have hv0 : vs = [] := List.eq_nil_of_length_eq_zero hvl
   subst hv0
   simp [Instr.buildSlice, run_underlying hu, sizeOf, typeInfo, hi, Instr.fill, newRow, Array.range_zero']
  ·have hsm' : len * i.size ≤ 1000 := by rw [his]; exact hsm
   refine run_buildSlice w t e len vs.toArray _ i z hu hi hz (by omega) h0 ?_
   have := Go.Great.fill_whole (s := i.size) (by omega) (vs.map (·.2)) (madeCells z.cells (len * i.size)) (fun v hv => by rw [his]; exact hcs v hv) (by rw [size_madeCells]; simp [hvl])
   unfold madeCells at this
   rw [show vs.toArray.toList = ((vs.map (·.2)).zipIdx 0).map fun x => (x.2, x.1) from hvs]
   exact this
 obtain ⟨cells, hrun, hcells⟩ := hrun
 have hcsz : cells.size = len * te.ct.size := by
  subst hcells
  rw [List.size_toArray, flat_len _ hcs, List.length_map, hvl, hsz]
 have hget : ∀ j (hj : j < vs.length) q, q < te.ct.size → cells[j * te.ct.size + q]? = (vs[j]).2.cells[q]? := by
  intro j hj q hq
  subst hcells
  rw [List.getElem?_toArray, Go.Great.flat_get hpos _ hcs, hsz]
  have hq' : q < te.size := by omega
  have e1 : (j * te.size + q) / te.size = j := by rw [Nat.mul_comm, Nat.mul_add_div hpos, Nat.div_eq_of_lt hq', Nat.add_zero]
  rw [e1, mod_row hq', List.getElem?_map, List.getElem?_eq_getElem hj]
  rfl
 have hlt : ∀ b ∈ GT.blocksL rows, b < w.heap.size := fun b hb => by
  rw [h5] at hb
  obtain ⟨j, _, x, h8, h9⟩ := mem_blksOf hb
  exact (hR.own b (allB_mem h8 h9)).1
 refine ⟨_, _, _, hrun, rel_row hR hn h6 (v := .slice (some ⟨w.heap.size, 0, none⟩) len len) (rows := rows) ?_ ?_ ?_ (fun b hb _ => heap_old w _ hb) (by show _ ≤ (w.heap.push _).size; simp) rfl rfl rfl d⟩
 ·refine ⟨_, rows, rfl, by simp, .inr ⟨w.heap.size, len, cells, e, by rw [h2, hlen], by omega, ?_, heap_new w _, hcsz, h1, fun j hj hj' => ?_⟩⟩
  ·have : len ≤ len * te.size := Nat.le_mul_of_pos_right _ hpos
   unfold maxLen; omega
  ·refine OwnC_frame (fun b hb => heap_old w _ (hlt b (blocksL_mem (List.getElem_mem hj') hb))) (h7 j hj hj' (by omega) cells _ (fun q hq => hget j (by omega) q hq))
 ·intro b hb
  simp only [GT.blocks, blockOf, List.singleton_append, List.mem_cons] at hb
  rcases hb with hb | hb
  ·left; subst hb; exact ⟨Nat.le_refl _, by show _ < (w.heap.push _).size; simp⟩
  ·right; rw [h5] at hb; exact mem_blksOf hb
 ·simp only [GT.blocks, blockOf, List.singleton_append, List.nodup_cons]
  exact ⟨fun h => Nat.lt_irrefl _ (hlt _ h), by rw [h5]; exact blksOf_nodup hR.nd (nodupB_iff hnd) h6⟩
end
end Go.Proofs.YtgcioclfplafkaaGreatV
end
section
namespace Go.Proofs.YtgcioclfplafkaaGreatV
open Go Go.RowKit
def GExtN (g g' : List Gh) : Prop := ∀ (i : Nat) (h : Gh), g[i]? = some h → h = .unborn ∨ g'[i]? = some h ∨ g'[i]? = some .gone ∨ ∃ sz v rows rows', h = .row (.sl sz v rows) ∧ g'[i]? = some (.row (.sl sz v rows'))
theorem RepC_N {w w' : World} {S S' : Nat → Prop} {g g' : List Gh} (hS : ∀ b, S b → S' b ∧ w'.heap[b]? = w.heap[b]?) (hg : GExtN g g') {v : CV} {u : Value} (hv : npC v = true) (h : RepC w S g v u) : RepC w' S' g' v u := by
 cases v with
 | fz r xs => exact FzC_mono hS h
 | ref id =>
  simp only [RepC] at h ⊢
  cases hi : g[id]? with
  | none => rw [hi] at h; exact h.elim
  | some x =>
   rw [hi] at h
   rcases hg id x hi with rfl | e | e | ⟨sz, v, rows, rows', rfl, e⟩
   ·exact h.elim
   ·rw [e]; exact h
   ·rw [e]; exact trivial
   ·rw [e]; exact h
 | sub id lo hi' =>
  simp only [RepC] at h ⊢
  cases hi : g[id]? with
  | none => rw [hi] at h; exact h.elim
  | some x =>
   rw [hi] at h
   rcases hg id x hi with rfl | e | e | ⟨sz, v, rows, rows', rfl, e⟩
   ·exact h.elim
   ·rw [e]; exact h
   ·rw [e]; exact trivial
   ·rw [e]; exact h
 | pref id i j => cases hv
 | psub id i j lo hi => cases hv
 | box id off =>
  simp only [RepC] at h ⊢
  cases hi : g[id]? with
  | none => rw [hi] at h; exact h.elim
  | some x =>
   rw [hi] at h
   rcases hg id x hi with rfl | e | e | ⟨sz, v, rows, rows', rfl, e⟩
   ·exact h.elim
   ·rw [e]; exact h
   ·rw [e]; exact trivial
   ·exact h.elim
 | new r xs => exact h
 | _ => exact h
section
variable {w w' : World} {S S' : Nat → Prop} {g g' : List Gh} (hS : ∀ b, S b → S' b ∧ w'.heap[b]? = w.heap[b]?) (hg : GExtN g g')
include hS hg
theorem RepL_N : ∀ {l : List CV} {us : List Value}, l.all npC = true → RepL w S g l us → RepL w' S' g' l us
 | [], [], _, _ => trivial
 | _ :: _, _ :: _, hv, h => by
  simp only [List.all_cons, Bool.and_eq_true] at hv
  exact ⟨RepC_N hS hg hv.1 h.1, RepL_N hv.2 h.2⟩
theorem RepAt_N : ∀ {l : List CV} {cs : Array Value} {o : Nat}, l.all npC = true → RepAt w S g l cs o → RepAt w' S' g' l cs o
 | [], _, _, _, _ => trivial
 | _ :: _, _, _, hv, ⟨⟨u, h1, h2⟩, h3⟩ => by
  simp only [List.all_cons, Bool.and_eq_true] at hv
  exact ⟨⟨u, h1, RepC_N hS hg hv.1 h2⟩, RepAt_N hv.2 h3⟩
theorem RepP_N : ∀ {ps : List (Bool × List CV)} {us : List Value}, (ps.all fun p => p.2.all npC) = true → RepP w S g ps us → RepP w' S' g' ps us
 | [], [], _, _ => trivial
 | (true, _) :: _, _ :: _, hv, ⟨⟨us, e, h1⟩, h2⟩ => by
  simp only [List.all_cons, Bool.and_eq_true] at hv
  exact ⟨⟨us, e, RepL_N hS hg hv.1 h1⟩, RepP_N hv.2 h2⟩
 | (false, _) :: _, _ :: _, hv, ⟨h1, h2⟩ => by
  simp only [List.all_cons, Bool.and_eq_true] at hv
  exact ⟨RepL_N hS hg hv.1 h1, RepP_N hv.2 h2⟩
theorem RepT_N {v : TV} {u : Value} (hv : npT v = true) (h : RepT w S g v u) : RepT w' S' g' v u := by
 cases v with
 | c v => exact RepC_N hS hg hv h
 | agg l => obtain ⟨us, e, h⟩ := h; exact ⟨us, e, RepL_N hS hg hv h⟩
 | tup ps => obtain ⟨us, e, h⟩ := h; exact ⟨us, e, RepP_N hS hg hv h⟩
 | fp l =>
  obtain ⟨b, off, cells, t, fr, e, hb, hh, h⟩ := h
  exact ⟨b, off, cells, t, fr, e, (hS b hb).1, (hS b hb).2.trans hh, RepAt_mono hS (GExt.refl []) h⟩
 | er id i off =>
  simp only [RepT] at h ⊢
  cases hi : g[id]? with
  | none => rw [hi] at h; exact h.elim
  | some x =>
   rw [hi] at h
   rcases hg id x hi with rfl | e | e | ⟨sz, v, rows, rows', rfl, e⟩
   ·exact h.elim
   ·rw [e]; exact h
   ·rw [e]; exact trivial
   ·rw [e]
    cases v <;> try exact h.elim
    rename_i ad n cap
    cases ad <;> try exact h.elim
    rename_i ad
    obtain ⟨b, o, s⟩ := ad
    cases o <;> cases s <;> first | exact h.elim | exact h
 | fn f l => obtain ⟨us, e, h⟩ := h; exact ⟨us, e, RepL_N hS hg hv h⟩
theorem RepTs_N : ∀ {l : List TV} {us : List Value}, l.all npT = true → RepTs w S g l us → RepTs w' S' g' l us
 | [], [], _, _ => trivial
 | _ :: _, _ :: _, hv, h => by
  simp only [List.all_cons, Bool.and_eq_true] at hv
  exact ⟨RepT_N hS hg hv.1 h.1, RepTs_N hv.2 h.2⟩
end
theorem perm4 {a b c d : List Nat} : ((a ++ b) ++ (c ++ d)).Perm ((a ++ c) ++ (b ++ d)) := by
 rw [List.append_assoc, List.append_assoc]
 refine List.Perm.append_left a ?_
 rw [← List.append_assoc, ← List.append_assoc]
 exact List.Perm.append_right d List.perm_append_comm
section
variable {W : List Gh} {w0 w : World} {g : List Gh} {st : St} {a : Act}
theorem RepL_at1 {S : Nat → Prop} : ∀ {l : List CV} {us : List Value} {k : Nat}, RepL w S g l us → k < l.length → ∃ u, us[k]? = some u ∧ RepL w S g [l.getD k .dead] [u]
 | [], _, _, _, hk => by simp at hk
 | _ :: _, [], _, h, _ => h.elim
 | v :: l, u :: us, 0, h, _ => ⟨u, rfl, h.1, trivial⟩
 | v :: l, u :: us, k + 1, h, hk => by
  obtain ⟨u', h1, h2⟩ := RepL_at1 (k := k) h.2 (by simpa using hk)
  exact ⟨u', by simpa using h1, by simpa using h2⟩
def NewT (w : World) (g : List Gh) (c : CT) (cs' : Array Value) (o' : Nat) (y : El c) (t : GT) (ids : List Nat) : Prop :=
 ∃ t', OwnC w c cs' o' y t' ∧ (∃ rest, (t'.blocks ++ rest).Perm (t.blocks ++ blksOf g ids)) ∧ ∀ i ∈ ids, ∃ t', g[i]? = some (.row t')
theorem leafN (hR : RelG W w0 g st a w) {off : Nat} {vs : List CV} {us : List Value} (hv : RepL w (Stable w g) g vs us) {c : CT} (hc : c.size = 1) {cs cs' : Array Value} {o o' j : Nat} {x y : El c} {t : GT} {ids : List Nat} (hold : OwnC w c cs o x t)
  (h : (if off ≤ j ∧ j < off + vs.length then oneN st.objs c (vs.getD (j - off) .dead) else some (x, [])) = some (y, ids))
  (hcs : ∀ k, k < c.size → cs'[o' + k]? = if off ≤ j + k ∧ j + k < off + us.length then us[j + k - off]? else cs[o + k]?) : NewT w g c cs' o' y t ids := by
 have hl := RepL_length hv
 have h0 := hcs 0 (by omega)
 simp only [Nat.add_zero] at h0
 by_cases hin : off ≤ j ∧ j < off + vs.length
 ·rw [if_pos hin] at h
  rw [if_pos (by omega)] at h0
  unfold oneN at h
  obtain ⟨u, hu, hr⟩ := RepL_at1 (k := j - off) hv (by omega)
  split at h
  ·rename_i y' ids' hd
   simp only [Option.some.injEq, Prod.mk.injEq] at h
   obtain ⟨rfl, rfl⟩ := h
   obtain ⟨us1, us2, t', e1, e2, _, h3, h4, h5⟩ := decO_ok hR hr hd
   have e3 : us1 = [u] := by
    rw [hc] at e2
    match us1, e2 with
    | [x], _ =>
     simp only [List.singleton_append, List.cons.injEq] at e1
     rw [e1.1]
   subst e3
   refine ⟨t', h3 cs' o' (fun k hk => ?_), ⟨t.blocks, ?_⟩, h5⟩
   ·have : k = 0 := by omega
    subst this
    rw [Nat.add_zero, h0, hu]; rfl
   ·rw [h4]; exact List.perm_append_comm
  ·cases h
 ·rw [if_neg hin] at h
  rw [if_neg (by omega)] at h0
  simp only [Option.some.injEq, Prod.mk.injEq] at h
  obtain ⟨rfl, rfl⟩ := h
  refine ⟨t, OwnC_congr (fun k hk => ?_) hold, ⟨[], by simp [blksOf]⟩, by simp⟩
  have : k = 0 := by omega
  subst this
  rw [Nat.add_zero, Nat.add_zero, h0]
theorem setN_ok (hR : RelG W w0 g st a w) {off : Nat} {vs : List CV} {us : List Value} (hv : RepL w (Stable w g) g vs us) : ∀ {c : CT} {cs cs' : Array Value} {o o' j : Nat} {x y : El c} {t : GT} {ids : List Nat}, OwnC w c cs o x t → setN st.objs off vs c j x = some (y, ids) →
  (∀ k, k < c.size → cs'[o' + k]? = if off ≤ j + k ∧ j + k < off + us.length then us[j + k - off]? else cs[o + k]?) → NewT w g c cs' o' y t ids
 | .int k, _, _, _, _, _, _, _, _, _, hold, h, hcs => leafN hR hv rfl hold (by simpa only [setN] using h) hcs
 | .bool, _, _, _, _, _, _, _, _, _, hold, h, hcs => leafN hR hv rfl hold (by simpa only [setN] using h) hcs
 | .str, _, _, _, _, _, _, _, _, _, hold, h, hcs => leafN hR hv rfl hold (by simpa only [setN] using h) hcs
 | .sl r, _, _, _, _, _, _, _, _, _, hold, h, hcs => leafN hR hv rfl hold (by simpa only [setN] using h) hcs
 | .pair ca cb, cs, cs', o, o', j, x, y, t, ids, hold, h, hcs => by
  obtain ⟨ga, gb, rfl, h1, h2⟩ := hold
  simp only [setN] at h
  split at h
  ·rename_i ya i1 yb i2 e1 e2
   simp only [Option.some.injEq, Prod.mk.injEq] at h
   obtain ⟨rfl, rfl⟩ := h
   obtain ⟨ta, k1, ⟨ra, k2⟩, k3⟩ := setN_ok hR hv h1 e1 (fun k hk => hcs k (by simp [CT.size]; omega))
   obtain ⟨tb, k4, ⟨rb, k5⟩, k6⟩ := setN_ok hR hv (o' := o' + ca.size) h2 e2 (fun k hk => by
    have := hcs (ca.size + k) (by simp [CT.size]; omega)
    rw [← Nat.add_assoc, ← Nat.add_assoc, ← Nat.add_assoc] at this
    exact this)
   refine ⟨.pair ca.size ta tb, ⟨ta, tb, rfl, k1, k4⟩, ⟨ra ++ rb, ?_⟩, fun i hi => ?_⟩
   ·simp only [GT.blocks, blksOf_append]
    exact perm4.trans ((k2.append k5).trans perm4)
   ·rcases List.mem_append.1 hi with hi | hi
    ·exact k3 i hi
    ·exact k6 i hi
  ·cases h
theorem goneG_perm : ∀ {ids : List Nat} {g : List Gh}, ids.Nodup → (∀ i ∈ ids, ∃ t, g[i]? = some (.row t)) → (allB (goneG g ids) ++ blksOf g ids).Perm (allB g)
 | [], g, _, _ => by simp [goneG, blksOf]
 | i :: l, g, hn, hi => by
  obtain ⟨t, ht⟩ := hi i (by simp)
  rw [List.nodup_cons] at hn
  obtain ⟨l1, m1, h1, h2⟩ := allB_set .gone ht
  have hset : ∀ j ∈ l, (g.set i .gone)[j]? = g[j]? := fun j hj => List.getElem?_set_ne (fun e : i = j => hn.1 (by rw [e]; exact hj))
  have ih := goneG_perm (ids := l) (g := g.set i .gone) hn.2 (fun j hj => by rw [hset j hj]; exact hi j (by simp [hj]))
  have hb : blksOf (g.set i .gone) l = blksOf g l := by
   unfold blksOf
   have : ∀ (l' : List Nat), (∀ j ∈ l', j ∈ l) → (l'.flatMap fun id => ((g.set i Gh.gone).getD id .gone).blocks) = l'.flatMap fun id => (g.getD id .gone).blocks := by
    intro l'
    induction l' with
    | nil => intro _; rfl
    | cons x l' ih =>
     intro hx
     rw [List.flatMap_cons, List.flatMap_cons, ih (fun j hj => hx j (by simp [hj])), List.getD_eq_getElem?_getD, List.getD_eq_getElem?_getD, hset x (hx x (by simp))]
   exact this l (fun j hj => hj)
  rw [hb] at ih
  have hcons : blksOf g (i :: l) = (Gh.row t).blocks ++ blksOf g l := by simp only [blksOf, List.flatMap_cons, getD_of ht]
  rw [goneG, hcons]
  have h3 : (allB (goneG (g.set i .gone) l) ++ ((Gh.row t).blocks ++ blksOf g l)).Perm ((Gh.row t).blocks ++ (allB (goneG (g.set i .gone) l) ++ blksOf g l)) := by
   rw [← List.append_assoc, ← List.append_assoc]
   exact List.Perm.append_right _ List.perm_append_comm
  refine h3.trans ((List.Perm.append_left _ ih).trans ?_)
  rw [h1, h2]
  simp only [Gh.blocks, List.append_nil, List.append_assoc]
  rw [← List.append_assoc, ← List.append_assoc]
  exact List.Perm.append_right _ List.perm_append_comm
theorem rows_set : ∀ {rows : List GT} {i : Nat} {t0 : GT} (t' : GT), rows[i]? = some t0 → ∃ l m, GT.blocksL rows = l ++ t0.blocks ++ m ∧ GT.blocksL (rows.set i t') = l ++ t'.blocks ++ m
 | [], _, _, _, h => by simp at h
 | x :: rows, 0, t0, t', h => by
  simp only [List.getElem?_cons_zero, Option.some.injEq] at h
  subst h
  exact ⟨[], GT.blocksL rows, by simp [GT.blocksL], by simp [GT.blocksL]⟩
 | x :: rows, i + 1, t0, t', h => by
  obtain ⟨l, m, h1, h2⟩ := rows_set t' (show rows[i]? = some t0 by simpa using h)
  exact ⟨x.blocks ++ l, m, by simp [GT.blocksL, h1], by simp [GT.blocksL, h2]⟩
theorem np_get {l : List Ob} {k : Nat} {o : Ob} (h : l.all npO = true) (hk : l[k]? = some o) : npO o = true := (List.all_eq_true.1 h) o (List.mem_of_getElem? hk)
theorem rel_storeN (hR : RelG W w0 g st a w) (hnp : npSt st = true) (hW : W = []) {id i off : Nat} {r : CT} {xs : List (El r)} {y : El r} {ids : List Nat} {vs : List CV} {us : List Value} {b cap : Nat} {cells : Array Value} {ty : TypeId} {rows : List GT}
  (hg : g[id]? = some (.row (.sl r.size (.slice (some ⟨b, 0, none⟩) xs.length cap) rows))) (hh : w.heap[b]? = some (.cells cells ty (0, 0))) (hi : i < xs.length)
  (htop : OwnC w (.sl r) #[.slice (some ⟨b, 0, none⟩) xs.length cap] 0 xs (.sl r.size (.slice (some ⟨b, 0, none⟩) xs.length cap) rows))
  (hv : RepL w (Stable w g) g vs us) (hu : setN st.objs off vs r 0 (xs.getD i (dflt r)) = some (y, ids)) (hn : (id :: ids).Nodup) (hfit : off + vs.length ≤ r.size) (d : Option Nat) :
  ∃ g', RelG W w0 g' (({ tmps := st.tmps, objs := goneO (st.objs.set id (.row r (xs.set i y))) ids } : St).put d .dead) (a.put d undef) (w.setRow b (cells.toList.take (i * r.size + off) ++ us ++ cells.toList.drop (i * r.size + off + us.length)).toArray) := by
 subst hW
 rw [List.nodup_cons] at hn
 obtain ⟨hid, hidn⟩ := hn
 obtain ⟨v', rows', e, h1, h2⟩ := htop
 injection e with _ e2 e3
 subst e2; subst e3
 have hl := RepL_length hv
 rcases h2 with ⟨h2, _⟩ | ⟨b', cap', cells', ty', hv', hc, hm, hh', hs, hrl, hr⟩
 ·subst h2; simp at hi
 injection hv' with hb _ hcap
 injection hb with hb
 injection hb with hb
 subst hb; subst hcap
 rw [hh] at hh'
 injection hh' with hh'
 injection hh' with e1 e2 e3
 subst e1
 have hnd0 := nodup_of hR.nd hg
 have hnd := hnd0
 simp only [Gh.blocks, GT.blocks, blockOf, List.singleton_append, List.nodup_cons] at hnd
 have hfit2 : i * r.size + off + us.length ≤ cells.toList.length := by
  have := Nat.mul_le_mul_right r.size (show i + 1 ≤ cap by omega)
  rw [Nat.add_mul, Nat.one_mul] at this
  simp only [Array.length_toList, hs]
  omega
 have hget := fun k => splice_get cells.toList (i * r.size + off) us k hfit2
 generalize hcs' : (cells.toList.take (i * r.size + off) ++ us ++ cells.toList.drop (i * r.size + off + us.length)).toArray = cs' at hget ⊢
 have hir : i < rows.length := by omega
 have hx : xs.getD i (dflt r) = xs[i] := by rw [List.getD_eq_getElem?_getD, List.getElem?_eq_getElem hi, Option.getD_some]
 rw [hx] at hu
 obtain ⟨t', k1, ⟨rest, k2⟩, k3⟩ := setN_ok hR hv (cs' := cs') (o' := i * r.size) (hr i hi hir) hu (fun k hk => by
  rw [hget, Nat.zero_add]
  by_cases q1 : off ≤ k ∧ k < off + us.length
  ·rw [if_pos q1, if_neg (by omega), if_pos (by omega)]
   congr 1; omega
  ·rw [if_neg q1]
   by_cases q2 : i * r.size + k < i * r.size + off
   ·rw [if_pos q2]; simp
   ·rw [if_neg q2, if_neg (by omega)]; simp)
 have hgi : ∀ k ∈ ids, (goneG g ids)[k]? = some .gone := fun k hk => by
  obtain ⟨t, ht⟩ := k3 k hk
  rw [goneG_get, if_pos ⟨hk, (List.getElem?_eq_some_iff.1 ht).1⟩]
 have hgo : ∀ k, k ∉ ids → (goneG g ids)[k]? = g[k]? := fun k hk => by rw [goneG_get, if_neg (fun h => hk h.1)]
 have hg1 : (goneG g ids)[id]? = some (.row (.sl r.size (.slice (some ⟨b, 0, none⟩) xs.length cap) rows)) := by rw [hgo id hid, hg]
 have hidl : id < (goneG g ids).length := (List.getElem?_eq_some_iff.1 hg1).1
 generalize hG : (goneG g ids).set id (.row (.sl r.size (.slice (some ⟨b, 0, none⟩) xs.length cap) (rows.set i t'))) = g'
 have hget' : ∀ k, g'[k]? = if k = id then some (.row (.sl r.size (.slice (some ⟨b, 0, none⟩) xs.length cap) (rows.set i t'))) else (goneG g ids)[k]? := fun k => by
  rw [← hG]
  by_cases e : k = id
  ·subst e; rw [if_pos rfl, List.getElem?_set_self hidl]
  ·rw [if_neg e, List.getElem?_set_ne (Ne.symm e)]
 have hperm : (allB g' ++ rest).Perm (allB g) := by
  obtain ⟨l, m, q1, q2⟩ := allB_set (.row (.sl r.size (.slice (some ⟨b, 0, none⟩) xs.length cap) (rows.set i t'))) hg1
  obtain ⟨l2, m2, q3, q4⟩ := rows_set t' (List.getElem?_eq_getElem hir)
  refine List.Perm.trans ?_ (goneG_perm hidn k3)
  rw [← hG, q1, q2]
  simp only [Gh.blocks, GT.blocks, blockOf, q3, q4, List.append_assoc]
  refine List.Perm.append_left l ?_
  refine List.Perm.append_left [b] ?_
  refine List.Perm.append_left l2 ?_
  have e1 : (t'.blocks ++ (m2 ++ (m ++ rest))).Perm ((t'.blocks ++ rest) ++ (m2 ++ m)) := by
   rw [List.append_assoc]
   refine List.Perm.append_left _ ?_
   rw [← List.append_assoc]
   exact List.perm_append_comm
  have e2 : ((rows[i].blocks ++ blksOf g ids) ++ (m2 ++ m)).Perm (rows[i].blocks ++ (m2 ++ (m ++ blksOf g ids))) := by
   rw [List.append_assoc]
   refine List.Perm.append_left _ ?_
   rw [← List.append_assoc m2]
   exact List.perm_append_comm
  exact e1.trans ((List.Perm.append_right _ k2).trans e2)
 have hsub : ∀ c, c ∈ allB g' → c ∈ allB g := fun c hc => hperm.mem_iff.1 (List.mem_append_left _ hc)
 have hnd' : (allB g').Nodup := by
  have := (hperm.nodup_iff).2 hR.nd
  rw [List.nodup_append] at this
  exact this.1
 have hball : b ∈ allB g := allB_mem hg (by simp [Gh.blocks, GT.blocks, blockOf])
 have hother : ∀ c, c ≠ b → (w.setRow b cs').heap[c]? = w.heap[c]? := fun c hc => setRow_other w b c cs' hc
 have hS : ∀ c, Stable w g c → Stable (w.setRow b cs') g' c ∧ (w.setRow b cs').heap[c]? = w.heap[c]? := fun c hc =>
  ⟨⟨by simpa using hc.1, fun h => hc.2 (hsub c h)⟩, hother c (fun e => hc.2 (e ▸ hball))⟩
 have hGE : GExtN g g' := fun k x hk => by
  rw [hget']
  by_cases e : k = id
  ·subst e
   rw [hg] at hk
   injection hk with hk
   right; right; right
   rw [if_pos rfl]
   exact ⟨_, _, rows, _, hk.symm, rfl⟩
  ·rw [if_neg e]
   by_cases hki : k ∈ ids
   ·rw [hgi k hki]; exact .inr (.inr (.inl rfl))
   ·rw [hgo k hki]; exact .inr (.inl hk)
 unfold npSt at hnp
 rw [Bool.and_eq_true] at hnp
 have hlen := ObsOK_length hR.ob
 have hbt : ∀ c ∈ t'.blocks, c ≠ b := fun c hc e => by
  subst e
  have : c ∈ rows[i].blocks ++ blksOf g ids := k2.mem_iff.1 (List.mem_append_left _ hc)
  rcases List.mem_append.1 this with h | h
  ·exact hnd.1 (blocksL_mem (List.getElem_mem hir) h)
  ·obtain ⟨j, hj, hb⟩ := List.mem_flatMap.1 h
   obtain ⟨t, ht⟩ := k3 j hj
   rw [getD_of ht] at hb
   exact nodup_apart hR.nd (fun e : id = j => hid (by rw [e]; exact hj)) hg ht c (by simp [Gh.blocks, GT.blocks, blockOf]) hb
 refine ⟨g', ⟨put_tm (RepTs_N hS hGE hnp.1 hR.tm) _ d trivial, ?_, hnd', fun c hc => ⟨by simpa using (hR.own c (hsub c hc)).1, (hR.own c (hsub c hc)).2⟩, keep_own hR rfl rfl rfl (by simp) (fun c _ hc => hother c (fun e => hc (e ▸ hball))), ⟨fun k t hk => by simp at hk, fun k x _ hk => by simp at hk⟩, (put_defers a d undef).trans hR.df⟩⟩
 rw [put_objs]
 rw [ObsOK_iff]
 refine ⟨by rw [goneO_length, List.length_set, ← hG, List.length_set, goneG_length, hlen], fun k o x hk1 hk2 => ?_⟩
 rw [goneO_get, List.length_set] at hk1
 rw [hget'] at hk2
 by_cases hki : k ∈ ids
 ·have hne : k ≠ id := fun e => hid (e ▸ hki)
  obtain ⟨t, ht⟩ := k3 k hki
  rw [if_pos ⟨hki, by rw [hlen]; exact (List.getElem?_eq_some_iff.1 ht).1⟩] at hk1
  rw [if_neg hne, hgi k hki] at hk2
  injection hk1 with hk1; injection hk2 with hk2
  subst hk1; subst hk2
  trivial
 ·rw [if_neg (fun h => hki h.1)] at hk1
  by_cases e : k = id
  ·subst e
   rw [if_pos rfl] at hk2
   rw [List.getElem?_set_self (by rw [hlen, ← goneG_length ids]; exact hidl)] at hk1
   injection hk1 with hk1; injection hk2 with hk2
   subst hk1; subst hk2
   refine ⟨_, rows.set i t', rfl, _, rows.set i t', rfl, by simp, .inr ⟨b, cap, cs', ty, by simp, by simpa using hc, hm, setRow_heap w b cells cs' ty _ hh, ?_, by simpa using hrl, fun j hj hj' => ?_⟩⟩
   ·rw [← hcs']
    simp only [List.size_toArray, List.length_append, List.length_take, List.length_drop, Array.length_toList] at hfit2 ⊢
    omega
   ·have hjx : j < xs.length := by simpa using hj
    have hjr : j < rows.length := by omega
    by_cases hji : i = j
    ·subst hji
     rw [List.getElem_set_self, List.getElem_set_self]
     exact OwnC_frame (fun c hc => hother c (hbt c hc)) k1
    ·rw [List.getElem_set_ne hji, List.getElem_set_ne hji]
     refine OwnC_frame (fun c hc => hother c (fun e => hnd.1 (e ▸ blocksL_mem (List.getElem_mem hjr) hc))) ?_
     refine OwnC_congr (fun k hk => ?_) (hr j hjx hjr)
     rw [hget]
     by_cases h5 : j * r.size + k < i * r.size + off
     ·rw [if_pos h5]; simp
     ·rw [if_neg h5]
      by_cases h6 : j * r.size + k < i * r.size + off + us.length
      ·exfalso
       have := mul_apart (i := i) (j := j) (sz := r.size) (k := j * r.size + k - i * r.size) (n := k) hji (by omega) hk
       omega
      ·rw [if_neg h6]; simp
  ·rw [if_neg e, hgo k hki] at hk2
   rw [List.getElem?_set_ne (Ne.symm e)] at hk1
   have hold := (ObsOK_iff.1 hR.ob).2 k o x hk1 hk2
   have hfr : ∀ c ∈ x.blocks, (w.setRow b cs').heap[c]? = w.heap[c]? := fun c hc => hother c (fun e' => nodup_apart hR.nd (Ne.symm e) hg hk2 b (by simp [Gh.blocks, GT.blocks, blockOf]) (e' ▸ hc))
   have hnpo := np_get hnp.2 hk1
   cases o <;> cases x <;> try exact hold.elim
   ·trivial
   ·trivial
   ·exact fun p hp => (hfr p.1 (List.mem_map.2 ⟨p, hp, rfl⟩)).trans (hold p hp)
   ·rename_i l bb
    obtain ⟨cells2, t2, q1, q2, q3⟩ := hold
    exact ⟨cells2, t2, (hfr bb (by simp [Gh.blocks])).trans q1, q2, RepAt_N hS hGE hnpo q3⟩
   ·rename_i r2 xs2 t2
    obtain ⟨v2, rows2, q1, q2⟩ := hold
    exact ⟨v2, rows2, q1, OwnC_frame hfr q2⟩
end
end Go.Proofs.YtgcioclfplafkaaGreatV
end

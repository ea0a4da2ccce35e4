/- Calls whose callees write; no condition. -/
import Derived.Test.YtgcioclfplafkaaGreatA05
set_option linter.all false
section
namespace Go.Proofs.YtgcioclfplafkaaGreatV
open Go Go.RowKit
theorem at_blocks_nodup : ∀ {t : GT} {j : Nat}, t.blocks.Nodup → (t.at j).blocks.Nodup
 | .leaf, _, h => h
 | .sl _ _ _, _, h => h
 | .pair n a b, j, h => by
  simp only [GT.blocks, List.nodup_append] at h
  simp only [GT.at]
  by_cases hj : j < n
  ·rw [if_pos hj]; exact at_blocks_nodup h.1
  ·rw [if_neg hj]; exact at_blocks_nodup h.2.1
theorem rows_apart : ∀ {l : List GT} {i j : Nat} {x y : GT}, (GT.blocksL l).Nodup → i ≠ j → l[i]? = some x → l[j]? = some y → ∀ b ∈ x.blocks, b ∉ y.blocks
 | [], _, _, _, _, _, _, h, _ => by simp at h
 | t :: l, i, j, x, y, hn, hij, hx, hy => by
  simp only [GT.blocksL, List.nodup_append] at hn
  intro b hb hb'
  cases i with
  | zero =>
   cases j with
   | zero => exact hij rfl
   | succ j =>
    simp only [List.getElem?_cons_zero, Option.some.injEq] at hx
    subst hx
    exact hn.2.2 b hb b (blocksL_mem (List.mem_of_getElem? (by simpa using hy)) hb') rfl
  | succ i =>
   cases j with
   | zero =>
    simp only [List.getElem?_cons_zero, Option.some.injEq] at hy
    subst hy
    exact hn.2.2 b hb' b (blocksL_mem (List.mem_of_getElem? (by simpa using hx)) hb) rfl
   | succ j => exact rows_apart (i := i) (j := j) hn.2.1 (by omega) (by simpa using hx) (by simpa using hy) b hb hb'
theorem nodupL : ∀ {l : List GT} {i : Nat} {x : GT}, (GT.blocksL l).Nodup → l[i]? = some x → x.blocks.Nodup
 | [], _, _, _, h => by simp at h
 | t :: l, 0, x, hn, h => by
  simp only [GT.blocksL, List.nodup_append] at hn
  simp only [List.getElem?_cons_zero, Option.some.injEq] at h
  subst h
  exact hn.1
 | t :: l, i + 1, x, hn, h => by
  simp only [GT.blocksL, List.nodup_append] at hn
  exact nodupL hn.2.1 (by simpa using h)
theorem OwnC_uncell {w : World} {r : CT} {cs : Array Value} {o : Nat} {xs : List (El r)} {sz : Nat} {v : Value} {rows : List GT} (hc : cs[o]? = some v) (h : OwnC w (.sl r) #[v] 0 xs (.sl sz v rows)) : OwnC w (.sl r) cs o xs (.sl sz v rows) := by
 obtain ⟨v', rows', e, h1, h2⟩ := h
 injection e with e1 e2 e3
 subst e1; subst e2; subst e3
 exact ⟨_, _, rfl, hc, h2⟩
theorem OwnC_put {w w' : World} : ∀ {c : CT} {cs : Array Value} {o : Nat} {x y : El c} {t : GT} {j : Nat} {sz : Nat} {v : Value} {rr : List GT} {r : CT} {zs : List (El r)},
  OwnC w c cs o x t → t.at j = .sl sz v rr → setCell c j x (.fz r zs) = some y → OwnC w' (.sl r) #[v] 0 zs (.sl sz v rr) → t.blocks.Nodup →
  (∀ b ∈ t.blocks, b ∉ (GT.sl sz v rr).blocks → w'.heap[b]? = w.heap[b]?) → OwnC w' c cs o y t
 | .int _, _, _, _, _, _, j, _, _, _, _, _, _, _, h, _, _, _ => by cases j <;> simp [setCell] at h
 | .bool, _, _, _, _, _, j, _, _, _, _, _, _, _, h, _, _, _ => by cases j <;> simp [setCell] at h
 | .str, _, _, _, _, _, j, _, _, _, _, _, _, _, h, _, _, _ => by cases j <;> simp [setCell] at h
 | .sl r', cs, o, xs, y, t, j, sz, v, rr, r, zs, ho, ht, h, hz, _, _ => by
  cases j with
  | succ j => simp [setCell] at h
  | zero =>
   simp only [setCell] at h
   obtain ⟨rfl, h⟩ := cast_eq h
   simp only at h
   subst h
   have e : t = .sl sz v rr := by
    obtain ⟨v', rows', e, _⟩ := ho
    subst e
    simpa [GT.at] using ht
   subst e
   exact OwnC_uncell (OwnC_cell ho).2.1 hz
 | .pair a b, cs, o, x, y, t, j, sz, v, rr, r, zs, ho, ht, h, hz, hn, hk => by
  obtain ⟨ga, gb, e, h1, h2⟩ := ho
  subst e
  simp only [GT.at] at ht
  simp only [setCell] at h
  simp only [GT.blocks, List.nodup_append] at hn
  have hk : ∀ b, (b ∈ ga.blocks ∨ b ∈ gb.blocks) → b ∉ (GT.sl sz v rr).blocks → w'.heap[b]? = w.heap[b]? := fun b hb => hk b (by simpa [GT.blocks] using hb)
  by_cases hj : j < a.size
  ·rw [if_pos hj] at ht h
   split at h
   ·rename_i u hu
    injection h with h
    subst h
    refine ⟨ga, gb, rfl, OwnC_put h1 ht hu hz hn.1 (fun b hb hb' => hk b (.inl hb) hb'), OwnC_frame (fun b hb => hk b (.inr hb) (fun hb' => ?_)) h2⟩
    rw [show GT.blocks (.sl sz v rr) = (ga.at j).blocks by rw [ht]] at hb'
    exact hn.2.2 b (at_blocks hb') b hb rfl
   ·cases h
  ·rw [if_neg hj] at ht h
   split at h
   ·rename_i u hu
    injection h with h
    subst h
    refine ⟨ga, gb, rfl, OwnC_frame (fun b hb => hk b (.inl hb) (fun hb' => ?_)) h1, OwnC_put h2 ht hu hz hn.2.1 (fun b hb hb' => hk b (.inr hb) hb')⟩
    rw [show GT.blocks (.sl sz v rr) = (gb.at (j - a.size)).blocks by rw [ht]] at hb'
    exact hn.2.2 b hb b (at_blocks hb') rfl
   ·cases h
theorem OwnC_putrow {w w' : World} {r : CT} {xs : List (El r)} {v : Value} {rows : List GT} (h : OwnC w (.sl r) #[v] 0 xs (.sl r.size v rows)) {i j : Nat} {t0 : GT} (hi : rows[i]? = some t0)
  {sz : Nat} {v1 : Value} {rr : List GT} {r1 : CT} {zs : List (El r1)} {y : El r} (ht : t0.at j = .sl sz v1 rr) (hs : setCell r j (xs.getD i (dflt r)) (.fz r1 zs) = some y) (hz : OwnC w' (.sl r1) #[v1] 0 zs (.sl sz v1 rr))
  (hn : (GT.sl r.size v rows).blocks.Nodup) (hk : ∀ b ∈ (GT.sl r.size v rows).blocks, b ∉ (GT.sl sz v1 rr).blocks → w'.heap[b]? = w.heap[b]?) : OwnC w' (.sl r) #[v] 0 (xs.set i y) (.sl r.size v rows) := by
 obtain ⟨v', rows', e, h1, h2⟩ := h
 injection e with _ e2 e3
 subst e2; subst e3
 obtain ⟨hi', e⟩ := List.getElem?_eq_some_iff.1 hi
 simp only [GT.blocks, List.nodup_append] at hn
 have hk : ∀ b, (b ∈ blockOf v ∨ b ∈ GT.blocksL rows) → b ∉ (GT.sl sz v1 rr).blocks → w'.heap[b]? = w.heap[b]? := fun b hb => hk b (by simpa [GT.blocks] using hb)
 have hsub : ∀ b, b ∈ (GT.sl sz v1 rr).blocks → b ∈ t0.blocks := fun b hb => by
  rw [← ht] at hb; exact at_blocks hb
 have hsubL : ∀ b, b ∈ t0.blocks → b ∈ GT.blocksL rows := fun b hb => blocksL_mem (List.mem_of_getElem? hi) hb
 rcases h2 with ⟨_, _, h2⟩ | ⟨b, cap, cells, ty, hv, hc, hm, hh, hsz, hl, hr⟩
 ·subst h2; simp at hi
 ·refine ⟨v, rows, rfl, h1, .inr ⟨b, cap, cells, ty, by rw [hv, List.length_set], by rw [List.length_set]; exact hc, hm, ?_, hsz, by rw [List.length_set]; exact hl, fun k hk1 hk2 => ?_⟩⟩
  ·rw [hk b (.inl (by rw [hv]; simp [blockOf])) (fun hb => hn.2.2 b (by rw [hv]; simp [blockOf]) b (hsubL b (hsub b hb)) rfl)]
   exact hh
  ·rw [List.length_set] at hk1
   have h3 := hr k hk1 hk2
   by_cases hki : i = k
   ·subst hki
    rw [List.getElem_set_self]
    have hx : xs.getD i (dflt r) = xs[i] := by rw [List.getD_eq_getElem?_getD, List.getElem?_eq_getElem hk1, Option.getD_some]
    rw [hx] at hs
    rw [e] at h3 ⊢
    have hnt : t0.blocks.Nodup := nodupL hn.2.1 hi
    exact OwnC_put h3 ht hs hz hnt (fun b hb hb' => hk b (.inr (hsubL b hb)) hb')
   ·rw [List.getElem_set_ne hki]
    refine OwnC_frame (fun b hb => hk b (.inr (blocksL_mem (List.getElem_mem hk2) hb)) (fun hb' => ?_)) h3
    exact rows_apart hn.2.1 (Ne.symm hki) (List.getElem?_eq_getElem hk2) hi b hb (hsub b hb')
end Go.Proofs.YtgcioclfplafkaaGreatV
end
section
namespace Go.Proofs.YtgcioclfplafkaaGreatV
open Go Go.RowKit
def Lent (g : List Gh) : CV → GT → Prop
 | .ref id, t => g[id]? = some (.row t)
 | .pref id i j, t => ∃ sz v rows t0, g[id]? = some (.row (.sl sz v rows)) ∧ rows[i]? = some t0 ∧ t0.at j = t
 | _, _ => False
def Lents (g : List Gh) : List CV → List Gh → Prop
 | [], [] => True
 | c :: l, .row t :: gc => Lent g c t ∧ Lents g l gc
 | _, _ => False
theorem Lents_append {g : List Gh} : ∀ {l m : List CV} {gc gd : List Gh}, Lents g l gc → Lents g m gd → Lents g (l ++ m) (gc ++ gd)
 | [], _, [], _, _, h => h
 | [], _, _ :: _, _, h, _ => h.elim
 | _ :: _, _, [], _, h, _ => h.elim
 | _ :: l, _, .row t :: gc, _, h, h' => ⟨h.1, Lents_append h.2 h'⟩
 | _ :: _, _, .gone :: _, _, h, _ => h.elim
 | _ :: _, _, .unborn :: _, _, h, _ => h.elim
 | _ :: _, _, .hid _ :: _, _, h, _ => h.elim
 | _ :: _, _, .box _ :: _, _, h, _ => h.elim
section
variable {w w' : World} {S : Nat → Prop} {g : List Gh} {objs : List Ob}
theorem lent_id {c : CV} {t : GT} (h : Lent g c t) : ∃ id, idOf c = [id] ∧ ∃ x, g[id]? = some (.row x) ∧ ∀ b ∈ t.blocks, b ∈ x.blocks := by
 cases c <;> try exact h.elim
 ·rename_i id
  exact ⟨id, rfl, t, h, fun _ h => h⟩
 ·rename_i id i j
  obtain ⟨sz, v, rows, t0, h1, h2, h3⟩ := h
  refine ⟨id, rfl, _, h1, fun b hb => ?_⟩
  subst h3
  simp only [GT.blocks, List.mem_append]
  exact .inr (blocksL_mem (List.mem_of_getElem? h2) (at_blocks hb))
theorem lents_mem : ∀ {l : List CV} {gc : List Gh}, Lents g l gc → ∀ b ∈ allB gc, ∃ id ∈ l.flatMap idOf, ∃ x, g[id]? = some x ∧ b ∈ x.blocks
 | [], [], _, b, hb => by simp [allB] at hb
 | [], _ :: _, h, _, _ => h.elim
 | _ :: _, [], h, _, _ => h.elim
 | c :: l, .row t :: gc, h, b, hb => by
  have : b ∈ t.blocks ∨ b ∈ allB gc := by simpa [allB, Gh.blocks] using hb
  rcases this with hb | hb
  ·obtain ⟨id, h1, x, h2, h3⟩ := lent_id h.1
   exact ⟨id, by simp [h1], .row x, h2, h3 b hb⟩
  ·obtain ⟨id, h1, h2⟩ := lents_mem h.2 b hb
   exact ⟨id, by simp [h1], h2⟩
 | _ :: _, .gone :: _, h, _, _ => h.elim
 | _ :: _, .unborn :: _, h, _, _ => h.elim
 | _ :: _, .hid _ :: _, h, _, _ => h.elim
 | _ :: _, .box _ :: _, h, _, _ => h.elim
theorem lents_nodup (hn : (allB g).Nodup) : ∀ {l : List CV} {gc : List Gh}, Lents g l gc → (l.flatMap idOf).Nodup → (allB gc).Nodup
 | [], [], _, _ => by simp [allB]
 | [], _ :: _, h, _ => h.elim
 | _ :: _, [], h, _ => h.elim
 | c :: l, .row t :: gc, h, hd => by
  obtain ⟨id, h1, x, h2, h3⟩ := lent_id h.1
  simp only [List.flatMap_cons, h1, List.singleton_append, List.nodup_cons] at hd
  have : allB (.row t :: gc) = t.blocks ++ allB gc := by simp [allB, Gh.blocks]
  rw [this, List.nodup_append]
  refine ⟨?_, lents_nodup hn h.2 hd.2, fun p hp q hq e => ?_⟩
  ·cases c <;> try exact h.1.elim
   ·exact nodup_of hn h.1
   ·obtain ⟨sz, v, rows, t0, h4, h5, h6⟩ := h.1
    have h7 := nodup_of hn h4
    simp only [Gh.blocks, GT.blocks, List.nodup_append] at h7
    subst h6
    exact at_blocks_nodup (nodupL h7.2.1 h5)
  ·subst e
   obtain ⟨jd, h4, y, h5, h6⟩ := lents_mem h.2 p hq
   exact nodup_apart (i := id) (j := jd) hn (fun e => hd.1 (by rw [e]; exact h4)) h2 h5 p (h3 p hp) h6
 | _ :: _, .gone :: _, h, _ => h.elim
 | _ :: _, .unborn :: _, h, _ => h.elim
 | _ :: _, .hid _ :: _, h, _ => h.elim
 | _ :: _, .box _ :: _, h, _ => h.elim
def SeesC (w : World) (S : Nat → Prop) (v' : CV) (u : Value) (gc : List Gh) : Prop :=
 ∀ (n : Nat) (ga : List Gh), (∀ k, k < gc.length → ga[n + k]? = gc[k]?) → (openC n v').2.length = gc.length ∧ RepC w S ga (openC n v').1 u ∧ ObsOK w S ga (openC n v').2 gc
theorem lendC_rep (ho : ObsOK w S g objs g) {v v' : CV} {u : Value} {back : List CV} (h : RepC w S g v u) (hl : lendC objs v = some (v', back)) : ∃ gc, Lents g back gc ∧ SeesC w S v' u gc := by
 cases v with
 | ref id =>
  simp only [lendC] at hl
  split at hl
  ·rename_i r xs hob
   injection hl with hl
   obtain ⟨rfl, rfl⟩ := Prod.mk.inj hl
   obtain ⟨hv, rows, h7, h8⟩ := row_at ho hob
   simp only [RepC, h7] at h
   subst h
   refine ⟨[.row (.sl r.size u rows)], ⟨h7, trivial⟩, fun n ga hga => ⟨rfl, ?_, ⟨⟨u, rows, rfl, h8⟩, trivial⟩⟩⟩
   have := hga 0 (by simp)
   simp only [Nat.add_zero, List.getElem?_cons_zero] at this
   simp only [openC, RepC, this]
  ·cases hl
 | pref id i j =>
  simp only [lendC, freezeC] at hl
  split at hl
  ·rename_i r ys hf
   injection hl with hl
   obtain ⟨rfl, rfl⟩ := Prod.mk.inj hl
   split at hf
   ·rename_i r0 xs hob
    split at hf
    ·rename_i r1 ys1 hca
     injection hf with hf
     injection hf with e1 e2
     subst e1
     have e2 := eq_of_heq e2
     subst e2
     obtain ⟨hv, rows, h7, h8⟩ := row_at ho hob
     simp only [RepC, h7] at h
     obtain ⟨t, sz, rr, h9, h10⟩ := h
     obtain ⟨b, cap, cells, ty, h11, h12, h13, h14⟩ := OwnC_row h8 h9
     obtain ⟨h15, h16⟩ := OwnC_at h14 h10 hca
     refine ⟨[.row (.sl sz u rr)], ⟨⟨_, _, rows, t, h7, h9, h10⟩, trivial⟩, fun n ga hga => ⟨rfl, ?_, ⟨⟨u, rr, by rw [h15], h16⟩, trivial⟩⟩⟩
     have := hga 0 (by simp)
     simp only [Nat.add_zero, List.getElem?_cons_zero] at this
     simp only [openC, RepC, this]
    ·cases hf
   ·cases hf
  ·cases hl
 | int k n =>
  simp only [lendC, Option.some.injEq, Prod.mk.injEq] at hl
  obtain ⟨rfl, rfl⟩ := hl
  exact ⟨[], trivial, fun n ga _ => ⟨rfl, h, trivial⟩⟩
 | bool b =>
  simp only [lendC, Option.some.injEq, Prod.mk.injEq] at hl
  obtain ⟨rfl, rfl⟩ := hl
  exact ⟨[], trivial, fun n ga _ => ⟨rfl, h, trivial⟩⟩
 | str s =>
  simp only [lendC, Option.some.injEq, Prod.mk.injEq] at hl
  obtain ⟨rfl, rfl⟩ := hl
  exact ⟨[], trivial, fun n ga _ => ⟨rfl, h, trivial⟩⟩
 | fz r xs =>
  simp only [lendC, Option.some.injEq, Prod.mk.injEq] at hl
  obtain ⟨rfl, rfl⟩ := hl
  exact ⟨[], trivial, fun n ga _ => ⟨rfl, h, trivial⟩⟩
 | nilS r =>
  simp only [lendC, Option.some.injEq, Prod.mk.injEq] at hl
  obtain ⟨rfl, rfl⟩ := hl
  refine ⟨[], trivial, fun n ga _ => ⟨rfl, ?_, trivial⟩⟩
  have : u = .slice none 0 0 := h
  subst this
  exact ⟨none, 0, rfl, Nat.le_refl _, fun h => absurd rfl h⟩
 | _ => simp [lendC] at hl
def SeesT (w : World) (S : Nat → Prop) (v' : TV) (u : Value) (gc : List Gh) : Prop :=
 ∀ (n : Nat) (ga : List Gh), (∀ k, k < gc.length → ga[n + k]? = gc[k]?) → (openT n v').2.length = gc.length ∧ RepT w S ga (openT n v').1 u ∧ ObsOK w S ga (openT n v').2 gc
theorem get_append_left {gc gd ga : List Gh} {n : Nat} (h : ∀ k, k < (gc ++ gd).length → ga[n + k]? = (gc ++ gd)[k]?) : (∀ k, k < gc.length → ga[n + k]? = gc[k]?) ∧ ∀ k, k < gd.length → ga[n + gc.length + k]? = gd[k]? := by
 constructor
 ·intro k hk
  rw [h k (by simp; omega), List.getElem?_append_left hk]
 ·intro k hk
  have := h (gc.length + k) (by simp; omega)
  rw [← Nat.add_assoc] at this
  rw [this, List.getElem?_append_right (by omega), Nat.add_sub_cancel_left]
theorem lendL_rep (ho : ObsOK w S g objs g) : ∀ {l l' : List CV} {us : List Value} {back : List CV}, RepL w S g l us → lendL objs l = some (l', back) →
  ∃ gc, Lents g back gc ∧ ∀ (n : Nat) (ga : List Gh), (∀ k, k < gc.length → ga[n + k]? = gc[k]?) → (openL n l').2.length = gc.length ∧ RepL w S ga (openL n l').1 us ∧ ObsOK w S ga (openL n l').2 gc
 | [], _, [], _, _, hl => by
  simp only [lendL, Option.some.injEq, Prod.mk.injEq] at hl
  obtain ⟨rfl, rfl⟩ := hl
  exact ⟨[], trivial, fun n ga _ => ⟨rfl, trivial, trivial⟩⟩
 | [], _, _ :: _, _, h, _ => h.elim
 | _ :: _, _, [], _, h, _ => h.elim
 | v :: l, _, u :: us, _, h, hl => by
  simp only [lendL] at hl
  split at hl
  ·rename_i v' i l' j h1 h2
   simp only [Option.some.injEq, Prod.mk.injEq] at hl
   obtain ⟨rfl, rfl⟩ := hl
   obtain ⟨gc, h3, h4⟩ := lendC_rep ho h.1 h1
   obtain ⟨gd, h5, h6⟩ := lendL_rep ho h.2 h2
   refine ⟨gc ++ gd, Lents_append h3 h5, fun n ga hga => ?_⟩
   obtain ⟨ha, hb⟩ := get_append_left hga
   obtain ⟨h7, h8, h9⟩ := h4 n ga ha
   obtain ⟨h10, h11, h12⟩ := h6 (n + gc.length) ga hb
   simp only [openL]
   rw [h7]
   exact ⟨by simp [h7, h10], ⟨h8, h11⟩, ObsOK_append h9 h12⟩
  ·cases hl
theorem lendT_rep (ho : ObsOK w S g objs g) {v v' : TV} {u : Value} {back : List CV} (h : RepT w S g v u) (hl : lendT objs v = some (v', back)) : ∃ gc, Lents g back gc ∧ SeesT w S v' u gc := by
 cases v with
 | c v =>
  simp only [lendT] at hl
  split at hl
  ·rename_i v1 i h1
   simp only [Option.some.injEq, Prod.mk.injEq] at hl
   obtain ⟨rfl, rfl⟩ := hl
   exact lendC_rep ho h h1
  ·cases hl
 | agg l =>
  simp only [lendT] at hl
  split at hl
  ·rename_i v1 i h1
   simp only [Option.some.injEq, Prod.mk.injEq] at hl
   obtain ⟨rfl, rfl⟩ := hl
   obtain ⟨us, h2, h3⟩ := h
   obtain ⟨gc, h4, h5⟩ := lendL_rep ho h3 h1
   refine ⟨gc, h4, fun n ga hga => ?_⟩
   obtain ⟨h6, h7, h8⟩ := h5 n ga hga
   exact ⟨h6, ⟨us, h2, h7⟩, h8⟩
  ·cases hl
 | fp l =>
  simp only [lendT, Option.some.injEq, Prod.mk.injEq] at hl
  obtain ⟨rfl, rfl⟩ := hl
  refine ⟨[], trivial, fun n ga _ => ⟨rfl, h, trivial⟩⟩
 | _ => simp [lendT] at hl
theorem lendA_rep (ho : ObsOK w S g objs g) : ∀ {l l' : List TV} {us : List Value} {back : List CV}, RepTs w S g l us → lendA objs l = some (l', back) →
  ∃ gc, Lents g back gc ∧ ∀ (n : Nat) (ga : List Gh), (∀ k, k < gc.length → ga[n + k]? = gc[k]?) → (openA n l').2.length = gc.length ∧ RepTs w S ga (openA n l').1 us ∧ ObsOK w S ga (openA n l').2 gc
 | [], _, [], _, _, hl => by
  simp only [lendA, Option.some.injEq, Prod.mk.injEq] at hl
  obtain ⟨rfl, rfl⟩ := hl
  exact ⟨[], trivial, fun n ga _ => ⟨rfl, trivial, trivial⟩⟩
 | [], _, _ :: _, _, h, _ => h.elim
 | _ :: _, _, [], _, h, _ => h.elim
 | v :: l, _, u :: us, _, h, hl => by
  simp only [lendA] at hl
  split at hl
  ·rename_i v' i l' j h1 h2
   simp only [Option.some.injEq, Prod.mk.injEq] at hl
   obtain ⟨rfl, rfl⟩ := hl
   obtain ⟨gc, h3, h4⟩ := lendT_rep ho h.1 h1
   obtain ⟨gd, h5, h6⟩ := lendA_rep ho h.2 h2
   refine ⟨gc ++ gd, Lents_append h3 h5, fun n ga hga => ?_⟩
   obtain ⟨ha, hb⟩ := get_append_left hga
   obtain ⟨h7, h8, h9⟩ := h4 n ga ha
   obtain ⟨h10, h11, h12⟩ := h6 (n + gc.length) ga hb
   simp only [openA]
   rw [h7]
   exact ⟨by simp [h7, h10], ⟨h8, h11⟩, ObsOK_append h9 h12⟩
  ·cases hl
end
end Go.Proofs.YtgcioclfplafkaaGreatV
end
section
namespace Go.Proofs.YtgcioclfplafkaaGreatV
open Go Go.RowKit
section
variable {w w' : World} {S : Nat → Prop} {g : List Gh} {objs : List Ob}
theorem setOb_none : ∀ (u : List (Nat × Md)) (objs : List Ob) (i : Nat), (∀ p ∈ u, ∃ o, p.2 = .ob o) → i ∉ u.map (·.1) → (setOb objs u)[i]? = objs[i]?
 | [], _, _, _, _ => rfl
 | (k, md) :: u, objs, i, h, hi => by
  obtain ⟨o, e⟩ := h (k, md) (by simp)
  simp only at e
  subst e
  simp only [List.map_cons, List.mem_cons, not_or] at hi
  simp only [setOb]
  rw [setOb_none u _ i (fun p hp => h p (by simp [hp])) hi.2, List.getElem?_set_ne (Ne.symm hi.1)]
theorem setOb_some : ∀ (u : List (Nat × Md)) (objs : List Ob) (i : Nat), (∀ p ∈ u, ∃ o, p.2 = .ob o) → (u.map (·.1)).Nodup → i ∈ u.map (·.1) → i < objs.length → ∃ o, (i, Md.ob o) ∈ u ∧ (setOb objs u)[i]? = some o
 | [], _, _, _, _, hi, _ => by simp at hi
 | (k, md) :: u, objs, i, h, hn, hi, hl => by
  obtain ⟨o, e⟩ := h (k, md) (by simp)
  simp only at e
  subst e
  simp only [List.map_cons, List.nodup_cons] at hn
  have hu : ∀ p ∈ u, ∃ o, p.2 = .ob o := fun p hp => h p (by simp [hp])
  simp only [setOb]
  by_cases e : i = k
  ·subst e
   refine ⟨o, by simp, ?_⟩
   rw [setOb_none u _ i hu hn.1, List.getElem?_set_self hl]
  ·have hi' : i ∈ u.map (·.1) := by
    simp only [List.map_cons, List.mem_cons] at hi
    exact hi.resolve_left e
   obtain ⟨o', h1, h2⟩ := setOb_some u (objs.set k o) i hu hn.2 hi' (by simpa using hl)
   exact ⟨o', by simp [h1], h2⟩
theorem giveBack_items (ho : ObsOK w S g objs g) (hnd : (allB g).Nodup) (hlt : ∀ b ∈ allB g, b < w.heap.size) (gall : List Gh) (hk : ∀ b, b < w.heap.size → b ∉ allB gall → w'.heap[b]? = w.heap[b]?) :
  ∀ {back : List CV} {gc : List Gh} {m : List CV} {u : List (Nat × Md)}, Lents g back gc → BackOK w' gc m → giveBack objs back m = some u → (back.flatMap idOf).Nodup →
   (∀ b ∈ allB gall, ∀ id ∈ back.flatMap idOf, ∀ x, g[id]? = some x → b ∈ x.blocks → b ∈ allB gc) → (∀ c ∈ back, ∀ id i j lo hi, c ≠ .psub id i j lo hi) →
   (∀ p ∈ u, ∃ o x, p.2 = .ob o ∧ g[p.1]? = some x ∧ ObOK w' S g o x) ∧ u.map (·.1) = back.flatMap idOf
 | [], [], [], u, _, _, h, _, _, _ => by
  simp only [giveBack, Option.some.injEq] at h
  subst h
  simp
 | [], [], _ :: _, _, _, h, _, _, _, _ => h.elim
 | [], _ :: _, _, _, h, _, _, _, _, _ => h.elim
 | _ :: _, [], _, _, h, _, _, _, _, _ => h.elim
 | _ :: _, .gone :: _, _, _, h, _, _, _, _, _ => h.elim
 | _ :: _, .unborn :: _, _, _, h, _, _, _, _, _ => h.elim
 | _ :: _, .hid _ :: _, _, _, h, _, _, _, _, _ => h.elim
 | _ :: _, .box _ :: _, _, _, h, _, _, _, _, _ => h.elim
 | _ :: _, .row _ :: _, [], _, _, h, _, _, _, _ => h.elim
 | c :: back, .row t :: gc, v :: m, u, hl, hb, h, hd, hg, hp => by
  obtain ⟨id, h1, x, h2, h3⟩ := lent_id hl.1
  simp only [List.flatMap_cons, h1, List.singleton_append, List.nodup_cons] at hd
  have hall : allB (.row t :: gc) = t.blocks ++ allB gc := by simp [allB, Gh.blocks]
  have hfar : ∀ b ∈ x.blocks, b ∉ allB gc := fun b hb hb' => by
   obtain ⟨jd, h4, y, h5, h6⟩ := lents_mem hl.2 b hb'
   exact nodup_apart (i := id) (j := jd) hnd (fun e => hd.1 (by rw [e]; exact h4)) h2 h5 b hb h6
  have hkx : ∀ b ∈ x.blocks, b ∉ t.blocks → w'.heap[b]? = w.heap[b]? := fun b hb hbt => by
   refine hk b (hlt b (allB_mem h2 hb)) (fun hba => ?_)
   have := hg b hba id (by simp [h1]) _ h2 hb
   rw [hall, List.mem_append] at this
   rcases this with h | h
   ·exact hbt h
   ·exact hfar b hb h
  have hg' : ∀ b ∈ allB gall, ∀ id ∈ back.flatMap idOf, ∀ x, g[id]? = some x → b ∈ x.blocks → b ∈ allB gc := fun b hb jd hj y hy hby => by
   have := hg b hb jd (by simp [hj]) y hy hby
   rw [hall, List.mem_append] at this
   rcases this with h | h
   ·exact absurd hby (nodup_apart (i := id) (j := jd) hnd (fun e => hd.1 (by rw [e]; exact hj)) h2 hy b (h3 b h))
   ·exact h
  cases v with
  | fz r xs =>
   obtain ⟨⟨v1, rows1, ht, hown⟩, hb2⟩ := hb
   have fin : ∀ {o : Ob} {u' : List (Nat × Md)}, giveBack objs back m = some u' → u = (id, .ob o) :: u' → ObOK w' S g o (.row x) → (∀ p ∈ u, ∃ o x, p.2 = .ob o ∧ g[p.1]? = some x ∧ ObOK w' S g o x) ∧ u.map (·.1) = (c :: back).flatMap idOf := by
    intro o u' hu e hok
    subst e
    obtain ⟨h4, h5⟩ := giveBack_items ho hnd hlt gall hk hl.2 hb2 hu hd.2 hg' (fun c hc => hp c (by simp [hc]))
    refine ⟨fun p hp => ?_, by simp [h1, h5]⟩
    simp only [List.mem_cons] at hp
    rcases hp with rfl | hp
    ·exact ⟨o, _, rfl, h2, hok⟩
    ·exact h4 p hp
   cases c with
   | ref id' =>
    simp only [idOf, List.cons.injEq, and_true] at h1
    subst h1
    simp only [giveBack] at h
    split at h
    ·rename_i u' hu
     injection h with h
     have hx : x = t := by
      have := hl.1
      simp only [Lent] at this
      rw [h2] at this
      injection this with this
      injection this
     subst hx
     exact fin hu h.symm ⟨v1, rows1, ht, hown⟩
    ·cases h
   | pref id' i j =>
    simp only [idOf, List.cons.injEq, and_true] at h1
    subst h1
    simp only [giveBack] at h
    split at h
    ·rename_i r0 xs0 u' hob hu
     split at h
     ·rename_i y hy
      rw [stRow_eq (f := fun z => setCell _ j z _) hy] at h
      injection h with h
      obtain ⟨hv, rows, h7, h8⟩ := row_at ho hob
      obtain ⟨sz, v2, rows2, t0, h9, h10, h11⟩ := hl.1
      rw [h7] at h9
      injection h9 with h9
      injection h9 with h9
      injection h9 with e1 e2 e3
      subst e1; subst e2; subst e3
      rw [h7] at h2
      injection h2 with h2
      injection h2 with h2
      subst h2
      subst ht
      refine fin hu h.symm ⟨hv, rows, rfl, OwnC_putrow h8 h10 h11 hy hown (by have := nodup_of hnd h7; simpa [Gh.blocks] using this) hkx⟩
     ·cases h
    ·cases h
   | psub id' i j lo hi => exact absurd rfl (hp _ (by simp) id' i j lo hi)
   | _ => exact hl.1.elim
  | _ => exact hb.elim
theorem giveBack_ok (ho : ObsOK w S g objs g) (hS : ∀ b, S b → b < w.heap.size ∧ b ∉ allB g) (hnd : (allB g).Nodup) (hlt : ∀ b ∈ allB g, b < w.heap.size) {back : List CV} {gc : List Gh} {m : List CV} {u : List (Nat × Md)} (hK : Keep (allB gc) w w')
  (hl : Lents g back gc) (hb : BackOK w' gc m) (h : giveBack objs back m = some u) (hd : (back.flatMap idOf).Nodup) (hp : ∀ c ∈ back, ∀ id i j lo hi, c ≠ .psub id i j lo hi) : ObsOK w' S g (setOb objs u) g := by
 obtain ⟨h1, h2⟩ := giveBack_items ho hnd hlt gc (fun b hb hn => hK.block b hb hn) hl hb h hd (fun b hb _ _ _ _ _ => hb) hp
 have hsub : ∀ b ∈ allB gc, ∃ id ∈ back.flatMap idOf, ∃ x, g[id]? = some x ∧ b ∈ x.blocks := fun b hb => lents_mem hl b hb
 have hS2 : ∀ b, S b → S b ∧ w'.heap[b]? = w.heap[b]? := fun b hb => ⟨hb, hK.block b (hS b hb).1 (fun h => by
  obtain ⟨id, _, x, h3, h4⟩ := hsub b h
  exact (hS b hb).2 (allB_mem h3 h4))⟩
 refine ObsOK_but hS2 (GExt.refl g) ho (by rw [setOb_length]; exact ObsOK_length ho) (fun i o x h3 h4 => ?_)
 have hobs : ∀ p ∈ u, ∃ o, p.2 = .ob o := fun p hp => by obtain ⟨o, x, h5, _⟩ := h1 p hp; exact ⟨o, h5⟩
 by_cases e : i ∈ u.map (·.1)
 ·right
  have hil : i < objs.length := by
   have := (List.getElem?_eq_some_iff.1 h3).1
   rwa [setOb_length] at this
  obtain ⟨o', h5, h6⟩ := setOb_some u objs i hobs (by rw [h2]; exact hd) e hil
  rw [h6] at h3
  injection h3 with h3
  subst h3
  obtain ⟨o2, x2, h7, h8, h9⟩ := h1 _ h5
  simp only at h7 h8
  injection h7 with h7
  subst h7
  rw [h4] at h8
  injection h8 with h8
  subst h8
  exact h9
 ·left
  rw [setOb_none u objs i hobs e] at h3
  refine ⟨h3, h4, fun b hb => hK.block b (hlt b (allB_mem h4 hb)) (fun h => ?_)⟩
  obtain ⟨id, h5, y, h6, h7⟩ := hsub b h
  exact nodup_apart (i := i) (j := id) hnd (fun e' => e (by rw [h2, e']; exact h5)) h4 h6 b hb h7
end
end Go.Proofs.YtgcioclfplafkaaGreatV
end
section
namespace Go.Proofs.YtgcioclfplafkaaGreatV
open Go Go.RowKit
def notPsub : CV → Bool
 | .psub .. => false
 | _ => true
theorem lendC_np {objs : List Ob} {v v' : CV} {back : List CV} (h : lendC objs v = some (v', back)) : back.all notPsub = true := by
 cases v <;> simp only [lendC] at h
 case ref =>
  split at h
  ·simp only [Option.some.injEq, Prod.mk.injEq] at h; obtain ⟨_, rfl⟩ := h; rfl
  ·cases h
 case pref =>
  split at h
  ·simp only [Option.some.injEq, Prod.mk.injEq] at h; obtain ⟨_, rfl⟩ := h; rfl
  ·cases h
 all_goals first | (simp only [Option.some.injEq, Prod.mk.injEq] at h; obtain ⟨_, rfl⟩ := h; rfl) | simp at h
theorem lendL_np {objs : List Ob} : ∀ {l l' : List CV} {back : List CV}, lendL objs l = some (l', back) → back.all notPsub = true
 | [], _, _, h => by
  simp only [lendL, Option.some.injEq, Prod.mk.injEq] at h
  obtain ⟨_, rfl⟩ := h
  rfl
 | v :: l, _, _, h => by
  simp only [lendL] at h
  split at h
  ·rename_i h1 h2
   simp only [Option.some.injEq, Prod.mk.injEq] at h
   obtain ⟨_, rfl⟩ := h
   simp only [List.all_append, lendC_np h1, lendL_np h2, Bool.and_self]
  ·cases h
theorem lendT_np {objs : List Ob} {v v' : TV} {back : List CV} (h : lendT objs v = some (v', back)) : back.all notPsub = true := by
 cases v <;> simp only [lendT] at h
 ·split at h
  ·rename_i h1
   simp only [Option.some.injEq, Prod.mk.injEq] at h
   obtain ⟨_, rfl⟩ := h
   exact lendC_np h1
  ·cases h
 ·split at h
  ·rename_i h1
   simp only [Option.some.injEq, Prod.mk.injEq] at h
   obtain ⟨_, rfl⟩ := h
   exact lendL_np h1
  ·cases h
 all_goals first | (simp only [Option.some.injEq, Prod.mk.injEq] at h; obtain ⟨_, rfl⟩ := h; rfl) | simp at h
theorem lendA_np {objs : List Ob} : ∀ {l l' : List TV} {back : List CV}, lendA objs l = some (l', back) → back.all notPsub = true
 | [], _, _, h => by
  simp only [lendA, Option.some.injEq, Prod.mk.injEq] at h
  obtain ⟨_, rfl⟩ := h
  rfl
 | v :: l, _, _, h => by
  simp only [lendA] at h
  split at h
  ·rename_i h1 h2
   simp only [Option.some.injEq, Prod.mk.injEq] at h
   obtain ⟨_, rfl⟩ := h
   simp only [List.all_append, lendT_np h1, lendA_np h2, Bool.and_self]
  ·cases h
section
variable {P : Program} {T : Tab} {w : World}
theorem trimO_fst : ∀ (l : List TV) (ts : List Nat) (n : Nat), (openA n (trimA T l ts)).2 = (openA n l).2 ∧ ∀ (S : Nat → Prop) (g : List Gh) (us : List Value), RepTs w S g (openA n l).1 us → RepTs w S g (openA n (trimA T l ts)).1 us
 | [], ts, n => by cases ts <;> exact ⟨rfl, fun _ _ _ h => h⟩
 | v :: l, [], n => by cases v <;> exact ⟨rfl, fun _ _ _ h => h⟩
 | v :: l, t :: ts, n => by
  have hv : ∃ v', trimA T (v :: l) (t :: ts) = v' :: trimA T l ts ∧ (openT n v').2 = (openT n v).2 ∧ ∀ (S : Nat → Prop) (g : List Gh) (u : Value), RepT w S g (openT n v).1 u → RepT w S g (openT n v').1 u := by
   cases v
   case fp l' =>
    refine ⟨_, rfl, ?_, fun S g u h => ?_⟩
    ·split <;> rfl
    ·have := trimT_rep (T := T) t (v := .fp l') h
     split <;> simp_all [openT]
   all_goals exact ⟨_, rfl, rfl, fun _ _ _ h => h⟩
  obtain ⟨v', h1, h2, h3⟩ := hv
  rw [h1]
  simp only [openA]
  rw [h2]
  obtain ⟨h4, h5⟩ := trimO_fst l ts (n + (openT n v).2.length)
  refine ⟨by rw [h4], fun S g us h => ?_⟩
  cases us with
  | nil => exact h.elim
  | cons u us => exact ⟨h3 S g u h.1, h5 S g us h.2⟩
theorem call_lend {W : List Gh} {w0 : World} {g : List Gh} {st : St} {a : Act} (hL : LeafCall T) (hR : RelG W w0 g st a w) {nid f : Nat} {o : Oper} {vs us : List TV} {back : List CV} {vals : List Value} (hv : RepTs w (Stable w g) g vs vals)
  (hf : lendA st.objs vs = some (us, back)) (ts : List Nat) {res : TV} {m : List CV} (hc : T.call f (trimA T us ts) (fun v m => some (v, m)) = some (res, m)) (hF : FnOK P T f) (hz : noFz res = true) {u : List (Nat × Md)} (hg : giveBack st.objs back m = some u)
  (hd : (back.flatMap idOf).Nodup) (hn : ∀ k, k < (openT nid res).2.length → g[nid + k]? = some .unborn)
  (hx : (execOp a.eval o).run P w = .ok (.enter f vals.toArray) w) : OpWp P W w0 w st a nid o (openT nid res).1 (openT nid res).2 u := by
 intro K Q hK
 obtain ⟨gc, hl, hsee⟩ := lendA_rep hR.ob hv hf
 obtain ⟨_, h1, h2⟩ := hsee 0 gc (fun k _ => by rw [Nat.zero_add])
 obtain ⟨ht1, ht2⟩ := trimO_fst (T := T) (w := w) us ts 0
 have hsub : ∀ b ∈ allB gc, b ∈ allB g := fun b hb => by
  obtain ⟨id, _, x, h3, h4⟩ := lents_mem hl b hb
  exact allB_mem h3 h4
 have hnp : ∀ c ∈ back, ∀ id i j lo hi, c ≠ .psub id i j lo hi := fun c hc id i j lo hi e => by
  have := lendA_np hf
  rw [List.all_eq_true] at this
  have := this c hc
  rw [e] at this
  cases this
 have := hF.1 (trimA T us ts) res m (fun {R} K => by show T.call f _ K = _; rw [hL f R, hc]; rfl) w vals (Stable w g) gc (ht2 _ _ _ h1) (by rw [ht1]; exact h2) (lents_nodup hR.nd hl hd) (fun b hb => (hR.own b (hsub b hb)).1) (fun b hb => ⟨hb.1, fun h => hb.2 (hsub b h)⟩)
 unfold Oper.wp
 rw [hx]
 refine Calls.mono this (fun e w' h => ?_)
 obtain ⟨x, rfl, h2, h3, h4⟩ := h
 obtain ⟨g', h5⟩ := rel_call hR hsub h2 hz h4 hn (mods := u) (giveBack_ok hR.ob (fun b hb => hb) hR.nd (fun b hb => (hR.own b hb).1) h2 hl h3 hg hd hnp) o.dst
 exact hK x w' g' h5
end
end Go.Proofs.YtgcioclfplafkaaGreatV
end
section
namespace Go.Proofs.YtgcioclfplafkaaGreatV
open Go Go.RowKit
structure RevCalls (P : Program) (f : Nat) : Prop where
 enter : Enterable P f
 full : ∀ (ys : List Int) (b off cap : Nat) (cells : Array Value) (t : TypeId) (w : World), 0 < ys.length → ys.length ≤ maxLen → w.heap[b]? = some (.cells cells t (0, 0)) → (∀ k, k < ys.length → cells[off + k]? = some (.int .i64 (ys.getD k 0))) →
  Calls P f #[.slice (some ⟨b, off, none⟩) ys.length cap] w fun e w' => e = .returned (.tuple #[]) ∧ Keep [b] w w' ∧ ∃ cells', w'.heap[b]? = some (.cells cells' t (0, 0)) ∧ cells'.size = cells.size ∧
   ∀ k, cells'[k]? = if off ≤ k ∧ k < off + ys.length then some (.int .i64 (ys.reverse.getD (k - off) 0)) else cells[k]?
 empty : ∀ (a : Option Addr) (cap : Nat) (w : World), Calls P f #[.slice a 0 cap] w fun e w' => e = .returned (.tuple #[]) ∧ Keep [] w w'
structure TabFn (P : Program) (T : Tab) : Prop extends TabOK P T where
 leaf : LeafCall T
 fn : ∀ (f : Nat) (args : List TV) (p : TV × List CV), T.rev f = false → T.call f args (fun v m => some (v, m)) = some p → FnOK P T f
 rev : ∀ (f : Nat) (args : List TV) (p : TV × List CV), T.rev f = true → T.call f args (fun v m => some (v, m)) = some p → RevCalls P f ∧ ∃ ys : List Int, args = [.c (.new (.int .i64) ys)] ∧ p = (.tup [], [.fz (.int .i64) ys.reverse])
 hp : T.hasP = true → T.np = false
 procK : ∀ (f : Nat) (R : Type) (args : List TV) (objs : List Ob) (K : TV → List Ob → Option R), T.proc f args objs K = (T.proc f args objs (fun v l => some (v, l))).bind fun p => K p.1 p.2
 proc : ∀ (f : Nat), T.isP f = true → ProcOK P f (T.proc f) ∧ Enterable P f
def NPS (T : Tab) (W : List Gh) (st : St) : Prop := T.np = true → npSt st = true ∧ W = []
def RelN (T : Tab) (W : List Gh) (w0 : World) (st : St) (a : Act) (w : World) : Prop := Rel W w0 st a w ∧ NPS T W st
theorem np_set {l : List TV} {d : Nat} {v : TV} (h : l.all npT = true) (hv : npT v = true) : (l.set d v).all npT = true := by
 rw [List.all_eq_true] at *
 intro x hx
 rcases List.mem_or_eq_of_mem_set hx with h1 | h1
 ·exact h x h1
 ·rw [h1]; exact hv
theorem np_put {st : St} {d : Option Nat} {v : TV} (h : npSt st = true) (hv : npT v = true) : npSt (st.put d v) = true := by
 cases d with
 | none => exact h
 | some d =>
  unfold npSt at *
  rw [Bool.and_eq_true] at *
  exact ⟨np_set h.1 hv, h.2⟩
theorem np_setAt : ∀ {l : List CV} {off : Nat} {vs : List CV}, l.all npC = true → vs.all npC = true → (setAt l off vs).all npC = true
 | [], 0, [], _, _ => rfl
 | [], 0, _ :: _, _, _ => rfl
 | [], _ + 1, [], _, _ => rfl
 | [], _ + 1, _ :: _, _, _ => rfl
 | x :: l, 0, [], h, _ => h
 | x :: l, 0, v :: vs, h, hv => by
  simp only [List.all_cons, Bool.and_eq_true] at h hv
  simp only [setAt, List.all_cons, Bool.and_eq_true]
  exact ⟨hv.1, np_setAt h.2 hv.2⟩
 | x :: l, n + 1, vs, h, hv => by
  have e : setAt (x :: l) (n + 1) vs = x :: setAt l n vs := by cases vs <;> rfl
  simp only [List.all_cons, Bool.and_eq_true] at h
  rw [e, List.all_cons, Bool.and_eq_true]
  exact ⟨h.1, np_setAt h.2 hv⟩
theorem np_setO {l : List Ob} {d : Nat} {v : Ob} (h : l.all npO = true) (hv : npO v = true) : (l.set d v).all npO = true := by
 rw [List.all_eq_true] at *
 intro x hx
 rcases List.mem_or_eq_of_mem_set hx with h1 | h1
 ·exact h x h1
 ·rw [h1]; exact hv
theorem np_setOb : ∀ {u : List (Nat × Md)} {objs : List Ob}, objs.all npO = true → (u.all fun m => npM m.2) = true → (setOb objs u).all npO = true
 | [], _, h, _ => h
 | (i, .ob o) :: u, objs, h, hu => by
  simp only [List.all_cons, Bool.and_eq_true] at hu
  exact np_setOb (u := u) (np_setO h hu.1) hu.2
 | (i, .cells off vs) :: u, objs, h, hu => by
  simp only [List.all_cons, Bool.and_eq_true] at hu
  simp only [setOb]
  refine np_setOb (u := u) ?_ hu.2
  split
  ·rename_i c hc
   refine np_setO h ?_
   have : npO (.box c) = true := by
    unfold Ob.at at hc
    rw [List.getD_eq_getElem?_getD] at hc
    cases hi : objs[i]? with
    | none => rw [hi] at hc; cases hc
    | some o =>
     rw [hi] at hc
     simp only [Option.getD_some] at hc
     rw [← hc]
     exact np_get h hi
   exact np_setAt this hu.1
  ·exact h
theorem np_numb : ∀ {l : List Ob} {n : Nat}, l.all npO = true → (((numb n l).map fun p => (p.1, Md.ob p.2)).all fun m => npM m.2) = true
 | [], _, _ => rfl
 | x :: l, n, h => by
  simp only [List.all_cons, Bool.and_eq_true] at h
  simp only [numb, List.map_cons, List.all_cons, Bool.and_eq_true]
  exact ⟨h.1, np_numb h.2⟩
theorem np_ups {T : Tab} {nid : Nat} {v : TV} {new : List Ob} {mods : List (Nat × Md)} (hT : T.np = true) (h : npOK T v new mods = true) : npT v = true ∧ new.all npO = true ∧ (mods.all fun m => npM m.2) = true ∧ ((upsOf nid mods new).all fun m => npM m.2) = true := by
 unfold npOK at h
 rw [hT, Bool.not_true, Bool.false_or, Bool.and_eq_true, Bool.and_eq_true] at h
 refine ⟨h.1, h.2.1, h.2.2, ?_⟩
 unfold upsOf
 rw [List.all_append, Bool.and_eq_true]
 exact ⟨h.2.2, np_numb h.2.1⟩
theorem np_upd {st : St} {d : Option Nat} {v : TV} {u : List (Nat × Md)} (h : npSt st = true) (hv : npT v = true) (hu : (u.all fun m => npM m.2) = true) : npSt (st.upd d v u) = true := by
 unfold St.upd
 refine np_put ?_ hv
 unfold npSt at *
 rw [Bool.and_eq_true] at *
 exact ⟨h.1, np_setOb h.2 hu⟩
theorem np_step {T : Tab} {st : St} {d : Option Nat} {v : TV} {new : List Ob} {mods : List (Nat × Md)} (hT : T.np = true) (h : npSt st = true) (hn : npOK T v new mods = true) : npSt (st.step d v new mods) = true := by
 obtain ⟨h1, h2, h3, _⟩ := np_ups (nid := 0) hT hn
 unfold St.step
 refine np_put ?_ h1
 unfold npSt at *
 rw [Bool.and_eq_true] at *
 exact ⟨h.1, by rw [List.all_append, Bool.and_eq_true]; exact ⟨np_setOb h.2 h3, h2⟩⟩
theorem np_pad {st : St} {n : Nat} (h : npSt st = true) : npSt { st with objs := st.objs ++ List.replicate n .unborn } = true := by
 unfold npSt at *
 rw [Bool.and_eq_true] at *
 refine ⟨h.1, ?_⟩
 rw [List.all_append, Bool.and_eq_true]
 refine ⟨h.2, List.all_eq_true.2 (fun x hx => ?_)⟩
 rw [(List.mem_replicate.1 hx).2]; rfl
theorem put_get {st : St} {d : Nat} {v : TV} (h : st.get d = v) (hv : v ≠ .dead) : st.put (some d) v = st := by
 obtain ⟨tmps, objs⟩ := st
 unfold St.get at h
 simp only [St.put]
 have : tmps.set d v = tmps := by
  apply List.ext_getElem?
  intro i
  rw [List.getElem?_set]
  by_cases e : d = i
  ·subst e
   rw [List.getD_eq_getElem?_getD] at h
   cases hc : tmps[d]? with
   | none => rw [hc] at h; exact absurd h.symm hv
   | some x =>
    rw [hc] at h
    have hl := (List.getElem?_eq_some_iff.1 hc).1
    simp only [Option.getD_some] at h
    simp [hl, h]
  ·simp [e]
 rw [this]
section
variable {P : Program} {T : Tab} {W : List Gh} {w0 w : World} {g : List Gh} {st : St} {a : Act}
theorem own_ints {w : World} {cs : Array Value} {xs : List Int} {v : Value} {rows : List GT} (h : OwnC w (.sl (.int .i64)) cs 0 xs (.sl 1 v rows)) : cs[0]? = some v ∧ ((xs = [] ∧ v = .slice none 0 0 ∧ rows = []) ∨
  ∃ b cap cells t, v = .slice (some ⟨b, 0, none⟩) xs.length cap ∧ xs.length ≤ cap ∧ cap ≤ maxLen ∧ w.heap[b]? = some (.cells cells t (0, 0)) ∧ cells.size = cap ∧ rows.length = xs.length ∧ (∀ r ∈ rows, r = .leaf) ∧ ∀ i, i < xs.length → cells[i]? = some (.int .i64 (xs.getD i 0))) := by
 obtain ⟨v', rows', e, h1, h2⟩ := h
 injection e with _ e2 e3
 subst e2; subst e3
 refine ⟨h1, ?_⟩
 rcases h2 with h2 | ⟨b, cap, cells, t, h3, h4, h5, h6, h7, h8, h9⟩
 ·exact .inl h2
 ·refine .inr ⟨b, cap, cells, t, h3, h4, h5, h6, by simpa [CT.size] using h7, h8, fun r hr => ?_, fun i hi => ?_⟩
  ·obtain ⟨i, hi, e⟩ := List.getElem_of_mem hr
   rw [← e]
   exact (h9 i (by omega) hi).2
  ·have := (h9 i hi (by omega)).1
   simp only [CT.size, Nat.mul_one] at this
   rw [this, List.getD_eq_getElem?_getD, List.getElem?_eq_getElem hi]; rfl
theorem ints_own {w : World} {xs : List Int} {b cap : Nat} {cells : Array Value} {t : TypeId} {rows : List GT} (h4 : xs.length ≤ cap) (h5 : cap ≤ maxLen) (h6 : w.heap[b]? = some (.cells cells t (0, 0))) (h7 : cells.size = cap) (h8 : rows.length = xs.length) (hr : ∀ r ∈ rows, r = .leaf) (h9 : ∀ i, i < xs.length → cells[i]? = some (.int .i64 (xs.getD i 0))) :
  OwnC w (.sl (.int .i64)) #[.slice (some ⟨b, 0, none⟩) xs.length cap] 0 xs (.sl 1 (.slice (some ⟨b, 0, none⟩) xs.length cap) rows) := by
 refine ⟨_, rows, rfl, rfl, .inr ⟨b, cap, cells, t, rfl, h4, h5, h6, by simpa [CT.size] using h7, h8, fun i hi hi' => ⟨?_, hr _ (List.getElem_mem hi')⟩⟩⟩
 simp only [CT.size, Nat.mul_one]
 rw [h9 i hi, List.getD_eq_getElem?_getD, List.getElem?_eq_getElem hi]; rfl
theorem splice_len {α : Type} (xs : List α) (lo hi : Nat) (ys : List α) (h : hi ≤ xs.length) (h1 : lo ≤ hi) (h2 : ys.length = hi - lo) : (splice xs lo hi ys).length = xs.length := by
 unfold splice; simp; omega
theorem splice_at (xs : List Int) (lo hi : Nat) (ys : List Int) (h : hi ≤ xs.length) (h1 : lo ≤ hi) (h2 : ys.length = hi - lo) (k : Nat) : (splice xs lo hi ys).getD k 0 = if lo ≤ k ∧ k < hi then ys.getD (k - lo) 0 else xs.getD k 0 := by
 unfold splice
 simp only [List.getD_eq_getElem?_getD]
 by_cases q : k < lo
 ·rw [if_neg (by omega), List.append_assoc, List.getElem?_append_left (by simp; omega), List.getElem?_take_of_lt q]
 ·by_cases q2 : k < hi
  ·rw [if_pos (by omega), List.getElem?_append_left (by simp; omega), List.getElem?_append_right (by simp; omega)]
   congr 2; simp; omega
  ·rw [if_neg (by omega), List.getElem?_append_right (by simp; omega), List.getElem?_drop]
   congr 2; simp; omega
theorem call_rev (hR : RelG W w0 g st a w) {nid f : Nat} {o : Oper} {id i j lo hi : Nat} {ys : List Int} {vals : List Value} (hv : RepTs w (Stable w g) g [.c (.psub id i j lo hi)] vals) (hf : freezeC st.objs (.psub id i j lo hi) = some (.fz (.int .i64) ys)) (hF : RevCalls P f)
  {u : List (Nat × Md)} (hu : giveBack st.objs [.psub id i j lo hi] [.fz (.int .i64) ys.reverse] = some u) (hx : (execOp a.eval o).run P w = .ok (.enter f vals.toArray) w) : OpWp P W w0 w st a nid o (.tup []) [] u := by
 intro K Q hK
 simp only [freezeC] at hf
 split at hf
 ·rename_i r xs hob
  split at hf
  ·rename_i r' zs hcell
   simp only [Option.some.injEq, CV.fz.injEq] at hf
   obtain ⟨e1, e2⟩ := hf
   subst e1
   have e2 := eq_of_heq e2
   simp only [giveBack, hob, hcell] at hu
   have hcast : cast? (.int .i64) (.int .i64) ys.reverse = some ys.reverse := rfl
   rw [hcast] at hu
   simp only at hu
   split at hu
   ·rename_i y hy
    injection hu with hu
    subst hu
    obtain ⟨hd, rows, h1, h2⟩ := row_at hR.ob hob
    obtain ⟨val, vm, e3, hrep, hnil⟩ : ∃ val vm, vals = val :: vm ∧ RepC w (Stable w g) g (.psub id i j lo hi) val ∧ RepTs w (Stable w g) g [] vm := by
     cases vals with
     | nil => exact hv.elim
     | cons val vm => exact ⟨val, vm, rfl, hv.1, hv.2⟩
    have hvm : vm = [] := by cases vm with | nil => rfl | cons _ _ => exact hnil.elim
    subst hvm
    subst e3
    simp only [RepC, h1] at hrep
    obtain ⟨t0, sz, uh, rr, h3, h4, h5, h6, h7⟩ := hrep
    obtain ⟨b0, cap0, cells0, ty0, h8, h9, h10, h11⟩ := OwnC_row h2 h3
    obtain ⟨h12, h13⟩ := OwnC_at h11 h4 hcell
    have hsz : sz = 1 := h12
    subst hsz
    have hlen := (OwnC_header h13).1
    obtain ⟨_, h14⟩ := own_ints h13
    have hwin : ys.length = hi - lo := by rw [← e2, win_length _ _ _ (by omega)]
    have hrow := nodup_of hR.nd h1
    simp only [Gh.blocks] at hrow
    have hputrow := fun (w' : World) (hz : OwnC w' (.sl (.int .i64)) #[uh] 0 (splice zs lo hi ys.reverse) (.sl 1 uh rr)) (hk : ∀ b ∈ (GT.sl r.size hd rows).blocks, b ∉ (GT.sl 1 uh rr).blocks → w'.heap[b]? = w.heap[b]?) => OwnC_putrow (w' := w') h2 h3 h4 hy hz hrow hk
    have hsubb : ∀ b ∈ (GT.sl 1 uh rr).blocks, b ∈ allB g := fun b hb => by
     have : b ∈ t0.blocks := by rw [← h4] at hb; exact at_blocks hb
     exact allB_mem h1 (by simp only [Gh.blocks, GT.blocks, List.mem_append]; exact .inr (blocksL_mem (List.mem_of_getElem? h3) this))
    have fin : ∀ (w' : World) (B : List Nat), Keep B w w' → (∀ b ∈ B, b ∈ (GT.sl 1 uh rr).blocks) → OwnC w' (.sl (.int .i64)) #[uh] 0 (splice zs lo hi ys.reverse) (.sl 1 uh rr) → K (a.put o.dst (.tuple #[])) w' := by
     intro w' B hKp hB hz
     have hS : ∀ b, Stable w g b → Stable w' g b ∧ w'.heap[b]? = w.heap[b]? := fun b hb => ⟨⟨Nat.lt_of_lt_of_le hb.1 hKp.size, hb.2⟩, hKp.block b hb.1 (fun h => hb.2 (hsubb b (hB b h)))⟩
     have hob' : ObsOK w' (Stable w' g) g (st.objs.set id (.row r (xs.set i y))) g := by
      refine ObsOK_but hS (GExt.refl g) hR.ob (by simp [ObsOK_length hR.ob]) (fun k o' x' q1 q2 => ?_)
      by_cases e : id = k
      ·subst e
       right
       rw [List.getElem?_set_self (by rw [ObsOK_length hR.ob]; exact (List.getElem?_eq_some_iff.1 h1).1)] at q1
       rw [h1] at q2
       injection q1 with q1; injection q2 with q2
       subst q1; subst q2
       exact ⟨hd, rows, rfl, hputrow w' hz (fun b hb hbn => hKp.block b (hR.own b (allB_mem h1 hb)).1 (fun h => hbn (hB b h)))⟩
      ·left
       rw [List.getElem?_set_ne e] at q1
       refine ⟨q1, q2, fun b hb => hKp.block b (hR.own b (allB_mem q2 hb)).1 (fun h => ?_)⟩
       have hbt : b ∈ t0.blocks := by have := hB b h; rw [← h4] at this; exact at_blocks this
       exact nodup_apart hR.nd e h1 q2 b (by simp only [Gh.blocks, GT.blocks, List.mem_append]; exact .inr (blocksL_mem (List.mem_of_getElem? h3) hbt)) hb
     have hown : ∀ b ∈ allB g, b < w'.heap.size ∧ (w0.heap.size ≤ b ∨ b ∈ allB W) := fun b hb => ⟨Nat.lt_of_lt_of_le (hR.own b hb).1 hKp.size, (hR.own b hb).2⟩
     have hkeep : Keep (allB W) w0 w' := keep_own hR hKp.os hKp.tape hKp.output hKp.size (fun b hb hbn => hKp.block b hb (fun h => hbn (hsubb b (hB b h))))
     have hfin := rel_change hR (GExt.refl g) hS hob' hR.nd hown hkeep o.dst (v := .tup []) (u := .tuple #[]) ⟨[], rfl, trivial⟩
     exact hK (.tuple #[]) w' g hfin
    unfold Oper.wp
    rw [hx]
    rcases h14 with ⟨q1, q2, q3⟩ | ⟨b, cap, cells, t, q1, q2, q3, q4, q5, q6, q7, q8⟩
    ·subst q1; subst q2; subst q3
     have hl0 : hi = 0 := by simp [lenV] at h7; exact h7
     have hl1 : lo = 0 := by omega
     subst hl0; subst hl1
     have ev : val = .slice none 0 0 := by rw [h5]; rfl
     subst ev
     have e4 : ys = [] := by rw [← e2]; rfl
     refine Calls.mono (hF.empty none 0 w) (fun e w' h => ?_)
     obtain ⟨rfl, hk⟩ := h
     refine fin w' [] hk (by simp) ?_
     rw [e4]
     exact OwnC_frame (fun b hb => by simp [GT.blocks, GT.blocksL, blockOf] at hb) h13
    ·subst q1
     simp only [lenV] at hlen h7
     have hb1 : (GT.sl 1 (Value.slice (some ⟨b, 0, none⟩) zs.length cap) rr).blocks = [b] := by
      have : ∀ (l : List GT), (∀ r ∈ l, r = .leaf) → GT.blocksL l = [] := by
       intro l
       induction l with
       | nil => intro _; rfl
       | cons x l ih =>
        intro h
        rw [h x (by simp)]
        simp only [GT.blocksL, GT.blocks, ih (fun r hr => h r (by simp [hr])), List.append_nil]
      simp [GT.blocks, blockOf, this rr q7]
     by_cases hz : ys.length = 0
     ·have ev : ∃ a cap', val = .slice a 0 cap' := ⟨_, _, by rw [h5]; simp only [winV]; rw [show hi - lo = 0 by omega]⟩
      obtain ⟨a', cap', ev⟩ := ev
      subst ev
      have e4 : ys = [] := List.eq_nil_of_length_eq_zero hz
      refine Calls.mono (hF.empty a' cap' w) (fun e w' h => ?_)
      obtain ⟨rfl, hk⟩ := h
      refine fin w' [] hk (by simp) ?_
      have e5 : splice zs lo hi ys.reverse = zs := by
       have : lo = hi := by omega
       rw [e4, this]
       simp [splice]
      rw [e5]
      exact OwnC_frame (fun c hc => hk.block c (by rw [hb1] at hc; simp at hc; subst hc; exact (Array.getElem?_eq_some_iff.1 q4).1) (by simp)) h13
     ·have hcl : cap ≠ lo := by omega
      have ev : val = .slice (some ⟨b, lo, none⟩) ys.length (cap - lo) := by
       rw [h5]
       simp only [winV, if_neg hcl, Nat.mul_one, Option.map_some, Addr.add, hwin]
       simp <;> omega
      subst ev
      have hys : ∀ k, k < ys.length → ys.getD k 0 = zs.getD (lo + k) 0 := fun k hk => by
       rw [← e2] at hk ⊢
       rw [List.getD_eq_getElem?_getD, List.getElem?_eq_getElem hk, Option.getD_some, win_get _ _ _ _ hk (by rw [win_length _ _ _ (by omega)] at hk; omega), List.getD_eq_getElem?_getD, List.getElem?_eq_getElem (by rw [win_length _ _ _ (by omega)] at hk; omega), Option.getD_some]
      refine Calls.mono (hF.full ys b lo (cap - lo) cells t w (by omega) (by omega) q4 (fun k hk => by rw [q8 (lo + k) (by omega), hys k hk])) (fun e w' h => ?_)
      obtain ⟨rfl, hk, cells', p1, p2, p3⟩ := h
      refine fin w' [b] hk (fun c hc => by rw [hb1]; exact hc) ?_
      have hsl := splice_len zs lo hi ys.reverse (by omega) (by omega) (by simpa using hwin)
      have := ints_own (w := w') (xs := splice zs lo hi ys.reverse) (b := b) (cap := cap) (cells := cells') (t := t) (rows := rr) (by omega) q3 p1 (by omega) (by omega) q7 (fun k hk' => by
       rw [p3, splice_at _ _ _ _ (by omega) (by omega) (by simpa using hwin)]
       by_cases q9 : lo ≤ k ∧ k < hi
       ·rw [if_pos (by omega), if_pos q9]
       ·rw [if_neg (by omega), if_neg q9]
        exact q8 k (by omega))
      rw [hsl] at this
      exact this
   ·cases hu
  ·cases hf
 ·cases hf
theorem step_ok (hT : TabFn P T) (hR : RelG W w0 g st a w) (hnp : NPS T W st) {nid : Nat} {o : Oper} {v : TV} {new : List Ob} {mods : List (Nat × Md)} (hn : ∀ k, k < new.length → g[nid + k]? = some .unborn)
  (h : opSem T st nid o pk = some (v, new, mods)) : OpWp P W w0 w st a nid o v new mods := by
 by_cases hnc : NoCall o
 ·exact opWp_of (op_ok hT.toTabOK hR hnp hn hnc h)
 ·have : ∃ args ts x, o.op = .call ⟨.value x, args, ts⟩ := by
   unfold NoCall at hnc
   rw [Classical.not_forall] at hnc
   obtain ⟨c, hnc⟩ := hnc
   rw [Classical.not_forall] at hnc
   obtain ⟨x, hnc⟩ := hnc
   rw [Classical.not_imp, Classical.not_not] at hnc
   obtain ⟨callee, args, ts⟩ := c
   simp only at hnc
   exact ⟨args, ts, x, by rw [hnc.1, hnc.2]⟩
  obtain ⟨args, ts, x, ho⟩ := this
  unfold opSem at h
  simp only [ho] at h
  split at h
  ·rename_i f caps hx
   have hxr := opd_rep (T := T) hR.tm o.type x
   rw [hx] at hxr
   obtain ⟨us, hus, hcaps⟩ := hxr
   split at h
   ·rename_i vs back hlend
    split at h
    ·rename_i hc
     rw [Bool.and_eq_true, beq_iff_eq] at hc
     obtain ⟨hd, hsz⟩ := hc
     rw [hT.leaf f] at h
     cases hcall : T.call f (trimA T vs ts.toList) (fun v m => some (v, m)) with
     | none => rw [hcall] at h; cases h
     | some p =>
      obtain ⟨res, m⟩ := p
      rw [hcall] at h
      simp only [Option.bind_some] at h
      split at h
      ·rename_i hz
       split at h
       ·rename_i u hu
        have hvals := RepTs_append (args_rep (T := T) hR args.toList ts.toList (by simpa using hsz)) (caps_rep hcaps)
        cases hrev : T.rev f with
        | true =>
         obtain ⟨hF, ys, ha, hp⟩ := hT.rev f _ _ hrev hcall
         have hexec := exec_call (w := w) ho hus hF.enter
         unfold lendX at hlend
         rw [if_pos hrev] at hlend
         obtain ⟨rfl, rfl⟩ := Prod.mk.inj hp
         rw [if_neg (by rw [hrev]; simp)] at h
         obtain ⟨rfl, rfl, rfl⟩ := pk_inj h
         split at hlend
         ·rename_i id i j lo hi hargs
          split at hlend
          ·rename_i r ys' hfz
           injection hlend with hlend
           obtain ⟨rfl, rfl⟩ := Prod.mk.inj hlend
           have htrim : trimA T [TV.c (.new r ys')] ts.toList = [.c (.new r ys')] := by
            cases ts.toList with
            | nil => rfl
            | cons x l => cases l <;> rfl
           rw [htrim] at ha
           injection ha with ha _
           injection ha with ha
           injection ha with e1 e2
           subst e1
           have e2 := eq_of_heq e2
           subst e2
           rw [hargs] at hvals
           exact call_rev hR hvals hfz hF hu hexec
          ·cases hlend
         ·cases hlend
        | false =>
         have hF := hT.fn f _ _ hrev hcall
         have hexec := exec_call (w := w) ho hus hF.2
         unfold lendX at hlend
         rw [hrev] at hlend
         simp only [Bool.false_eq_true, if_false] at hlend
         split at hlend
         ·rename_i hwr
          rw [if_neg (by rw [hwr]; simp)] at h
          obtain ⟨rfl, rfl, rfl⟩ := pk_inj h
          exact call_lend hT.leaf hR hvals hlend ts.toList hcall hF hz hu (nodupB_iff hd) hn hexec
         ·split at hlend
          ·rename_i us' hfz
           injection hlend with hlend
           obtain ⟨rfl, rfl⟩ := Prod.mk.inj hlend
           have : u = [] := by
            cases m with
            | nil => simpa [giveBack] using hu.symm
            | cons _ _ => simp [giveBack] at hu
           subst this
           split at h
           ·rename_i v' hv'
            have hv2 : frzT res = some v' := by
             split at hv'
             ·exact hv'
             ·cases hv'
            obtain ⟨rfl, rfl, rfl⟩ := pk_inj h
            exact call_frz hT.leaf hR hvals hfz ts.toList hcall hF hv2 hexec
           ·obtain ⟨rfl, rfl, rfl⟩ := pk_inj h
            exact call_read hT.leaf hR hvals hfz ts.toList hcall hF hz hn hexec
          ·cases hlend
       ·cases h
      ·cases h
    ·cases h
   ·cases h
  ·cases h
end
end Go.Proofs.YtgcioclfplafkaaGreatV
end

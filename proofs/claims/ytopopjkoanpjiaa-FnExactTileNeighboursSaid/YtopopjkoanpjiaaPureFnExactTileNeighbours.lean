/- FnExactTileNeighbours: the program's TileNeighbours returns what the reference's returns, for all arguments; no condition. -/
import Derived.Test.YtopopjkoanpjiaaGFnExactTileNeighboursx
namespace Go.Proofs.Ytopopjkoanpjiaa.Pure
open Go.RowKit Go.Proofs.Ytopopjkoanpjiaa.GFnExactTileNeighbours Go.Proofs.YtopopjkoanpjiaaW.PrintWords Go.Proofs.YtopopjkoanpjiaaW.PrintLast
set_option linter.unusedSimpArgs false
set_option linter.unusedVariables false

theorem w64 {x : Int} (h0 : -9223372036854775808 ≤ x) (h1 : x ≤ 9223372036854775807) : wrap64 x = x := by
  unfold wrap64; omega

theorem within_eq (a b c : Int) : impl_within.f a b c = some (decide (b ≤ a ∧ a ≤ c)) := by
  unfold impl_within.f
  by_cases h : a ≥ b
  · rw [if_pos h]; simp [h]
  · rw [if_neg h]; simp; omega

theorem l00In_eq (a b c : Int) : spec_l00In.f a b c = some (decide (b ≤ a ∧ a ≤ c)) := by
  unfold spec_l00In.f
  by_cases h : a ≥ b
  · rw [if_pos h]; simp [h]
  · rw [if_neg h]; simp; omega

/-- a loop over a list: from one state to the next, or out of it -/
def run {α σ β : Type} (st : σ → α → Nat → σ ⊕ β) (en : σ → β) : List α → σ → Nat → β
  | [], s, _ => en s
  | x :: xs, s, i => match st s x i with
    | .inl s' => run st en xs s' (i + 1)
    | .inr r => r

theorem loop_run {α σ β : Type} (xs : List α) (K0 : Nat) (Inv : σ → Nat → Prop) (L : Nat → σ → Int → Option β) (st : σ → α → Nat → σ ⊕ β) (en : σ → β)
    (hs : ∀ (k : Nat) (s : σ) (i : Nat) (h : i < xs.length), K0 ≤ k → Inv s i →
      (∃ s', st s xs[i] i = .inl s' ∧ Inv s' (i + 1) ∧ L (k + 1) s (i : Int) = L k s' ((i + 1 : Nat) : Int)) ∨ (∃ r, st s xs[i] i = .inr r ∧ L (k + 1) s (i : Int) = some r))
    (he : ∀ (k : Nat) (s : σ), K0 ≤ k → Inv s xs.length → L (k + 1) s (xs.length : Int) = some (en s)) :
    ∀ (n i k : Nat) (s : σ), i + n = xs.length → K0 + n < k → Inv s i → L k s (i : Int) = some (run st en (xs.drop i) s i) := by
  intro n
  induction n with
  | zero =>
    intro i k s hi hk hI
    obtain ⟨k, rfl⟩ : ∃ m, k = m + 1 := ⟨k - 1, by omega⟩
    obtain rfl : i = xs.length := by omega
    rw [he k s (by omega) hI, List.drop_length]; rfl
  | succ n ih =>
    intro i k s hi hk hI
    obtain ⟨k, rfl⟩ : ∃ m, k = m + 1 := ⟨k - 1, by omega⟩
    have hlt : i < xs.length := by omega
    rw [List.drop_eq_getElem_cons hlt]
    rcases hs k s i hlt (by omega) hI with ⟨s', h1, h2, h3⟩ | ⟨r, h1, h3⟩
    · rw [h3, ih (i + 1) k s' (by omega) (by omega) h2]
      simp only [run, h1]
    · rw [h3]
      simp only [run, h1]

theorem loop_run0 {α σ β : Type} (xs : List α) (K0 : Nat) (Inv : σ → Nat → Prop) (L : Nat → σ → Int → Option β) (st : σ → α → Nat → σ ⊕ β) (en : σ → β)
    (hs : ∀ (k : Nat) (s : σ) (i : Nat) (h : i < xs.length), K0 ≤ k → Inv s i →
      (∃ s', st s xs[i] i = .inl s' ∧ Inv s' (i + 1) ∧ L (k + 1) s (i : Int) = L k s' ((i + 1 : Nat) : Int)) ∨ (∃ r, st s xs[i] i = .inr r ∧ L (k + 1) s (i : Int) = some r))
    (he : ∀ (k : Nat) (s : σ), K0 ≤ k → Inv s xs.length → L (k + 1) s (xs.length : Int) = some (en s)) (k : Nat) (s : σ) (hk : K0 + xs.length < k) (hI : Inv s 0) :
    L k s 0 = some (run st en xs s 0) := by
  have := loop_run xs K0 Inv L st en hs he xs.length 0 k s (by omega) hk hI
  simpa using this

/-- a row that is made and then filled, element by element -/
theorem loop_map {α β : Type} (xs : List α) (z : β) (c : α → β) (L : Nat → List β → Int → Option (List β))
    (hs : ∀ (k : Nat) (s : List β) (i : Nat) (h : i < xs.length), s.length = xs.length → L (k + 1) s (i : Int) = L k (s.set i (c xs[i])) ((i + 1 : Nat) : Int))
    (he : ∀ (k : Nat) (s : List β), L (k + 1) s (xs.length : Int) = some s) (k : Nat) (hk : xs.length < k) :
    L k (List.replicate xs.length z) 0 = some (xs.map c) := by
  have key : ∀ (n i k : Nat) (s : List β), i + n = xs.length → n < k → s.length = xs.length → s.take i = (xs.map c).take i → L k s (i : Int) = some (xs.map c) := by
    intro n
    induction n with
    | zero =>
      intro i k s hi hk hl ht
      obtain ⟨k, rfl⟩ : ∃ m, k = m + 1 := ⟨k - 1, by omega⟩
      obtain rfl : i = xs.length := by omega
      have h1 : s.take xs.length = s := List.take_of_length_le (by omega)
      rw [he, ← h1, ht, List.take_of_length_le (by simp)]
    | succ n ih =>
      intro i k s hi hk hl ht
      obtain ⟨k, rfl⟩ : ∃ m, k = m + 1 := ⟨k - 1, by omega⟩
      have hlt : i < xs.length := by omega
      rw [hs k s i hlt hl]
      refine ih (i + 1) k _ (by omega) (by omega) (by rw [List.length_set]; exact hl) ?_
      rw [List.take_succ_eq_append_getElem (by rw [List.length_set]; omega), List.take_succ_eq_append_getElem (by rw [List.length_map]; omega), List.take_set_of_le (by omega), ht]
      simp
  have := key xs.length 0 k (List.replicate xs.length z) (by omega) hk (by simp) (by simp)
  simpa using this

theorem wnat {n : Nat} (h : n < 9223372036854775807) : wrap64 ((n : Int) + 1) = ((n + 1 : Nat) : Int) := by
  unfold wrap64; omega

theorem loop_all {β : Type} (n K0 : Nat) (L : Nat → Int → Option β) (r : β) (hs : ∀ (k i : Nat), K0 ≤ k → i < n → L (k + 1) (i : Int) = L k ((i + 1 : Nat) : Int)) (he : ∀ k : Nat, L (k + 1) (n : Int) = some r)
    (k : Nat) (hk : K0 + n < k) : L k 0 = some r := by
  have key : ∀ (m i k : Nat), i + m = n → K0 + m < k → L k (i : Int) = some r := by
    intro m
    induction m with
    | zero =>
      intro i k hi hk
      obtain ⟨k, rfl⟩ : ∃ m, k = m + 1 := ⟨k - 1, by omega⟩
      obtain rfl : i = n := by omega
      exact he k
    | succ m ih =>
      intro i k hi hk
      obtain ⟨k, rfl⟩ : ∃ m, k = m + 1 := ⟨k - 1, by omega⟩
      rw [hs k i (by omega) (by omega)]
      exact ih (i + 1) k (by omega) (by omega)
  simpa using key n 0 k (by omega) hk

theorem all_from {α β : Type} (xs : List α) (K0 : Nat) (p : α → Bool) (r0 r1 : β) (L : Nat → Int → Option β)
    (hs : ∀ (k i : Nat) (h : i < xs.length), K0 ≤ k → L (k + 1) (i : Int) = if p xs[i] = true then L k ((i + 1 : Nat) : Int) else some r0)
    (he : ∀ k : Nat, K0 ≤ k → L (k + 1) (xs.length : Int) = some r1) : ∀ (n i k : Nat), i + n = xs.length → K0 + n < k → L k (i : Int) = some (if (xs.drop i).all p = true then r1 else r0) := by
  intro n
  induction n with
  | zero =>
    intro i k hi hk
    obtain ⟨k, rfl⟩ : ∃ m, k = m + 1 := ⟨k - 1, by omega⟩
    obtain rfl : i = xs.length := by omega
    rw [he k (by omega), List.drop_length]; rfl
  | succ n ih =>
    intro i k hi hk
    obtain ⟨k, rfl⟩ : ∃ m, k = m + 1 := ⟨k - 1, by omega⟩
    have hlt : i < xs.length := by omega
    rw [hs k i hlt (by omega), List.drop_eq_getElem_cons hlt, List.all_cons]
    cases hp : p xs[i] with
    | true => rw [if_pos rfl, ih (i + 1) k (by omega) (by omega), Bool.true_and]
    | false => simp

theorem all_loop {α β : Type} (xs : List α) (K0 : Nat) (p : α → Bool) (r0 r1 : β) (L : Nat → Int → Option β)
    (hs : ∀ (k i : Nat) (h : i < xs.length), K0 ≤ k → L (k + 1) (i : Int) = if p xs[i] = true then L k ((i + 1 : Nat) : Int) else some r0)
    (he : ∀ k : Nat, K0 ≤ k → L (k + 1) (xs.length : Int) = some r1) (k : Nat) (hk : K0 + xs.length < k) : L k 0 = some (if xs.all p = true then r1 else r0) := by
  simpa using all_from xs K0 p r0 r1 L hs he xs.length 0 k (by omega) hk

theorem idx_from {α : Type} (xs : List α) (K0 : Nat) (q : α → Bool) (L : Nat → Int → Option Int)
    (hs : ∀ (k i : Nat) (h : i < xs.length), K0 ≤ k → L (k + 1) (i : Int) = if q xs[i] = true then some (i : Int) else L k ((i + 1 : Nat) : Int))
    (he : ∀ k : Nat, K0 ≤ k → L (k + 1) (xs.length : Int) = some (-1)) : ∀ (n i k : Nat), i + n = xs.length → K0 + n < k → ∃ r, L k (i : Int) = some r ∧ decide (r ≥ 0) = (xs.drop i).any q := by
  intro n
  induction n with
  | zero =>
    intro i k hi hk
    obtain ⟨k, rfl⟩ : ∃ m, k = m + 1 := ⟨k - 1, by omega⟩
    obtain rfl : i = xs.length := by omega
    exact ⟨-1, he k (by omega), by rw [List.drop_length]; rfl⟩
  | succ n ih =>
    intro i k hi hk
    obtain ⟨k, rfl⟩ : ∃ m, k = m + 1 := ⟨k - 1, by omega⟩
    have hlt : i < xs.length := by omega
    rw [hs k i hlt (by omega), List.drop_eq_getElem_cons hlt, List.any_cons]
    cases hp : q xs[i] with
    | true => exact ⟨i, by rw [if_pos rfl], by simp⟩
    | false =>
      obtain ⟨r, h1, h2⟩ := ih (i + 1) k (by omega) (by omega)
      exact ⟨r, by rw [if_neg (by simp)]; exact h1, by rw [h2]; simp⟩

theorem idx_loop {α : Type} (xs : List α) (K0 : Nat) (q : α → Bool) (L : Nat → Int → Option Int)
    (hs : ∀ (k i : Nat) (h : i < xs.length), K0 ≤ k → L (k + 1) (i : Int) = if q xs[i] = true then some (i : Int) else L k ((i + 1 : Nat) : Int))
    (he : ∀ k : Nat, K0 ≤ k → L (k + 1) (xs.length : Int) = some (-1)) (k : Nat) (hk : K0 + xs.length < k) : ∃ r, L k 0 = some r ∧ decide (r ≥ 0) = xs.any q := by
  simpa using idx_from xs K0 q L hs he xs.length 0 k (by omega) hk

theorem any_not {α : Type} (l : List α) (p : α → Bool) : l.any (fun x => !p x) = !l.all p := by
  induction l with
  | nil => rfl
  | cons x l ih => rw [List.any_cons, List.all_cons, ih]; cases p x <;> simp

theorem rdi (xs : List Int) (i : Nat) (h : i < xs.length) : rd xs (i : Int) = xs[i] := by
  unfold rd; simp [List.getD, h]

theorem eqInt64S_eq (l : List Int) (hl : l.length ≤ 1048576) (k : Nat) (hk : l.length < k) : laws_eqInt64S.f k l l = some true := by
  unfold laws_eqInt64S.f
  rw [if_pos rfl]
  refine loop_all l.length 0 (fun k i => laws_eqInt64S.l0 k l l i) true ?_ ?_ k (by omega)
  · intro k i _ h
    simp only [laws_eqInt64S.l0]
    rw [if_pos (by omega), if_pos (by omega), if_pos (by omega), wnat (by omega)]; simp
  · intro k
    simp only [laws_eqInt64S.l0]
    rw [if_neg (by omega)]

theorem toInt64S_eq (l : List Int) (hl : l.length ≤ 1048576) (k : Nat) (hk : l.length < k) : laws_toInt64S.f k l = some l := by
  unfold laws_toInt64S.f
  rw [if_pos (by omega), if_pos (by omega), show ((l.length : Int)).toNat = l.length by omega]
  have := loop_map l (0 : Int) (fun x => x) (fun k s i => laws_toInt64S.l0 k l s i) (by
    intro k s i h hs
    simp only [laws_toInt64S.l0]
    rw [if_pos (by omega), if_pos (by omega), if_pos (by omega), rdi l i h, wnat (by omega)]
    rfl) (by
    intro k s
    simp only [laws_toInt64S.l0]
    rw [if_neg (by omega)]) k hk
  simpa using this

theorem szTiling_eq (a b : Int) (l : List Int) (hl : l.length ≤ maxLen) : laws_szTiling.f a b l 1048576 = some (if (1048576 : Int) < l.length then (-1 : Int) else 1048576 - (l.length : Int)) := by
  unfold maxLen at hl
  unfold laws_szTiling.f laws_szInt64S.f
  rw [w64 (x := 1048576 - (l.length : Int)) (by omega) (by omega)]
  by_cases h : (1048576 : Int) < l.length
  · rw [if_pos h, if_pos (by omega)]; rfl
  · rw [if_neg h, if_neg (by omega)]
    simp only [Option.bind_some]
    rw [if_neg (by omega)]
theorem toTiling_eq (a b : Int) (l : List Int) (hl : l.length ≤ 1048576) (k : Nat) (hk : l.length < k) : laws_toTiling.f k a b l = some (a, b, l) := by
  unfold laws_toTiling.f
  rw [toInt64S_eq l hl k hk]; rfl
theorem eqTiling_eq (a b : Int) (l : List Int) (hl : l.length ≤ 1048576) (k : Nat) (hk : l.length < k) : laws_eqTiling.f k a b l a b l = some true := by
  unfold laws_eqTiling.f
  simp [eqInt64S_eq l hl k hk]

/-- a cell is put behind the others, if it is of the tile and not among them -/
def push (p : Int → Bool) (q : List Int) (c : Int) : List Int := if p c = true ∧ c ∉ q then q ++ [c] else q

theorem push_mem (p : Int → Bool) (q : List Int) (c x : Int) : x ∈ push p q c ↔ x ∈ q ∨ (x = c ∧ p x = true) := by
  unfold push
  split
  · rename_i h
    rw [List.mem_append, List.mem_singleton]
    constructor
    · rintro (h1 | rfl)
      · exact Or.inl h1
      · exact Or.inr ⟨rfl, h.1⟩
    · rintro (h1 | ⟨rfl, _⟩)
      · exact Or.inl h1
      · exact Or.inr rfl
  · rename_i h
    constructor
    · exact Or.inl
    · rintro (h1 | ⟨rfl, h2⟩)
      · exact h1
      · exact Decidable.byContradiction fun h3 => h ⟨h2, h3⟩

theorem push_nodup (p : Int → Bool) (q : List Int) (c : Int) (h : q.Nodup) : (push p q c).Nodup := by
  unfold push
  split
  · rename_i hc
    rw [List.nodup_append]
    refine ⟨h, by simp, ?_⟩
    intro a ha b hb
    rw [List.mem_singleton] at hb
    subst hb
    intro he
    subst he
    exact hc.2 ha
  · exact h

theorem push_prefix (p : Int → Bool) (q : List Int) (c : Int) : ∃ t, push p q c = q ++ t := by
  unfold push
  split
  · exact ⟨_, rfl⟩
  · exact ⟨[], by simp⟩

def pushes (p : Int → Bool) (q cs : List Int) : List Int := cs.foldl (push p) q

theorem pushes_mem (p : Int → Bool) (cs : List Int) : ∀ (q : List Int) (x : Int), x ∈ pushes p q cs ↔ x ∈ q ∨ (x ∈ cs ∧ p x = true) := by
  induction cs with
  | nil => intro q x; simp [pushes]
  | cons c cs ih =>
    intro q x
    show x ∈ pushes p (push p q c) cs ↔ _
    rw [ih, push_mem, List.mem_cons]
    constructor
    · rintro ((h | h) | h)
      · exact Or.inl h
      · exact Or.inr ⟨Or.inl h.1, h.2⟩
      · exact Or.inr ⟨Or.inr h.1, h.2⟩
    · rintro (h | ⟨h | h, h2⟩)
      · exact Or.inl (Or.inl h)
      · exact Or.inl (Or.inr ⟨h, h2⟩)
      · exact Or.inr ⟨h, h2⟩

theorem pushes_nodup (p : Int → Bool) (cs : List Int) : ∀ (q : List Int), q.Nodup → (pushes p q cs).Nodup := by
  induction cs with
  | nil => intro q h; exact h
  | cons c cs ih => intro q h; exact ih _ (push_nodup p q c h)

theorem pushes_prefix (p : Int → Bool) (cs : List Int) : ∀ (q : List Int), ∃ t, pushes p q cs = q ++ t := by
  induction cs with
  | nil => intro q; exact ⟨[], by simp [pushes]⟩
  | cons c cs ih =>
    intro q
    obtain ⟨t, ht⟩ := push_prefix p q c
    obtain ⟨u, hu⟩ := ih (push p q c)
    exact ⟨t ++ u, by show pushes p (push p q c) cs = _; rw [hu, ht, List.append_assoc]⟩

/-- the cells that hang together with the first -/
inductive Reach (p : Int → Bool) (nb : Int → List Int) (first : Int) : Int → Prop
  | base : Reach p nb first first
  | step {x c : Int} : Reach p nb first x → c ∈ nb x → p c = true → Reach p nb first c

theorem Reach.other {p : Int → Bool} {nb nb2 : Int → List Int} {first : Int} (h : ∀ x c, c ∈ nb x → c ∈ nb2 x) {x : Int} (hr : Reach p nb first x) : Reach p nb2 first x := by
  induction hr with
  | base => exact Reach.base
  | step _ hc hp ih => exact Reach.step ih (h _ _ hc) hp

/-- what holds of the cells that were met, of which i have been looked at -/
structure Met (p : Int → Bool) (nb : Int → List Int) (first : Int) (q : List Int) (i : Nat) : Prop where
  nd : q.Nodup
  hf : first ∈ q
  hr : ∀ x ∈ q, Reach p nb first x
  hc : ∀ (j : Nat) (h : j < q.length), j < i → ∀ c ∈ nb q[j], p c = true → c ∈ q
  hi : i ≤ q.length

theorem Met.start (p : Int → Bool) (nb : Int → List Int) (first : Int) : Met p nb first [first] 0 :=
  ⟨by simp, by simp, fun x hx => by rw [List.mem_singleton] at hx; subst hx; exact Reach.base, fun j h hj => by omega, by simp⟩

theorem Met.next {p : Int → Bool} {nb : Int → List Int} {first : Int} {q : List Int} {i : Nat} (m : Met p nb first q i) (h : i < q.length) : Met p nb first (pushes p q (nb q[i])) (i + 1) := by
  obtain ⟨t, ht⟩ := pushes_prefix p (nb q[i]) q
  have hl : q.length ≤ (pushes p q (nb q[i])).length := by rw [ht, List.length_append]; omega
  refine ⟨pushes_nodup p _ q m.nd, (pushes_mem p _ q first).2 (Or.inl m.hf), ?_, ?_, by omega⟩
  · intro x hx
    rcases (pushes_mem p _ q x).1 hx with h1 | ⟨h1, h2⟩
    · exact m.hr x h1
    · exact Reach.step (m.hr _ (List.getElem_mem h)) h1 h2
  · intro j hj hji c hc hp
    have hjq : j < q.length := by omega
    have e : (pushes p q (nb q[i]))[j] = q[j] := by
      simp only [ht]
      exact List.getElem_append_left hjq
    rw [e] at hc
    by_cases hji2 : j < i
    · exact (pushes_mem p _ q c).2 (Or.inl (m.hc j hjq hji2 c hc hp))
    · obtain rfl : j = i := by omega
      exact (pushes_mem p _ q c).2 (Or.inr ⟨hc, hp⟩)

theorem Met.last {p : Int → Bool} {nb : Int → List Int} {first : Int} {q : List Int} (m : Met p nb first q q.length) (x : Int) : x ∈ q ↔ Reach p nb first x := by
  refine ⟨m.hr x, fun h => ?_⟩
  induction h with
  | base => exact m.hf
  | step _ hc hp ih =>
    obtain ⟨j, hj, e⟩ := List.getElem_of_mem ih
    exact m.hc j hj hj _ (by rw [e]; exact hc) hp

theorem Met.same {p : Int → Bool} {nb nb2 : Int → List Int} {first : Int} {q q2 : List Int} (m : Met p nb first q q.length) (m2 : Met p nb2 first q2 q2.length) (h : ∀ x c, c ∈ nb x ↔ c ∈ nb2 x) : q.length = q2.length := by
  refine ((List.perm_ext_iff_of_nodup m.nd m2.nd).2 fun x => ?_).length_eq
  rw [m.last, m2.last]
  exact ⟨Reach.other fun x c => (h x c).1, Reach.other fun x c => (h x c).2⟩

/-- no more cells are met than there are -/
theorem Met.few {p : Int → Bool} {nb : Int → List Int} {first : Int} {q : List Int} {i : Nat} (m : Met p nb first q i) (N : Nat) (hin : ∀ x ∈ q, 0 ≤ x ∧ x < (N : Int)) : q.length ≤ N := by
  have := List.Nodup.length_le_of_subset m.nd (l₂ := (List.range N).map fun (n : Nat) => (n : Int)) (fun x hx => by
    obtain ⟨h0, h1⟩ := hin x hx
    exact List.mem_map.2 ⟨x.toNat, List.mem_range.2 (by omega), by omega⟩)
  simpa using this

theorem mul12 {a b : Int} (ha : 1 ≤ a ∧ a ≤ 12) (hb : 1 ≤ b ∧ b ≤ 12) : 1 ≤ a * b ∧ a * b ≤ 144 := by
  have h1 : (1 : Int) * 1 ≤ a * b := Int.mul_le_mul ha.1 hb.1 (by omega) (by omega)
  have h2 : a * b ≤ (12 : Int) * 12 := Int.mul_le_mul ha.2 hb.2 (by omega) (by omega)
  omega

/-- the rest of a division, from 0 on, as the program and the reference both reckon it -/
theorem rest_emod {x a : Int} (ha : 1 ≤ a ∧ a ≤ 12) : Int.tmod (wrap64 (Int.tmod x a + a)) a = x % a := by
  have h1 := Int.tmod_lt_of_pos x (b := a) (by omega)
  have h2 := Int.lt_tmod_of_pos x (b := a) (by omega)
  rw [w64 (by omega) (by omega), Int.tmod_eq_emod_of_nonneg (by omega), Int.add_emod_right, Int.tmod_def, Int.sub_mul_emod_self_left]

def idx (a b x y : Int) : Int := (y % b) * a + x % a

theorem idx_in {a b : Int} (ha : 1 ≤ a ∧ a ≤ 12) (hb : 1 ≤ b ∧ b ≤ 12) (x y : Int) : 0 ≤ idx a b x y ∧ idx a b x y < a * b := by
  unfold idx
  have x0 := Int.emod_nonneg x (b := a) (by omega)
  have x1 := Int.emod_lt_of_pos x (b := a) (by omega)
  have y0 := Int.emod_nonneg y (b := b) (by omega)
  have y1 := Int.emod_lt_of_pos y (b := b) (by omega)
  have h0 : 0 ≤ (y % b) * a := Int.mul_nonneg y0 (by omega)
  have h1 : (y % b) * a ≤ (b - 1) * a := Int.mul_le_mul_of_nonneg_right (by omega) (by omega)
  have h2 : (b - 1) * a = a * b - a := by rw [Int.sub_mul, Int.one_mul, Int.mul_comm]
  omega

theorem idx_fits {a b : Int} (ha : 1 ≤ a ∧ a ≤ 12) (hb : 1 ≤ b ∧ b ≤ 12) (x y : Int) : wrap64 (wrap64 ((y % b) * a) + x % a) = idx a b x y ∧ 0 ≤ (y % b) * a ∧ (y % b) * a ≤ 144 := by
  have x0 := Int.emod_nonneg x (b := a) (by omega)
  have x1 := Int.emod_lt_of_pos x (b := a) (by omega)
  have h := idx_in ha hb x y
  have m := mul12 ha hb
  unfold idx at h ⊢
  have y0 := Int.emod_nonneg y (b := b) (by omega)
  have h0 : 0 ≤ (y % b) * a := Int.mul_nonneg y0 (by omega)
  rw [w64 (x := y % b * a) (by omega) (by omega), w64 (by omega) (by omega)]
  exact ⟨rfl, h0, by omega⟩

def nbS (a b i : Int) : List Int := [idx a b (i % a + 1) (i / a), idx a b (i % a) (i / a + 1), idx a b (i % a - 1) (i / a), idx a b (i % a) (i / a - 1)]
def nbI (a b i : Int) : List Int := [idx a b (i % a + 1) (i / a), idx a b (i % a - 1) (i / a), idx a b (i % a) (i / a + 1), idx a b (i % a) (i / a - 1)]

theorem nb_same (a b x c : Int) : c ∈ nbS a b x ↔ c ∈ nbI a b x := by
  unfold nbS nbI
  simp only [List.mem_cons, List.not_mem_nil, or_false]
  constructor
  · rintro (h | h | h | h)
    · exact Or.inl h
    · exact Or.inr (Or.inr (Or.inl h))
    · exact Or.inr (Or.inl h)
    · exact Or.inr (Or.inr (Or.inr h))
  · rintro (h | h | h | h)
    · exact Or.inl h
    · exact Or.inr (Or.inr (Or.inl h))
    · exact Or.inr (Or.inl h)
    · exact Or.inr (Or.inr (Or.inr h))

theorem nbS_in {a b : Int} (ha : 1 ≤ a ∧ a ≤ 12) (hb : 1 ≤ b ∧ b ≤ 12) (x c : Int) (h : c ∈ nbS a b x) : 0 ≤ c ∧ c < a * b := by
  unfold nbS at h
  simp only [List.mem_cons, List.not_mem_nil, or_false] at h
  rcases h with rfl | rfl | rfl | rfl <;> exact idx_in ha hb _ _

/-- the cells that are met from the first on -/
def flood (p : Int → Bool) (nb : Int → List Int) : Nat → List Int → Nat → List Int
  | 0, q, _ => q
  | n + 1, q, i => if h : i < q.length then flood p nb n (pushes p q (nb q[i])) (i + 1) else q

theorem pushes_in {p : Int → Bool} {q cs : List Int} {N : Int} (hq : ∀ x ∈ q, 0 ≤ x ∧ x < N) (hc : ∀ x ∈ cs, 0 ≤ x ∧ x < N) : ∀ x ∈ pushes p q cs, 0 ≤ x ∧ x < N := by
  intro x hx
  rcases (pushes_mem p cs q x).1 hx with h | h
  · exact hq x h
  · exact hc x h.1

theorem flood_met (p : Int → Bool) (nb : Int → List Int) (first : Int) (N : Nat) (hn : ∀ x c, c ∈ nb x → 0 ≤ c ∧ c < (N : Int)) : ∀ (n : Nat) (q : List Int) (i : Nat), N ≤ i + n → Met p nb first q i → (∀ x ∈ q, 0 ≤ x ∧ x < (N : Int)) → Met p nb first (flood p nb n q i) (flood p nb n q i).length := by
  intro n
  induction n with
  | zero =>
    intro q i hi m hq
    have := m.few N hq
    have := m.hi
    obtain rfl : i = q.length := by omega
    exact m
  | succ n ih =>
    intro q i hi m hq
    unfold flood
    split
    · rename_i h
      exact ih _ _ (by omega) (m.next h) (pushes_in hq (fun x hx => hn _ x hx))
    · rename_i h
      have := m.hi
      obtain rfl : i = q.length := by omega
      exact m

/-- the place of the first cell of a tile, or -1 -/
def fstOf (k : Int) : Int → List Int → Int
  | _, [] => -1
  | i, x :: xs => if x = k then i else fstOf k (i + 1) xs

theorem fstOf_in (k : Int) : ∀ (l : List Int) (i : Int), 0 ≤ i → if k ∈ l then i ≤ fstOf k i l ∧ fstOf k i l < i + l.length else fstOf k i l = -1 := by
  intro l
  induction l with
  | nil => intro i _; simp [fstOf]
  | cons x xs ih =>
    intro i hi
    have := ih (i + 1) (by omega)
    unfold fstOf
    by_cases h : x = k
    · subst h; simp; omega
    · have h2 : ¬ k = x := fun e => h e.symm
      simp only [h, if_false, List.mem_cons, h2, false_or, List.length_cons]
      split at this
      · rename_i h3; rw [if_pos h3]; omega
      · rename_i h3; rw [if_neg h3]; exact this

def many (k : Int) (l : List Int) : Nat := (l.filter (fun x => decide (x = k))).length

/-- whether the cells of a tile hang together -/
def conn (a b : Int) (l : List Int) (k : Int) : Bool := decide ((flood (fun c => decide (rd l c = k)) (nbS a b) l.length [fstOf k 0 l] 0).length = many k l)

theorem conn_I {a b : Int} {l : List Int} {k : Int} (ha : 1 ≤ a ∧ a ≤ 12) (hb : 1 ≤ b ∧ b ≤ 12) (hm : (l.length : Int) = a * b) (hk : k ∈ l) :
    (flood (fun c => decide (rd l c = k)) (nbI a b) l.length [fstOf k 0 l] 0).length = (flood (fun c => decide (rd l c = k)) (nbS a b) l.length [fstOf k 0 l] 0).length := by
  have hf := fstOf_in k l 0 (by omega)
  rw [if_pos hk] at hf
  have hs : ∀ x ∈ [fstOf k 0 l], 0 ≤ x ∧ x < (l.length : Int) := fun x hx => by rw [List.mem_singleton] at hx; subst hx; omega
  have m1 := flood_met (fun c => decide (rd l c = k)) (nbI a b) (fstOf k 0 l) l.length (fun x c h => by rw [hm]; exact nbS_in ha hb x c ((nb_same a b x c).2 h)) l.length [fstOf k 0 l] 0 (by omega) (Met.start _ _ _) hs
  have m2 := flood_met (fun c => decide (rd l c = k)) (nbS a b) (fstOf k 0 l) l.length (fun x c h => by rw [hm]; exact nbS_in ha hb x c h) l.length [fstOf k 0 l] 0 (by omega) (Met.start _ _ _) hs
  exact m1.same m2 (fun x c => (nb_same a b x c).symm)

def mxf (t x : Int) : Int := if t > x then t else x

/-- the number of tiles -/
def top (l : List Int) : Int := l.foldl mxf (-1) + 1

def okT (a b : Int) (l : List Int) : Bool := decide (1 ≤ a ∧ a ≤ 12) && (decide (1 ≤ b ∧ b ≤ 12) && (decide ((l.length : Int) = a * b) && (l.all (fun x => decide (0 ≤ x ∧ x ≤ 35)) &&
  (List.range (top l).toNat).all (fun k => decide ((k : Int) ∈ l) && conn a b l k))))

theorem mxf_eq (t x : Int) : (t ≤ mxf t x ∧ x ≤ mxf t x) ∧ (mxf t x = t ∨ mxf t x = x) := by
  unfold mxf
  by_cases h : t > x
  · rw [if_pos h]; exact ⟨⟨Int.le_refl _, by omega⟩, Or.inl rfl⟩
  · rw [if_neg h]; exact ⟨⟨by omega, Int.le_refl _⟩, Or.inr rfl⟩

theorem foldmax (l : List Int) : ∀ t : Int, t ≤ l.foldl mxf t ∧ (∀ x ∈ l, x ≤ l.foldl mxf t) ∧ (l.foldl mxf t = t ∨ l.foldl mxf t ∈ l) := by
  induction l with
  | nil => intro t; simp
  | cons x l ih =>
    intro t
    rw [List.foldl_cons]
    obtain ⟨h1, h2, h3⟩ := ih (mxf t x)
    obtain ⟨⟨m1, m2⟩, m3⟩ := mxf_eq t x
    refine ⟨by omega, ?_, ?_⟩
    · intro y hy
      rcases List.mem_cons.1 hy with rfl | hy
      · omega
      · exact h2 y hy
    · rcases h3 with h3 | h3
      · rw [h3]
        rcases m3 with m3 | m3
        · exact Or.inl m3
        · exact Or.inr (by rw [m3]; simp)
      · exact Or.inr (List.mem_cons_of_mem _ h3)

theorem has_eq (q : List Int) (c : Int) (hq : q.length ≤ 1048576) (k : Nat) (hk : q.length < k) : spec_l00Has.f k q c = some (decide (c ∈ q)) := by
  unfold spec_l00Has.f
  rw [all_loop q 0 (fun x => !decide (x = c)) true false (fun k i => spec_l00Has.l0 k q c i) (by
    intro k i hi _
    simp only [spec_l00Has.l0]
    rw [if_pos (by omega), if_pos (by omega), rdi q i hi, wnat (by omega)]
    by_cases h : q[i] = c
    · rw [if_pos h, if_neg (by simp [h])]
    · rw [if_neg h, if_pos (by simp [h])]) (by
    intro k _
    simp only [spec_l00Has.l0]
    rw [if_neg (by omega)]) k (by omega)]
  congr 1
  by_cases h : c ∈ q
  · rw [if_neg (by intro h2; have := List.all_eq_true.1 h2 c h; simp at this)]; simp [h]
  · rw [if_pos (List.all_eq_true.2 fun x hx => by
      have : x ≠ c := fun e => h (e ▸ hx)
      simp [this])]
    simp [h]

theorem specIndex {a b : Int} (l : List Int) (ha : 1 ≤ a ∧ a ≤ 12) (hb : 1 ≤ b ∧ b ≤ 12) (x y : Int) : spec_l17Index.f [(⟨a, b, l⟩ : S28)] x y = some (idx a b x y) := by
  have r : rd_T28 [(⟨a, b, l⟩ : S28)] 0 = ⟨a, b, l⟩ := rfl
  simp only [spec_l17Index.f, r]
  rw [if_pos (by simp), if_neg (by omega), if_neg (by omega), rest_emod hb, rest_emod ha, (idx_fits ha hb x y).1]

theorem implIndex {a b : Int} (l : List Int) (ha : 1 ≤ a ∧ a ≤ 12) (hb : 1 ≤ b ∧ b ≤ 12) (x y : Int) : impl_touchingCells_1.f x y [(⟨a, b, l⟩ : S28)] = some (idx a b x y) := by
  have r : rd_T28 [(⟨a, b, l⟩ : S28)] 0 = ⟨a, b, l⟩ := rfl
  simp only [impl_touchingCells_1.f, impl_rest.f, r]
  rw [if_pos (by simp), if_neg (by omega), if_neg (by omega), rest_emod hb, rest_emod ha]
  simp only [Option.bind_some]
  rw [(idx_fits ha hb x y).1]

theorem cellOf {a b i : Int} (ha : 1 ≤ a ∧ a ≤ 12) (hb : 1 ≤ b ∧ b ≤ 12) (hi : 0 ≤ i ∧ i < a * b) : (Int.tmod i a = i % a ∧ Int.tdiv i a = i / a) ∧ (0 ≤ i % a ∧ i % a < a) ∧ (0 ≤ i / a ∧ i / a ≤ 144) := by
  have m := mul12 ha hb
  have h1 := Int.emod_nonneg i (b := a) (by omega)
  have h2 := Int.emod_lt_of_pos i (b := a) (by omega)
  have h3 : 0 ≤ i / a := Int.ediv_nonneg hi.1 (by omega)
  have h4 := Int.ediv_le_self a hi.1
  exact ⟨⟨Int.tmod_eq_emod_of_nonneg hi.1, Int.tdiv_eq_ediv_of_nonneg hi.1⟩, ⟨h1, h2⟩, h3, by omega⟩

theorem specAround {a b : Int} (l : List Int) (ha : 1 ≤ a ∧ a ≤ 12) (hb : 1 ≤ b ∧ b ≤ 12) (i : Int) (hi : 0 ≤ i ∧ i < a * b) : spec_l17Around.f [(⟨a, b, l⟩ : S28)] i = some (nbS a b i) := by
  have r : rd_T28 [(⟨a, b, l⟩ : S28)] 0 = ⟨a, b, l⟩ := rfl
  obtain ⟨⟨e1, e2⟩, x0, y0⟩ := cellOf ha hb hi
  simp only [spec_l17Around.f, r]
  rw [if_pos (by simp), if_neg (by omega), e1, e2, w64 (x := i / a) (by omega) (by omega), w64 (x := i % a + 1) (by omega) (by omega), w64 (x := i / a + 1) (by omega) (by omega), w64 (x := i % a - 1) (by omega) (by omega), w64 (x := i / a - 1) (by omega) (by omega)]
  simp only [specIndex l ha hb, Option.bind_some]
  rfl

theorem implAround {a b : Int} (l : List Int) (ha : 1 ≤ a ∧ a ≤ 12) (hb : 1 ≤ b ∧ b ≤ 12) (i : Int) (hi : 0 ≤ i ∧ i < a * b) :
    impl_touchingCells.f a b l i = some (idx a b (i % a + 1) (i / a), idx a b (i % a - 1) (i / a), idx a b (i % a) (i / a + 1), idx a b (i % a) (i / a - 1)) := by
  obtain ⟨⟨e1, e2⟩, x0, y0⟩ := cellOf ha hb hi
  simp only [impl_touchingCells.f]
  rw [if_neg (by omega), e1, e2, w64 (x := i / a) (by omega) (by omega), w64 (x := i % a + 1) (by omega) (by omega), w64 (x := i / a + 1) (by omega) (by omega), w64 (x := i % a - 1) (by omega) (by omega), w64 (x := i / a - 1) (by omega) (by omega)]
  simp only [implIndex l ha hb, Option.bind_some]

theorem rd_mid (dn : List Int) (c : Int) (cs : List Int) : rd (dn ++ c :: cs) (dn.length : Int) = c := by
  unfold rd; simp [List.getD]

/-- the reference's step from a cell -/
theorem specIn (a b : Int) (l : List Int) (kk all i : Int) : ∀ (cs dn q : List Int) (f k : Nat), f = k + cs.length + 1 → q.length + cs.length ≤ 400 → 400 < k → dn.length + cs.length ≤ 10 → (∀ c ∈ cs, 0 ≤ c ∧ c < (l.length : Int)) →
    spec_l17Joined.l2 f kk all q i (dn ++ cs) (dn.length : Int) [(⟨a, b, l⟩ : S28)] = spec_l17Joined.l1 k kk all (pushes (fun c => decide (rd l c = kk)) q cs) (wrap64 (i + 1)) [(⟨a, b, l⟩ : S28)] := by
  have r : rd_T28 [(⟨a, b, l⟩ : S28)] 0 = ⟨a, b, l⟩ := rfl
  intro cs
  induction cs with
  | nil =>
    intro dn q f k hf hq hk hd hc
    obtain rfl : f = k + 1 := by simpa using hf
    simp only [spec_l17Joined.l2, r]
    rw [if_neg (by simp)]
    rfl
  | cons c cs ih =>
    intro dn q f k hf hq hk hd hc
    rw [List.length_cons] at hf hq hd
    obtain ⟨f, rfl⟩ : ∃ m, f = m + 1 := ⟨f - 1, by omega⟩
    obtain ⟨c0, c1⟩ := hc c (by simp)
    have hi := fun q' (hq' : q'.length ≤ q.length + 1) => ih (dn ++ [c]) q' f k (by omega) (by omega) hk (by rw [List.length_append, List.length_singleton]; omega) (fun x hx => hc x (List.mem_cons_of_mem _ hx))
    rw [List.append_assoc, List.singleton_append, List.length_append, List.length_singleton] at hi
    simp only [spec_l17Joined.l2, r, rd_mid]
    rw [if_pos (by rw [List.length_append, List.length_cons]; omega), if_pos (by simp), if_pos (by omega), if_pos c0, if_pos c1, wnat (by omega), has_eq q c (by omega) f (by omega)]
    simp only [Option.bind_some]
    show _ = spec_l17Joined.l1 k kk all (pushes (fun c => decide (rd l c = kk)) (push (fun c => decide (rd l c = kk)) q c) cs) (wrap64 (i + 1)) _
    by_cases hp : rd l c = kk
    · by_cases hm : c ∈ q
      · have e : push (fun c => decide (rd l c = kk)) q c = q := by unfold push; rw [if_neg (by simp [hm])]
        rw [if_pos hp, if_pos (by simp [hm]), e]
        exact hi q (by omega)
      · have e : push (fun c => decide (rd l c = kk)) q c = q ++ [c] := by unfold push; rw [if_pos (by simp [hm, hp])]
        rw [if_pos hp, if_neg (by simp [hm]), if_pos (by omega), e]
        exact hi (q ++ [c]) (by simp)
    · have e : push (fun c => decide (rd l c = kk)) q c = q := by unfold push; rw [if_neg (by simp [hp])]
      rw [if_neg hp, e]
      exact hi q (by omega)

theorem specOut {a b : Int} {l : List Int} (ha : 1 ≤ a ∧ a ≤ 12) (hb : 1 ≤ b ∧ b ≤ 12) (hm : (l.length : Int) = a * b) (kk all first : Int) : ∀ (n : Nat) (q : List Int) (i : Nat), l.length ≤ i + n → Met (fun c => decide (rd l c = kk)) (nbS a b) first q i → (∀ x ∈ q, 0 ≤ x ∧ x < (l.length : Int)) → ∀ k, 6 * n + 400 < k →
    spec_l17Joined.l1 k kk all q (i : Int) [(⟨a, b, l⟩ : S28)] = some (((flood (fun c => decide (rd l c = kk)) (nbS a b) n q i).length : Int) == all) := by
  have m12 := mul12 ha hb
  intro n
  induction n with
  | zero =>
    intro q i hi m hq k hk
    have := m.few l.length hq
    have := m.hi
    obtain ⟨k, rfl⟩ : ∃ m, k = m + 1 := ⟨k - 1, by omega⟩
    simp only [spec_l17Joined.l1]
    rw [if_neg (by omega)]
    rfl
  | succ n ih =>
    intro q i hi m hq k hk
    have h1 := m.few l.length hq
    have h2 := m.hi
    obtain ⟨k, rfl⟩ : ∃ m, k = m + 6 := ⟨k - 6, by omega⟩
    by_cases h : i < q.length
    · have hx := hq _ (List.getElem_mem h)
      have hn : ∀ c ∈ nbS a b q[i], 0 ≤ c ∧ c < (l.length : Int) := fun c hc => by rw [hm]; exact nbS_in ha hb _ c hc
      rw [show spec_l17Joined.l1 (k + 6) kk all q (i : Int) [(⟨a, b, l⟩ : S28)] = spec_l17Joined.l2 (k + 5) kk all q (i : Int) ([] ++ nbS a b q[i]) ((([] : List Int).length : Nat) : Int) [(⟨a, b, l⟩ : S28)] by
        simp only [spec_l17Joined.l1]
        rw [if_pos (by omega), if_pos (by omega), rdi q i h, specAround l ha hb _ (by omega)]
        rfl]
      rw [specIn a b l kk all i (nbS a b q[i]) [] q (k + 5) k rfl (by show q.length + 4 ≤ 400; omega) (by omega) (by show 0 + 4 ≤ 10; omega) hn, wnat (by omega)]
      rw [ih _ (i + 1) (by omega) (m.next h) (pushes_in hq hn) k (by omega)]
      rw [show flood (fun c => decide (rd l c = kk)) (nbS a b) (n + 1) q i = flood (fun c => decide (rd l c = kk)) (nbS a b) n (pushes (fun c => decide (rd l c = kk)) q (nbS a b q[i])) (i + 1) by
        simp only [flood]; rw [dif_pos h]]
    · rw [show flood (fun c => decide (rd l c = kk)) (nbS a b) (n + 1) q i = q by simp only [flood]; rw [dif_neg h]]
      simp only [spec_l17Joined.l1]
      rw [if_neg (by omega)]

theorem specFst (a b : Int) (l : List Int) (kk : Int) (hl : l.length ≤ 1000) (all : Int → Int → Int) (R : Int → Int → Option Bool) (K1 : Nat)
    (hR : ∀ k x5 x6, K1 < k → x5 = fstOf kk 0 l → x6 = (many kk l : Int) → spec_l17Joined.l1 k kk x6 [x5] 0 [(⟨a, b, l⟩ : S28)] = R x5 x6) : ∀ (n i : Nat) (x5 x6 : Int) (k : Nat), i + n = l.length → K1 + n + 1 < k → 0 ≤ x6 → x6 ≤ i → (if x5 < 0 then fstOf kk i (l.drop i) else x5) = fstOf kk 0 l → x6 + (many kk (l.drop i) : Int) = many kk l → (x5 = -1 ∨ 0 ≤ x5) →
    spec_l17Joined.l0 k kk x5 x6 (i : Int) [(⟨a, b, l⟩ : S28)] = R (fstOf kk 0 l) (many kk l) := by
  have r : rd_T28 [(⟨a, b, l⟩ : S28)] 0 = ⟨a, b, l⟩ := rfl
  intro n
  induction n with
  | zero =>
    intro i x5 x6 k hi hk h0 h1 hf hmm h5
    obtain ⟨k, rfl⟩ : ∃ m, k = m + 1 := ⟨k - 1, by omega⟩
    obtain rfl : i = l.length := by omega
    simp only [spec_l17Joined.l0, r]
    rw [if_pos (by simp), if_neg (by omega)]
    rw [List.drop_length] at hf hmm
    have e5 : x5 = fstOf kk 0 l := by
      rw [← hf]
      split
      · rename_i h; rcases h5 with rfl | h5
        · rfl
        · omega
      · rfl
    have e6 : x6 = (many kk l : Int) := by rw [← hmm]; simp [many]
    rw [hR k x5 x6 (by omega) e5 e6, e5, e6]
  | succ n ih =>
    intro i x5 x6 k hi hk h0 h1 hf hmm h5
    obtain ⟨k, rfl⟩ : ∃ m, k = m + 1 := ⟨k - 1, by omega⟩
    have hlt : i < l.length := by omega
    rw [List.drop_eq_getElem_cons hlt] at hf hmm
    simp only [spec_l17Joined.l0, r]
    rw [if_pos (by simp), if_pos (by omega), if_pos (by omega), rdi l i hlt, wnat (by omega)]
    by_cases hk2 : l[i] = kk
    · rw [if_pos hk2, w64 (x := x6 + 1) (by omega) (by omega)]
      have e : many kk (l[i] :: l.drop (i + 1)) = many kk (l.drop (i + 1)) + 1 := by simp [many, hk2]
      rw [e] at hmm
      by_cases h : x5 < 0
      · rw [if_pos h]
        refine ih (i + 1) i (x6 + 1) k (by omega) (by omega) (by omega) (by omega) ?_ (by omega) (Or.inr (by omega))
        rw [if_neg (by omega), ← hf, if_pos h]
        simp [fstOf, hk2]
      · rw [if_neg h]
        refine ih (i + 1) x5 (x6 + 1) k (by omega) (by omega) (by omega) (by omega) ?_ (by omega) (Or.inr (by omega))
        rw [if_neg h, ← hf, if_neg h]
    · rw [if_neg hk2]
      have e : many kk (l[i] :: l.drop (i + 1)) = many kk (l.drop (i + 1)) := by unfold many; rw [List.filter_cons_of_neg (by simp [hk2])]
      rw [e] at hmm
      refine ih (i + 1) x5 x6 k (by omega) (by omega) (by omega) (by omega) ?_ (by omega) h5
      rw [← hf]
      by_cases h : x5 < 0
      · rw [if_pos h, if_pos h]
        simp [fstOf, hk2]
      · rw [if_neg h, if_neg h]

theorem specJoined {a b : Int} {l : List Int} (ha : 1 ≤ a ∧ a ≤ 12) (hb : 1 ≤ b ∧ b ≤ 12) (hm : (l.length : Int) = a * b) (kk : Int) (hk2 : kk ∈ l) (k : Nat) (hk : 3000 < k) : spec_l17Joined.f k [(⟨a, b, l⟩ : S28)] kk = some (conn a b l kk) := by
  have m12 := mul12 ha hb
  have hf := fstOf_in kk l 0 (by omega)
  rw [if_pos hk2] at hf
  unfold spec_l17Joined.f
  have := specFst a b l kk (by omega) (fun x _ => x) (fun _ _ => some (conn a b l kk)) 2000 (by
    intro k x5 x6 hk e5 e6
    subst e5
    subst e6
    have := specOut ha hb hm kk (many kk l : Int) (fstOf kk 0 l) l.length [fstOf kk 0 l] 0 (by omega) (Met.start _ _ _) (fun x hx => by rw [List.mem_singleton] at hx; subst hx; omega) k (by omega)
    rw [show ((0 : Nat) : Int) = 0 from rfl] at this
    rw [this]
    unfold conn
    congr 1
    rw [Bool.eq_iff_iff, beq_iff_eq, decide_eq_true_iff]
    omega) l.length 0 (-1) 0 k (by omega) (by omega) (by omega) (by omega) (by rw [if_pos (by omega)]; rfl) (by simp) (Or.inl rfl)
  exact this

/-- the greatest number of a list whose numbers are all from -1 on -/
theorem top_of {l : List Int} {m : Int} (h1 : ∀ x ∈ l, x ≤ m) (h2 : m ∈ l) (h0 : ∀ x ∈ l, 0 ≤ x) : top l = m + 1 := by
  unfold top
  obtain ⟨a1, a2, a3⟩ := foldmax l (-1)
  have := a2 m h2
  have := h0 m h2
  rcases a3 with a3 | a3
  · omega
  · have := h1 _ a3
    omega

theorem top_pos {l : List Int} (hl : 0 < l.length) (h0 : ∀ x ∈ l, 0 ≤ x ∧ x ≤ 35) : 1 ≤ top l ∧ top l ≤ 36 ∧ ∀ x ∈ l, x < top l := by
  unfold top
  obtain ⟨a1, a2, a3⟩ := foldmax l (-1)
  have hx := h0 _ (List.getElem_mem hl)
  have hy := a2 _ (List.getElem_mem hl)
  refine ⟨by omega, ?_, fun x hx => by have := a2 x hx; omega⟩
  rcases a3 with a3 | a3
  · omega
  · have := h0 _ a3; omega

def inR (x : Int) : Bool := decide (0 ≤ x ∧ x ≤ 35)

theorem l00Max_eq (a b : Int) : spec_l00Max.f a b = some (mxf a b) := by
  unfold spec_l00Max.f mxf
  by_cases h : a > b
  · rw [if_pos h, if_pos h]
  · rw [if_neg h, if_neg h]

theorem most1 (a b : Int) (l : List Int) (hl : l.length ≤ 1000) (n : Nat) (hn : n ≤ 36) (k0 : Nat) (hk0 : 2000 < k0) :
    spec_l17Most.l1 k0 ((n : Int) - 1) 0 [(⟨a, b, l⟩ : S28)] = some (if (List.range n).all (fun k => decide ((k : Int) ∈ l)) = true then (n : Int) else -1) := by
  have r : rd_T28 [(⟨a, b, l⟩ : S28)] 0 = ⟨a, b, l⟩ := rfl
  refine all_loop (List.range n) 1001 (fun k => decide ((k : Int) ∈ l)) (-1) (n : Int) (fun k i => spec_l17Most.l1 k ((n : Int) - 1) i [(⟨a, b, l⟩ : S28)]) ?_ ?_ k0 (by rw [List.length_range]; omega)
  · intro k i hi hk
    rw [List.length_range] at hi
    simp only [spec_l17Most.l1, r]
    rw [if_pos (by omega), if_pos (by simp), has_eq l i (by omega) k (by omega), wnat (by omega), List.getElem_range]
    rfl
  · intro k hk
    rw [List.length_range]
    simp only [spec_l17Most.l1, r]
    rw [if_neg (by omega), w64 (by omega) (by omega)]
    congr 1
    omega

theorem most0 (a b : Int) (l : List Int) (hl : l.length ≤ 1000) (hp : 0 < l.length) : ∀ (n i : Nat) (t : Int) (k : Nat), i + n = l.length → 2100 + n < k → -1 ≤ t → t ≤ 35 → (l.take i).all inR = true → t = (l.take i).foldl mxf (-1) →
    spec_l17Most.l0 k t (i : Int) [(⟨a, b, l⟩ : S28)] = some (if l.all inR = true ∧ (List.range (top l).toNat).all (fun k => decide ((k : Int) ∈ l)) = true then top l else -1) := by
  have r : rd_T28 [(⟨a, b, l⟩ : S28)] 0 = ⟨a, b, l⟩ := rfl
  intro n
  induction n with
  | zero =>
    intro i t k hi hk h0 h1 ha ht
    obtain ⟨k, rfl⟩ : ∃ m, k = m + 1 := ⟨k - 1, by omega⟩
    obtain rfl : i = l.length := by omega
    rw [List.take_length] at ha ht
    have htop : top l = t + 1 := by rw [ht]; rfl
    have hall : ∀ x ∈ l, 0 ≤ x ∧ x ≤ 35 := fun x hx => by simpa [inR] using List.all_eq_true.1 ha x hx
    have hpos := top_pos hp hall
    simp only [spec_l17Most.l0, r]
    rw [if_pos (by simp), if_neg (by omega)]
    have := most1 a b l hl (top l).toNat (by omega) k (by omega)
    rw [show (((top l).toNat : Nat) : Int) = top l by omega, show top l - 1 = t by omega] at this
    rw [this]
    simp only [ha, true_and]
  | succ n ih =>
    intro i t k hi hk h0 h1 ha ht
    obtain ⟨k, rfl⟩ : ∃ m, k = m + 1 := ⟨k - 1, by omega⟩
    have hlt : i < l.length := by omega
    simp only [spec_l17Most.l0, r]
    rw [if_pos (by simp), if_pos (by omega), if_pos (by omega), rdi l i hlt, l00In_eq, l00Max_eq, wnat (by omega)]
    simp only [Option.bind_some, decide_eq_true_eq]
    by_cases h : 0 ≤ l[i] ∧ l[i] ≤ 35
    · rw [if_pos h]
      have m := mxf_eq t l[i]
      refine ih (i + 1) (mxf t l[i]) k (by omega) (by omega) (by omega) (by omega) ?_ ?_
      · rw [List.take_succ_eq_append_getElem hlt, List.all_append, ha, Bool.true_and]
        simp [inR, h]
      · rw [List.take_succ_eq_append_getElem hlt, List.foldl_append, ← ht]; rfl
    · rw [if_neg h, if_neg]
      rintro ⟨h2, _⟩
      have := List.all_eq_true.1 h2 _ (List.getElem_mem hlt)
      exact h (by simpa [inR] using this)

theorem specOk {a b : Int} {l : List Int} (k : Nat) (hk : 9000 < k) : spec_l17Ok.f k [(⟨a, b, l⟩ : S28)] = some (okT a b l) := by
  have r : rd_T28 [(⟨a, b, l⟩ : S28)] 0 = ⟨a, b, l⟩ := rfl
  obtain ⟨k, rfl⟩ : ∃ m, k = m + 1 := ⟨k - 1, by omega⟩
  unfold spec_l17Ok.f okT
  rw [if_pos (by simp), r, l00In_eq, l00In_eq]
  simp only [Option.bind_some, spec_l17Ok.j0]
  by_cases ha : 1 ≤ a ∧ a ≤ 12
  · by_cases hb : 1 ≤ b ∧ b ≤ 12
    · have m12 := mul12 ha hb
      rw [w64 (x := a * b) (by omega) (by omega)]
      by_cases hm : (l.length : Int) = a * b
      · have hp : 0 < l.length := by omega
        simp only [ha, hb, hm, and_self, decide_true, if_true, bne_self_eq_false, Bool.false_eq_true, if_false, Bool.true_and]
        have hmost := most0 a b l (by omega) hp l.length 0 (-1) k (by omega) (by omega) (by omega) (by omega) (by simp) (by simp)
        rw [show ((0 : Nat) : Int) = 0 from rfl] at hmost
        rw [show spec_l17Most.f k [(⟨a, b, l⟩ : S28)] = spec_l17Most.l0 k (-1) 0 [(⟨a, b, l⟩ : S28)] from rfl, hmost]
        simp only [Option.bind_some]
        show spec_l17Ok.l0 k _ 0 _ = some ((l.all inR) && _)
        by_cases hin : l.all inR = true
        · have hall : ∀ x ∈ l, 0 ≤ x ∧ x ≤ 35 := fun x hx => by simpa [inR] using List.all_eq_true.1 hin x hx
          have hpos := top_pos hp hall
          by_cases hocc : (List.range (top l).toNat).all (fun k => decide ((k : Int) ∈ l)) = true
          · rw [if_pos ⟨hin, hocc⟩]
            have hl0 := all_loop (List.range (top l).toNat) 3500 (fun k => conn a b l k) false true (fun k i => spec_l17Ok.l0 k (top l) i [(⟨a, b, l⟩ : S28)]) (by
              intro k i hi hk
              have hi2 := hi
              rw [List.length_range] at hi2
              have hmem : (i : Int) ∈ l := by
                have := List.all_eq_true.1 hocc i (List.mem_range.2 hi2)
                simpa using this
              simp only [spec_l17Ok.l0]
              rw [if_pos (by omega), specJoined ha hb hm i hmem k (by omega), wnat (by omega), List.getElem_range]
              rfl) (by
              intro k hk
              rw [List.length_range]
              simp only [spec_l17Ok.l0]
              rw [if_neg (by omega)]
              simp; omega) k (by rw [List.length_range]; omega)
            rw [hl0]
            simp only [Option.bind_some, hin, Bool.true_and]
            congr 1
            rw [Bool.eq_iff_iff]
            simp only [List.all_eq_true, Bool.and_eq_true] at hocc ⊢
            constructor
            · intro h
              split at h
              · rename_i h2; exact fun x hx => ⟨hocc x hx, h2 x hx⟩
              · cases h
            · intro h
              rw [if_pos (fun x hx => (h x hx).2)]
          · rw [if_neg (fun h => hocc h.2)]
            obtain ⟨k, rfl⟩ : ∃ m, k = m + 1 := ⟨k - 1, by omega⟩
            simp only [spec_l17Ok.l0]
            rw [if_neg (by omega)]
            simp only [Option.bind_some, hin, Bool.true_and]
            congr 1
            symm
            rw [show decide ((-1 : Int) > 0) = false from rfl, Bool.eq_false_iff]
            intro h
            refine hocc (List.all_eq_true.2 fun x hx => ?_)
            have := List.all_eq_true.1 h x hx
            rw [Bool.and_eq_true] at this
            exact this.1
        · rw [if_neg (fun h => hin h.1)]
          obtain ⟨k, rfl⟩ : ∃ m, k = m + 1 := ⟨k - 1, by omega⟩
          simp only [spec_l17Ok.l0]
          rw [if_neg (by omega)]
          simp [hin]
      · simp [ha, hb, hm]
    · simp [ha, hb]
  · simp [ha]

theorem foldmx (l : List Int) : ∀ (t : Int), l.foldl mx t = l.foldl mxf t := by
  induction l with
  | nil => intro t; rfl
  | cons x l ih =>
    intro t
    rw [List.foldl_cons, List.foldl_cons, ih]
    congr 1
    unfold mx mxf
    by_cases h : t > x
    · rw [if_neg (by omega), if_pos h]
    · rw [if_neg h]
      by_cases h2 : t < x
      · rw [if_pos h2]
      · rw [if_neg h2]; omega

theorem implMax (l : List Int) (hp : 0 < l.length) (hl : l.length ≤ 1000) (k : Nat) (hk : 1100 < k) : slices_Max_int64_int64.f k l = some ((l.drop 1).foldl mx l[0]) := by
  unfold slices_Max_int64_int64.f
  rw [if_neg (by omega), if_pos (by omega)]
  have : ∀ (n i : Nat) (t : Int) (k : Nat), i + n = l.length → n < k → slices_Max_int64_int64.l0 k l t (i : Int) = some ((l.drop i).foldl mx t) := by
    intro n
    induction n with
    | zero =>
      intro i t k hi hk
      obtain ⟨k, rfl⟩ : ∃ m, k = m + 1 := ⟨k - 1, by omega⟩
      obtain rfl : i = l.length := by omega
      simp only [slices_Max_int64_int64.l0]
      rw [if_neg (by omega), List.drop_length]; rfl
    | succ n ih =>
      intro i t k hi hk
      obtain ⟨k, rfl⟩ : ∃ m, k = m + 1 := ⟨k - 1, by omega⟩
      have hlt : i < l.length := by omega
      simp only [slices_Max_int64_int64.l0]
      rw [if_pos (by omega), if_pos (by omega), rdi l i hlt, wnat (by omega), ih (i + 1) _ k (by omega) (by omega), List.drop_eq_getElem_cons hlt, List.foldl_cons]
  rw [show rd l 0 = l[0] from rdi l 0 hp]
  exact this (l.length - 1) 1 _ k (by omega) (by omega)

theorem foldmin (l : List Int) : ∀ t : Int, l.foldl mn t ≤ t ∧ (∀ x ∈ l, l.foldl mn t ≤ x) ∧ (l.foldl mn t = t ∨ l.foldl mn t ∈ l) := by
  induction l with
  | nil => intro t; simp
  | cons x l ih =>
    intro t
    rw [List.foldl_cons]
    obtain ⟨h1, h2, h3⟩ := ih (mn t x)
    have m : (mn t x ≤ t ∧ mn t x ≤ x) ∧ (mn t x = t ∨ mn t x = x) := by
      unfold mn
      by_cases h : x < t
      · rw [if_pos h]; exact ⟨⟨by omega, Int.le_refl _⟩, Or.inr rfl⟩
      · rw [if_neg h]; exact ⟨⟨Int.le_refl _, by omega⟩, Or.inl rfl⟩
    obtain ⟨⟨m1, m2⟩, m3⟩ := m
    refine ⟨by omega, ?_, ?_⟩
    · intro y hy
      rcases List.mem_cons.1 hy with rfl | hy
      · omega
      · exact h2 y hy
    · rcases h3 with h3 | h3
      · rw [h3]
        rcases m3 with m3 | m3
        · exact Or.inl m3
        · exact Or.inr (by rw [m3]; simp)
      · exact Or.inr (List.mem_cons_of_mem _ h3)

theorem implMin (l : List Int) (hp : 0 < l.length) (hl : l.length ≤ 1000) (k : Nat) (hk : 1100 < k) : slices_Min_int64_int64.f k l = some ((l.drop 1).foldl mn l[0]) := by
  unfold slices_Min_int64_int64.f
  rw [if_neg (by omega), if_pos (by omega)]
  have : ∀ (n i : Nat) (t : Int) (k : Nat), i + n = l.length → n < k → slices_Min_int64_int64.l0 k l t (i : Int) = some ((l.drop i).foldl mn t) := by
    intro n
    induction n with
    | zero =>
      intro i t k hi hk
      obtain ⟨k, rfl⟩ : ∃ m, k = m + 1 := ⟨k - 1, by omega⟩
      obtain rfl : i = l.length := by omega
      simp only [slices_Min_int64_int64.l0]
      rw [if_neg (by omega), List.drop_length]; rfl
    | succ n ih =>
      intro i t k hi hk
      obtain ⟨k, rfl⟩ : ∃ m, k = m + 1 := ⟨k - 1, by omega⟩
      have hlt : i < l.length := by omega
      simp only [slices_Min_int64_int64.l0]
      rw [if_pos (by omega), if_pos (by omega), rdi l i hlt, wnat (by omega), ih (i + 1) _ k (by omega) (by omega), List.drop_eq_getElem_cons hlt, List.foldl_cons]
  rw [show rd l 0 = l[0] from rdi l 0 hp]
  exact this (l.length - 1) 1 _ k (by omega) (by omega)

theorem cons_drop (l : List Int) (hp : 0 < l.length) : l = l[0] :: l.drop 1 := by
  have := List.drop_eq_getElem_cons hp
  rwa [List.drop_zero] at this

theorem max_top (l : List Int) (hp : 0 < l.length) (h0 : ∀ x ∈ l, 0 ≤ x) : (l.drop 1).foldl mx l[0] = top l - 1 := by
  rw [foldmx]
  obtain ⟨a1, a2, a3⟩ := foldmax (l.drop 1) l[0]
  have hc := cons_drop l hp
  have e := top_of (l := l) (m := (l.drop 1).foldl mxf l[0]) (fun x hx => by
    rw [hc] at hx
    rcases List.mem_cons.1 hx with rfl | hx
    · exact a1
    · exact a2 x hx) (by
    rcases a3 with a3 | a3
    · rw [a3]; exact List.getElem_mem hp
    · exact List.mem_of_mem_drop a3) h0
  omega

theorem implIndexOf (l : List Int) (hl : l.length ≤ 1000) (kk : Int) (k : Nat) (hk : 1100 < k) : slices_Index_int64_int64.f k l kk = some (fstOf kk 0 l) := by
  unfold slices_Index_int64_int64.f
  have : ∀ (n i : Nat) (k : Nat), i + n = l.length → n < k → slices_Index_int64_int64.l0 k l kk (l.length : Int) (i : Int) = some (fstOf kk i (l.drop i)) := by
    intro n
    induction n with
    | zero =>
      intro i k hi hk
      obtain ⟨k, rfl⟩ : ∃ m, k = m + 1 := ⟨k - 1, by omega⟩
      obtain rfl : i = l.length := by omega
      simp only [slices_Index_int64_int64.l0]
      rw [if_neg (by omega), List.drop_length]; rfl
    | succ n ih =>
      intro i k hi hk
      obtain ⟨k, rfl⟩ : ∃ m, k = m + 1 := ⟨k - 1, by omega⟩
      have hlt : i < l.length := by omega
      simp only [slices_Index_int64_int64.l0]
      rw [if_pos (by omega), if_pos (by omega), if_pos (by omega), rdi l i hlt, wnat (by omega), ih (i + 1) k (by omega) (by omega), List.drop_eq_getElem_cons hlt]
      show _ = some (if l[i] = kk then (i : Int) else fstOf kk ((i : Int) + 1) (l.drop (i + 1)))
      by_cases h : kk = l[i]
      · rw [if_pos h, if_pos h.symm]
      · rw [if_neg h, if_neg (fun e => h e.symm)]; rfl
  exact this l.length 0 k (by omega) (by omega)

/-- what the list of flags tells -/
def Flags (N : Nat) (met : List Bool) (q : List Int) : Prop := met.length = N ∧ ∀ c : Int, 0 ≤ c → c < N → rdOf false met c = decide (c ∈ q)

theorem flags_set {N : Nat} {met : List Bool} {q : List Int} (h : Flags N met q) (c : Int) (c0 : 0 ≤ c) (c1 : c < N) : Flags N (met.set c.toNat true) (q ++ [c]) := by
  refine ⟨by rw [List.length_set]; exact h.1, fun x x0 x1 => ?_⟩
  have hx := h.2 x x0 x1
  have hl := h.1
  unfold rdOf at hx ⊢
  simp only [List.getD_eq_getElem?_getD, List.getElem?_set] at hx ⊢
  by_cases e : c.toNat = x.toNat
  · obtain rfl : c = x := by omega
    rw [if_pos rfl, if_pos (by omega)]
    simp
  · rw [if_neg e, hx]
    have : ¬ x = c := fun e2 => e (by rw [e2])
    simp [this]

theorem implIn {a b : Int} {l : List Int} (kk cnt i nn kk2 c0 c1 c2 c3 : Int) : ∀ (cs dn q : List Int) (met : List Bool), Flags l.length met q → [c0, c1, c2, c3] = dn ++ cs → q.length + cs.length ≤ 400 → (∀ c ∈ cs, 0 ≤ c ∧ c < (l.length : Int)) → ∃ met', Flags l.length met' (pushes (fun c => decide (rd l c = kk)) q cs) ∧ ∀ (f k : Nat), f = k + cs.length + 1 →
    impl_ValidTiling.l2 f kk met q cnt i nn kk2 (dn.length : Int) c0 c1 c2 c3 a b l = impl_ValidTiling.l1 k kk met' (pushes (fun c => decide (rd l c = kk)) q cs) cnt (wrap64 (i + 1)) nn kk2 a b l := by
  intro cs
  induction cs with
  | nil =>
    intro dn q met hf hd hq hc
    refine ⟨met, hf, fun f k hfk => ?_⟩
    obtain rfl : f = k + 1 := by simpa using hfk
    have h4 : dn.length = 4 := by have := congrArg List.length hd; simpa using this.symm
    simp only [impl_ValidTiling.l2]
    rw [if_neg (by omega)]
    rfl
  | cons c cs ih =>
    intro dn q met hf hd hq hc
    rw [List.length_cons] at hq
    have h4 : dn.length + cs.length + 1 = 4 := by have := congrArg List.length hd; simp at this; omega
    obtain ⟨d0, d1⟩ := hc c (by simp)
    have hrd : rd [c0, c1, c2, c3] (dn.length : Int) = c := by rw [hd]; exact rd_mid dn c cs
    have hi := fun q' met' hf' (hq' : q'.length ≤ q.length + 1) => ih (dn ++ [c]) q' met' hf' (by rw [hd]; simp) (by omega) (fun x hx => hc x (List.mem_cons_of_mem _ hx))
    rw [List.length_append, List.length_singleton] at hi
    have step : ∀ f, impl_ValidTiling.l2 (f + 1) kk met q cnt i nn kk2 (dn.length : Int) c0 c1 c2 c3 a b l = (if rd l c = kk then (if decide (c ∈ q) = true then impl_ValidTiling.l2 f kk met q cnt i nn kk2 ((dn.length + 1 : Nat) : Int) c0 c1 c2 c3 a b l else impl_ValidTiling.l2 f kk (met.set c.toNat true) (q ++ [c]) cnt i nn kk2 ((dn.length + 1 : Nat) : Int) c0 c1 c2 c3 a b l) else impl_ValidTiling.l2 f kk met q cnt i nn kk2 ((dn.length + 1 : Nat) : Int) c0 c1 c2 c3 a b l) := by
      intro f
      have hl := hf.1
      simp only [impl_ValidTiling.l2, hrd]
      rw [if_pos (by omega), if_pos (by omega), if_pos d0, if_pos d1, wnat (by omega), if_pos (by omega : c < (met.length : Int)), hf.2 c d0 d1, if_pos (by omega : q.length < 17592186044416)]
    show ∃ met', Flags l.length met' (pushes (fun c => decide (rd l c = kk)) (push (fun c => decide (rd l c = kk)) q c) cs) ∧ _
    by_cases hp : rd l c = kk
    · by_cases hm : c ∈ q
      · have e : push (fun c => decide (rd l c = kk)) q c = q := by unfold push; rw [if_neg (by simp [hm])]
        rw [e]
        obtain ⟨met', g1, g2⟩ := hi q met hf (by omega)
        refine ⟨met', g1, fun f k hfk => ?_⟩
        rw [List.length_cons] at hfk
        obtain ⟨f, rfl⟩ : ∃ m, f = m + 1 := ⟨f - 1, by omega⟩
        rw [step f, if_pos hp, if_pos (by simp [hm]), g2 f k (by omega)]
        show _ = impl_ValidTiling.l1 k kk met' (pushes _ (push _ q c) cs) _ _ _ _ _ _ _
        rw [e]
      · have e : push (fun c => decide (rd l c = kk)) q c = q ++ [c] := by unfold push; rw [if_pos (by simp [hm, hp])]
        rw [e]
        obtain ⟨met', g1, g2⟩ := hi (q ++ [c]) (met.set c.toNat true) (flags_set hf c d0 d1) (by simp)
        refine ⟨met', g1, fun f k hfk => ?_⟩
        rw [List.length_cons] at hfk
        obtain ⟨f, rfl⟩ : ∃ m, f = m + 1 := ⟨f - 1, by omega⟩
        rw [step f, if_pos hp, if_neg (by simp [hm]), g2 f k (by omega)]
        show _ = impl_ValidTiling.l1 k kk met' (pushes _ (push _ q c) cs) _ _ _ _ _ _ _
        rw [e]
    · have e : push (fun c => decide (rd l c = kk)) q c = q := by unfold push; rw [if_neg (by simp [hp])]
      rw [e]
      obtain ⟨met', g1, g2⟩ := hi q met hf (by omega)
      refine ⟨met', g1, fun f k hfk => ?_⟩
      rw [List.length_cons] at hfk
      obtain ⟨f, rfl⟩ : ∃ m, f = m + 1 := ⟨f - 1, by omega⟩
      rw [step f, if_neg hp, g2 f k (by omega)]
      show _ = impl_ValidTiling.l1 k kk met' (pushes _ (push _ q c) cs) _ _ _ _ _ _ _
      rw [e]

theorem implOut {a b : Int} {l : List Int} (ha : 1 ≤ a ∧ a ≤ 12) (hb : 1 ≤ b ∧ b ≤ 12) (hm : (l.length : Int) = a * b) (kk nn kk2 first : Int) (R : Int → Option Bool) (K1 : Nat)
    (hR : ∀ k c, K1 < k → 0 ≤ c → c ≤ 400 → impl_ValidTiling.l3 k kk c nn kk2 l (l.length : Int) 0 a b l = R c) : ∀ (n : Nat) (q : List Int) (met : List Bool) (i : Nat), l.length ≤ i + n → Met (fun c => decide (rd l c = kk)) (nbI a b) first q i → Flags l.length met q → (∀ x ∈ q, 0 ≤ x ∧ x < (l.length : Int)) → ∀ k, 6 * n + K1 + 400 < k →
    impl_ValidTiling.l1 k kk met q (i : Int) (i : Int) nn kk2 a b l = R ((flood (fun c => decide (rd l c = kk)) (nbI a b) n q i).length : Int) := by
  have m12 := mul12 ha hb
  intro n
  induction n with
  | zero =>
    intro q met i hi m hf hq k hk
    have := m.few l.length hq
    have := m.hi
    obtain ⟨k, rfl⟩ : ∃ m, k = m + 1 := ⟨k - 1, by omega⟩
    simp only [impl_ValidTiling.l1]
    rw [if_neg (by omega), hR k _ (by omega) (by omega) (by omega)]
    obtain rfl : i = q.length := by omega
    rfl
  | succ n ih =>
    intro q met i hi m hf hq k hk
    have h1 := m.few l.length hq
    have h2 := m.hi
    obtain ⟨k, rfl⟩ : ∃ m, k = m + 6 := ⟨k - 6, by omega⟩
    by_cases h : i < q.length
    · have hx := hq _ (List.getElem_mem h)
      have hn : ∀ c ∈ nbI a b q[i], 0 ≤ c ∧ c < (l.length : Int) := fun c hc => by rw [hm]; exact nbS_in ha hb _ c ((nb_same a b _ c).2 hc)
      obtain ⟨met', g1, g2⟩ := implIn (a := a) (b := b) kk ((i + 1 : Nat) : Int) i nn kk2 _ _ _ _ (nbI a b q[i]) [] q met hf rfl (by show q.length + 4 ≤ 400; omega) hn
      rw [show impl_ValidTiling.l1 (k + 6) kk met q (i : Int) (i : Int) nn kk2 a b l = impl_ValidTiling.l2 (k + 5) kk met q ((i + 1 : Nat) : Int) (i : Int) nn kk2 ((([] : List Int).length : Nat) : Int) (idx a b (q[i] % a + 1) (q[i] / a)) (idx a b (q[i] % a - 1) (q[i] / a)) (idx a b (q[i] % a) (q[i] / a + 1)) (idx a b (q[i] % a) (q[i] / a - 1)) a b l by
        simp only [impl_ValidTiling.l1]
        rw [if_pos (by omega), if_pos (by omega), rdi q i h, implAround l ha hb _ (by omega)]
        simp only [Option.bind_some]
        rw [wnat (by omega)]
        rfl]
      rw [g2 (k + 5) k rfl, wnat (by omega)]
      rw [ih _ met' (i + 1) (by omega) (m.next h) g1 (pushes_in hq hn) k (by omega)]
      rw [show flood (fun c => decide (rd l c = kk)) (nbI a b) (n + 1) q i = flood (fun c => decide (rd l c = kk)) (nbI a b) n (pushes (fun c => decide (rd l c = kk)) q (nbI a b q[i])) (i + 1) by
        simp only [flood]; rw [dif_pos h]]
    · rw [show flood (fun c => decide (rd l c = kk)) (nbI a b) (n + 1) q i = q by simp only [flood]; rw [dif_neg h]]
      simp only [impl_ValidTiling.l1]
      rw [if_neg (by omega), hR _ _ (by omega) (by omega) (by omega)]
      obtain rfl : i = q.length := by omega
      rfl

theorem implCount {a b : Int} {l : List Int} (hl : l.length ≤ 1000) (kk nn kk2 : Int) (R : Option Bool) (K1 : Nat) (hR : ∀ k, K1 < k → impl_ValidTiling.l0 k nn (wrap64 (kk2 + 1)) a b l = R) : ∀ (n i : Nat) (c : Int) (k : Nat), i + n = l.length → K1 + n + 1 < k → -2000 ≤ c - n → c ≤ 2000 →
    impl_ValidTiling.l3 k kk c nn kk2 l (l.length : Int) (i : Int) a b l = if c = (many kk (l.drop i) : Int) then R else some false := by
  intro n
  induction n with
  | zero =>
    intro i c k hi hk h0 h1
    obtain ⟨k, rfl⟩ : ∃ m, k = m + 1 := ⟨k - 1, by omega⟩
    obtain rfl : i = l.length := by omega
    simp only [impl_ValidTiling.l3]
    rw [if_neg (by omega), hR k (by omega), List.drop_length]
    rfl
  | succ n ih =>
    intro i c k hi hk h0 h1
    obtain ⟨k, rfl⟩ : ∃ m, k = m + 1 := ⟨k - 1, by omega⟩
    have hlt : i < l.length := by omega
    simp only [impl_ValidTiling.l3]
    rw [if_pos (by omega), if_pos (by omega), if_pos (by omega), rdi l i hlt, wnat (by omega)]
    by_cases h : l[i] = kk
    · have e : many kk (l.drop i) = many kk (l.drop (i + 1)) + 1 := by
        rw [List.drop_eq_getElem_cons hlt]
        unfold many; rw [List.filter_cons_of_pos (by simp [h]), List.length_cons]
      rw [if_pos h, w64 (x := c - 1) (by omega) (by omega), ih (i + 1) (c - 1) k (by omega) (by omega) (by omega) (by omega), e]
      by_cases h2 : c - 1 = (many kk (l.drop (i + 1)) : Int)
      · rw [if_pos h2, if_pos (by omega)]
      · rw [if_neg h2, if_neg (by omega)]
    · have e : many kk (l.drop i) = many kk (l.drop (i + 1)) := by
        rw [List.drop_eq_getElem_cons hlt]
        unfold many; rw [List.filter_cons_of_neg (by simp [h])]
      rw [if_neg h, ih (i + 1) c k (by omega) (by omega) (by omega) (by omega), e]

theorem implTiles {a b : Int} {l : List Int} (ha : 1 ≤ a ∧ a ≤ 12) (hb : 1 ≤ b ∧ b ≤ 12) (hm : (l.length : Int) = a * b) (nn : Nat) (hnn : nn ≤ 36) : ∀ (m j k : Nat), j + m = nn → 2000 * m + 10 < k →
    impl_ValidTiling.l0 k (nn : Int) (j : Int) a b l = some ((List.range' j m).all (fun k => decide ((k : Int) ∈ l) && conn a b l k)) := by
  have m12 := mul12 ha hb
  intro m
  induction m with
  | zero =>
    intro j k hj hk
    obtain ⟨k, rfl⟩ : ∃ m, k = m + 1 := ⟨k - 1, by omega⟩
    simp only [impl_ValidTiling.l0]
    rw [if_neg (by omega)]
    rfl
  | succ m ih =>
    intro j k hj hk
    obtain ⟨k, rfl⟩ : ∃ m, k = m + 1 := ⟨k - 1, by omega⟩
    rw [List.range'_succ, List.all_cons]
    simp only [impl_ValidTiling.l0]
    rw [if_pos (by omega), implIndexOf l (by omega) j k (by omega)]
    simp only [Option.bind_some]
    have hf := fstOf_in (j : Int) l 0 (by omega)
    by_cases hk2 : (j : Int) ∈ l
    · rw [if_pos hk2] at hf
      rw [if_neg (by omega), if_pos (by omega), if_pos (by omega), if_pos hf.1, List.length_replicate, if_pos (by omega)]
      have hs : ∀ x ∈ [fstOf (j : Int) 0 l], 0 ≤ x ∧ x < (l.length : Int) := fun x hx => by rw [List.mem_singleton] at hx; subst hx; omega
      have hfl : Flags l.length ((List.replicate ((l.length : Int)).toNat false).set (fstOf (j : Int) 0 l).toNat true) [fstOf (j : Int) 0 l] := by
        have : Flags l.length (List.replicate ((l.length : Int)).toNat false) [] := ⟨by simp, fun c c0 c1 => by
          unfold rdOf
          simp [List.getD_eq_getElem?_getD, List.getElem?_replicate]
          split <;> rfl⟩
        exact flags_set this _ hf.1 (by omega)
      have ho := implOut ha hb hm (j : Int) (nn : Int) (j : Int) (fstOf (j : Int) 0 l) (fun c => if c = (many (j : Int) l : Int) then some ((List.range' (j + 1) m).all (fun k => decide ((k : Int) ∈ l) && conn a b l k)) else some false) (2000 * m + 170) (by
        intro k c hk c0 c1
        have := implCount (a := a) (b := b) (l := l) (by omega) (j : Int) (nn : Int) (j : Int) (some ((List.range' (j + 1) m).all (fun k => decide ((k : Int) ∈ l) && conn a b l k))) (2000 * m + 10) (fun k hk => by rw [wnat (by omega)]; exact ih (j + 1) k (by omega) hk) l.length 0 c k (by omega) (by omega) (by omega) (by omega)
        rw [show ((0 : Nat) : Int) = 0 from rfl, List.drop_zero] at this
        exact this) l.length [fstOf (j : Int) 0 l] _ 0 (by omega) (Met.start _ _ _) hfl hs k (by omega)
      rw [show ((0 : Nat) : Int) = 0 from rfl] at ho
      rw [ho, conn_I ha hb hm hk2]
      unfold conn
      simp only [hk2, decide_true, Bool.true_and]
      by_cases h : (flood (fun c => decide (rd l c = (j : Int))) (nbS a b) l.length [fstOf (j : Int) 0 l] 0).length = many (j : Int) l
      · rw [if_pos (by omega)]; simp [h]
      · rw [if_neg (by omega)]; simp [h]
    · rw [if_neg hk2] at hf
      rw [if_pos (by omega)]
      simp [hk2]

theorem implTiling {a b : Int} {l : List Int} (k : Nat) (hk : 90000 < k) : impl_ValidTiling.f k a b l = some (okT a b l) := by
  obtain ⟨k, rfl⟩ : ∃ m, k = m + 2 := ⟨k - 2, by omega⟩
  unfold impl_ValidTiling.f okT
  rw [within_eq, within_eq]
  simp only [Option.bind_some, impl_ValidTiling.j0]
  by_cases ha : 1 ≤ a ∧ a ≤ 12
  · by_cases hb : 1 ≤ b ∧ b ≤ 12
    · have m12 := mul12 ha hb
      rw [w64 (x := a * b) (by omega) (by omega)]
      by_cases hm : (l.length : Int) = a * b
      · have hp : 0 < l.length := by omega
        simp only [ha, hb, hm, and_self, decide_true, if_true, bne_self_eq_false, Bool.false_eq_true, if_false, Bool.true_and]
        rw [implMin l hp (by omega) (k + 1) (by omega), implMax l hp (by omega) (k + 1) (by omega)]
        simp only [Option.bind_some]
        show _ = some ((l.all inR) && _)
        obtain ⟨a1, a2, a3⟩ := foldmin (l.drop 1) l[0]
        obtain ⟨b1, b2, b3⟩ := foldmax (l.drop 1) l[0]
        have hc := cons_drop l hp
        by_cases h1 : (l.drop 1).foldl mn l[0] < 0
        · rw [if_pos h1]
          simp only [impl_ValidTiling.j1, if_true]
          rw [show l.all inR = false by
            rw [Bool.eq_false_iff]
            intro h
            have hx : (l.drop 1).foldl mn l[0] ∈ l := by
              rcases a3 with a3 | a3
              · rw [a3]; exact List.getElem_mem hp
              · exact List.mem_of_mem_drop a3
            have := List.all_eq_true.1 h _ hx
            unfold inR at this
            rw [decide_eq_true_eq] at this
            omega]
          rfl
        · rw [if_neg h1]
          have h0 : ∀ x ∈ l, 0 ≤ x := by
            intro x hx
            rw [hc] at hx
            rcases List.mem_cons.1 hx with rfl | hx
            · omega
            · have := a2 x hx; omega
          rw [max_top l hp h0]
          by_cases h2 : top l - 1 ≥ 36
          · simp only [h2, decide_true, impl_ValidTiling.j1, if_true]
            rw [show l.all inR = false by
              rw [Bool.eq_false_iff]
              intro h
              have hall : ∀ x ∈ l, 0 ≤ x ∧ x ≤ 35 := fun x hx => by simpa [inR] using List.all_eq_true.1 h x hx
              have := top_pos hp hall
              omega]
            rfl
          · have hin : l.all inR = true := by
              rw [List.all_eq_true]
              intro x hx
              have e := max_top l hp h0
              rw [foldmx] at e
              have h3 := h0 x hx
              have h4 : x ≤ (l.drop 1).foldl mxf l[0] := by
                rw [hc] at hx
                rcases List.mem_cons.1 hx with rfl | hx
                · exact b1
                · exact b2 x hx
              unfold inR
              rw [decide_eq_true_eq]
              omega
            have hall : ∀ x ∈ l, 0 ≤ x ∧ x ≤ 35 := fun x hx => by simpa [inR] using List.all_eq_true.1 hin x hx
            have htp := top_pos hp hall
            simp only [h2, decide_false, impl_ValidTiling.j1, Bool.false_eq_true, if_false, impl_tiles.f]
            rw [implMax l hp (by omega) k (by omega), max_top l hp h0]
            simp only [Option.bind_some]
            rw [w64 (by omega) (by omega), show top l - 1 + 1 = (((top l).toNat : Nat) : Int) by omega]
            have := implTiles ha hb hm (top l).toNat (by omega) (top l).toNat 0 k (by omega) (by omega)
            rw [show ((0 : Nat) : Int) = 0 from rfl] at this
            rw [this, hin, List.range_eq_range']
            rfl
      · simp [ha, hb, hm]
    · simp [ha, hb]
  · simp [ha]

theorem okT_spec {a b : Int} {l : List Int} (h : okT a b l = true) : (1 ≤ a ∧ a ≤ 12) ∧ (1 ≤ b ∧ b ≤ 12) ∧ (l.length : Int) = a * b ∧ (∀ x ∈ l, 0 ≤ x ∧ x ≤ 35) := by
  unfold okT at h
  simp only [Bool.and_eq_true, decide_eq_true_eq, List.all_eq_true] at h
  exact ⟨h.1, h.2.1, h.2.2.1, h.2.2.2.1⟩

def upTo : Nat → Int → List Int
  | 0, _ => []
  | n + 1, m => m :: upTo n (m + 1)

theorem upTo_len : ∀ (n : Nat) (m : Int), (upTo n m).length = n
  | 0, _ => rfl
  | n + 1, m => by simp [upTo, upTo_len n]

theorem upTo_get : ∀ (n : Nat) (m : Int) (i : Nat) (h : i < (upTo n m).length), (upTo n m)[i] = m + i
  | 0, m, i, h => by simp [upTo] at h
  | n + 1, m, 0, h => by simp [upTo]
  | n + 1, m, i + 1, h => by
    have h' : i < (upTo n (m + 1)).length := by simpa [upTo] using h
    have := upTo_get n (m + 1) i h'
    simp only [upTo, List.getElem_cons_succ, this]; omega

theorem markInts_eq (l : List Int) (hl : l.length ≤ 1048576) (m : Int) (h0 : 0 ≤ m) (h1 : m ≤ 100000000) (k : Nat) (hk : l.length < k) : laws_markInt64S.f k l m = some (m + l.length, upTo l.length m) := by
  have key : ∀ (n i k : Nat) (s : List Int), i + n = l.length → n < k → s.length = l.length → s.take i = (upTo l.length m).take i →
      laws_markInt64S.l0 k s (m + i) (i : Int) = some (m + l.length, upTo l.length m) := by
    intro n
    induction n with
    | zero =>
      intro i k s hi hk hs ht
      obtain ⟨k, rfl⟩ : ∃ m, k = m + 1 := ⟨k - 1, by omega⟩
      obtain rfl : i = l.length := by omega
      simp only [laws_markInt64S.l0]
      have e : s = upTo l.length m := by
        rw [List.take_of_length_le (by omega), List.take_of_length_le (by rw [upTo_len]; omega)] at ht; exact ht
      rw [if_neg (by omega), e]
    | succ n ih =>
      intro i k s hi hk hs ht
      obtain ⟨k, rfl⟩ : ∃ m, k = m + 1 := ⟨k - 1, by omega⟩
      simp only [laws_markInt64S.l0]
      rw [if_pos (by omega), if_pos (by omega), w64 (x := m + i + 1) (by omega) (by omega), wnat (by omega)]
      have hh := ih (i + 1) k (s.set (i : Int).toNat (m + i)) (by omega) (by omega) (by rw [List.length_set]; exact hs) (by
        have hlt : i < (upTo l.length m).length := by rw [upTo_len]; omega
        rw [List.take_succ_eq_append_getElem (by rw [List.length_set]; omega), List.take_succ_eq_append_getElem hlt, List.take_set_of_le (by omega), ht, upTo_get _ _ _ hlt]
        simp)
      rw [show m + ((i + 1 : Nat) : Int) = m + i + 1 by omega] at hh
      exact hh
  have := key l.length 0 k l (by omega) hk rfl (by simp)
  unfold laws_markInt64S.f
  simpa using this

theorem heldInts_eq (n : Nat) (hn : n ≤ 1048576) (m : Int) (h0 : 0 ≤ m) (h1 : m ≤ 100000000) (k : Nat) (hk : n < k) : laws_heldInt64S.f k (upTo n m) m = some (m + n) := by
  have key : ∀ (d i k : Nat), i + d = n → d < k → laws_heldInt64S.l0 k (upTo n m) (m + i) (i : Int) = some (m + n) := by
    intro d
    induction d with
    | zero =>
      intro i k hi hk
      obtain ⟨k, rfl⟩ : ∃ m, k = m + 1 := ⟨k - 1, by omega⟩
      obtain rfl : i = n := by omega
      simp only [laws_heldInt64S.l0]
      rw [if_neg (by rw [upTo_len]; omega)]
    | succ d ih =>
      intro i k hi hk
      obtain ⟨k, rfl⟩ : ∃ m, k = m + 1 := ⟨k - 1, by omega⟩
      simp only [laws_heldInt64S.l0]
      have hlt : i < (upTo n m).length := by rw [upTo_len]; omega
      rw [if_pos (by omega), if_pos (by omega), rdi _ i hlt, upTo_get _ _ _ hlt, if_pos rfl, w64 (x := m + i + 1) (by omega) (by omega), wnat (by omega)]
      have hh := ih (i + 1) k (by omega) (by omega)
      rw [show m + ((i + 1 : Nat) : Int) = m + i + 1 by omega] at hh
      exact hh
  have := key n 0 k (by omega) hk
  unfold laws_heldInt64S.f
  simpa using this

theorem strict_ext : ∀ (p q : List Int), p.Pairwise (· < ·) → q.Pairwise (· < ·) → (∀ v, v ∈ p ↔ v ∈ q) → p = q
  | [], [], _, _, _ => rfl
  | [], y :: q, _, _, h => absurd ((h y).2 (by simp)) (by simp)
  | x :: p, [], _, _, h => absurd ((h x).1 (by simp)) (by simp)
  | x :: p, y :: q, hp, hq, h => by
    rw [List.pairwise_cons] at hp hq
    have h1 := (h x).1 (by simp)
    have h2 := (h y).2 (by simp)
    rw [List.mem_cons] at h1 h2
    have e : x = y := by
      rcases h1 with h1 | h1
      · exact h1
      · rcases h2 with h2 | h2
        · exact h2.symm
        · have := hp.1 y h2
          have := hq.1 x h1
          omega
    subst e
    rw [strict_ext p q hp.2 hq.2 (fun v => ⟨fun hv => ?_, fun hv => ?_⟩)]
    · have := hp.1 v hv
      rcases List.mem_cons.1 ((h v).1 (List.mem_cons_of_mem _ hv)) with g | g
      · omega
      · exact g
    · have := hq.1 v hv
      rcases List.mem_cons.1 ((h v).2 (List.mem_cons_of_mem _ hv)) with g | g
      · omega
      · exact g

theorem compact_inv (d : Array Int) (hs : ∀ i j, i ≤ j → j < d.size → d[i]! ≤ d[j]!) : ∀ m, m ≤ d.size → (Go.Lib.compactUpTo d m).Pairwise (· < ·) ∧ ∀ v, v ∈ Go.Lib.compactUpTo d m ↔ ∃ j, j < m ∧ v = d[j]!
  | 0, _ => by
    refine ⟨by simp [Go.Lib.compactUpTo], fun v => ⟨fun h => by simp [Go.Lib.compactUpTo] at h, fun ⟨j, h, _⟩ => absurd h (by omega)⟩⟩
  | m + 1, hm => by
    obtain ⟨h1, h2⟩ := compact_inv d hs m (by omega)
    rw [Go.Lib.compactUpTo_succ]
    by_cases hk : Go.Lib.keeps d m = true
    · rw [if_pos hk]
      refine ⟨?_, fun v => ?_⟩
      · rw [List.pairwise_append]
        refine ⟨h1, by simp, fun x hx y hy => ?_⟩
        rw [List.mem_singleton] at hy
        subst hy
        obtain ⟨j, hj, rfl⟩ := (h2 x).1 hx
        have a1 := hs j (m - 1) (by omega) (by omega)
        have a2 := hs (m - 1) m (by omega) (by omega)
        have a3 : d[m]! ≠ d[m - 1]! := by
          intro e
          rw [Go.Lib.keeps_neg (by omega) e] at hk
          exact absurd hk (by simp)
        omega
      · rw [List.mem_append, h2 v, List.mem_singleton]
        constructor
        · rintro (⟨j, hj, rfl⟩ | rfl)
          · exact ⟨j, by omega, rfl⟩
          · exact ⟨m, by omega, rfl⟩
        · rintro ⟨j, hj, rfl⟩
          by_cases e : j = m
          · subst e; exact Or.inr rfl
          · exact Or.inl ⟨j, by omega, rfl⟩
    · rw [if_neg hk, List.append_nil]
      refine ⟨h1, fun v => ?_⟩
      rw [h2 v]
      have hk' : m ≠ 0 ∧ d[m]! = d[m - 1]! := by simpa [Go.Lib.keeps] using hk
      constructor
      · rintro ⟨j, hj, rfl⟩; exact ⟨j, by omega, rfl⟩
      · rintro ⟨j, hj, rfl⟩
        by_cases e : j = m
        · subst e; exact ⟨j - 1, by omega, hk'.2⟩
        · exact ⟨j, by omega, rfl⟩

def neat (l : List Int) : List Int := Go.Lib.compact (Go.Proofs.YtopopjkoanpjiaaX.sortI l)

theorem neat_spec (l : List Int) : (neat l).Pairwise (· < ·) ∧ ∀ v, v ∈ neat l ↔ v ∈ l := by
  have hp : (Go.Proofs.YtopopjkoanpjiaaX.sortI l).Pairwise (fun x y => decide (x ≤ y) = true) :=
    List.pairwise_mergeSort (fun a b c h1 h2 => by simp only [decide_eq_true_eq] at *; omega) (fun a b => by simp only [Bool.or_eq_true, decide_eq_true_eq]; omega) l
  have hm : ∀ v, v ∈ Go.Proofs.YtopopjkoanpjiaaX.sortI l ↔ v ∈ l := fun v => List.mem_mergeSort
  unfold neat Go.Lib.compact
  generalize Go.Proofs.YtopopjkoanpjiaaX.sortI l = s at hp hm
  have hg : ∀ j, j < s.length → s.toArray[j]! = s[j]! := fun j hj => by simp
  have hs : ∀ i j, i ≤ j → j < s.toArray.size → s.toArray[i]! ≤ s.toArray[j]! := by
    intro i j hij hj
    have hj' : j < s.length := by simpa using hj
    rw [getElem!_pos s.toArray i (by simp; omega), getElem!_pos s.toArray j hj]
    by_cases e : i = j
    · subst e; exact Int.le_refl _
    · have := List.pairwise_iff_getElem.1 hp i j (by omega) hj' (by omega)
      simpa using this
  obtain ⟨h1, h2⟩ := compact_inv s.toArray hs s.length (by simp)
  refine ⟨h1, fun v => ?_⟩
  rw [h2 v, ← hm v, List.mem_iff_getElem]
  constructor
  · rintro ⟨j, hj, rfl⟩
    exact ⟨j, hj, by rw [getElem!_pos s.toArray j (by simpa using hj)]; simp⟩
  · rintro ⟨j, hj, rfl⟩
    exact ⟨j, hj, by rw [getElem!_pos s.toArray j (by simpa using hj)]; simp⟩

def put (v : Int) : List Int → List Int
  | [] => [v]
  | x :: r => if x ≥ v then (if x > v then v :: x :: r else x :: r) else x :: put v r

theorem put_spec (v : Int) : ∀ q : List Int, q.Pairwise (· < ·) → (put v q).Pairwise (· < ·) ∧ (put v q).length ≤ q.length + 1 ∧ ∀ x, x ∈ put v q ↔ x ∈ q ∨ x = v
  | [], _ => by simp [put]
  | y :: r, h => by
    rw [List.pairwise_cons] at h
    obtain ⟨h1, h2, h3⟩ := put_spec v r h.2
    unfold put
    by_cases g : y ≥ v
    · rw [if_pos g]
      by_cases g2 : y > v
      · rw [if_pos g2]
        refine ⟨?_, by simp, fun x => ?_⟩
        · rw [List.pairwise_cons, List.pairwise_cons]
          refine ⟨fun x hx => ?_, h⟩
          rcases List.mem_cons.1 hx with rfl | hx
          · omega
          · have := h.1 x hx; omega
        · rw [List.mem_cons (a := x) (b := v)]; exact or_comm
      · rw [if_neg g2]
        have : y = v := by omega
        subst this
        refine ⟨List.pairwise_cons.2 h, by simp, fun x => ⟨Or.inl, fun hx => hx.elim id (fun e => by simp [e])⟩⟩
    · rw [if_neg g]
      refine ⟨?_, by simp only [List.length_cons]; omega, fun x => ?_⟩
      · rw [List.pairwise_cons]
        refine ⟨fun x hx => ?_, h1⟩
        rcases (h3 x).1 hx with hx | rfl
        · exact h.1 x hx
        · omega
      · rw [List.mem_cons, List.mem_cons, h3 x, or_assoc]

theorem putT (q : List Int) (v : Int) (hq : q.length ≤ 10000) : ∀ (n i : Nat) (out : List Int) (k : Nat), i + n = q.length → 2 * n < k → out.length ≤ 2 * i → spec_l00Put.l0 k q v out true (i : Int) = some (out ++ q.drop i) := by
  intro n
  induction n with
  | zero =>
    intro i out k hi hk ho
    obtain ⟨k, rfl⟩ : ∃ m, k = m + 1 := ⟨k - 1, by omega⟩
    simp only [spec_l00Put.l0]
    rw [if_neg (by omega), if_pos trivial, List.drop_of_length_le (by omega), List.append_nil]
  | succ n ih =>
    intro i out k hi hk ho
    obtain ⟨k, rfl⟩ : ∃ m, k = m + 2 := ⟨k - 2, by omega⟩
    have hlt : i < q.length := by omega
    simp only [spec_l00Put.l0, spec_l00Put.j1]
    rw [if_pos (by omega), if_pos trivial, if_neg (by simp), if_pos (by omega), if_pos (by omega), if_pos (by omega), rdi q i hlt, wnat (by omega), ih (i + 1) _ k (by omega) (by omega) (by rw [List.length_append, List.length_singleton]; omega), List.drop_eq_getElem_cons hlt, List.append_assoc, List.singleton_append]

theorem putF (q : List Int) (v : Int) (hq : q.length ≤ 10000) : ∀ (n i : Nat) (out : List Int) (k : Nat), i + n = q.length → 2 * n < k → out.length ≤ i → spec_l00Put.l0 k q v out false (i : Int) = some (out ++ put v (q.drop i)) := by
  intro n
  induction n with
  | zero =>
    intro i out k hi hk ho
    obtain ⟨k, rfl⟩ : ∃ m, k = m + 1 := ⟨k - 1, by omega⟩
    simp only [spec_l00Put.l0]
    rw [if_neg (by omega), if_neg (by simp), if_pos (by omega), List.drop_of_length_le (by omega)]; rfl
  | succ n ih =>
    intro i out k hi hk ho
    obtain ⟨k, rfl⟩ : ∃ m, k = m + 2 := ⟨k - 2, by omega⟩
    have hlt : i < q.length := by omega
    simp only [spec_l00Put.l0, spec_l00Put.j1]
    rw [if_pos (by omega), if_neg (by simp), if_pos (by omega), rdi q i hlt, List.drop_eq_getElem_cons hlt]
    unfold put
    by_cases g : q[i] ≥ v
    · rw [if_pos (by simpa using g), if_pos (by omega), if_pos (by omega), if_pos g]
      by_cases g2 : q[i] > v
      · rw [if_pos g2, if_pos g2, if_pos (by omega), Option.bind_some, if_pos (by rw [List.length_append, List.length_singleton]; omega), wnat (by omega), putT q v hq n (i + 1) _ k (by omega) (by omega) (by simp only [List.length_append, List.length_singleton]; omega), List.append_assoc, List.append_assoc]; rfl
      · rw [if_neg g2, if_neg g2, if_pos (by omega), wnat (by omega), putT q v hq n (i + 1) _ k (by omega) (by omega) (by simp only [List.length_append, List.length_singleton]; omega), List.append_assoc]; rfl
    · rw [if_neg (by simpa using g), if_pos (by omega), if_pos (by omega), if_pos (by omega), if_neg g, wnat (by omega), ih (i + 1) _ k (by omega) (by omega) (by rw [List.length_append, List.length_singleton]; omega), List.append_assoc]; rfl

theorem put_eq (q : List Int) (v : Int) (hq : q.length ≤ 10000) (k : Nat) (hk : 20000 < k) : spec_l00Put.f k q v = some (put v q) := by
  have := putF q v hq q.length 0 [] k (by omega) (by omega) (by simp)
  simpa [spec_l00Put.f] using this

/-- one cell's neighbours into the answer -/
def nearIn (l : List Int) (t : Int) (q cs : List Int) : List Int := cs.foldl (fun q c => if rd l c = t then q else put (rd l c) q) q

theorem nearIn_spec (l : List Int) (t : Int) : ∀ (cs q : List Int), q.Pairwise (· < ·) → (nearIn l t q cs).Pairwise (· < ·) ∧ (nearIn l t q cs).length ≤ q.length + cs.length ∧ ∀ v, v ∈ nearIn l t q cs ↔ v ∈ q ∨ ∃ c ∈ cs, rd l c ≠ t ∧ v = rd l c
  | [], q, h => ⟨h, by simp [nearIn], fun v => by simp [nearIn]⟩
  | c :: cs, q, h => by
    show (nearIn l t (if rd l c = t then q else put (rd l c) q) cs).Pairwise _ ∧ (nearIn l t (if rd l c = t then q else put (rd l c) q) cs).length ≤ _ ∧ ∀ v, v ∈ nearIn l t (if rd l c = t then q else put (rd l c) q) cs ↔ _
    by_cases g : rd l c = t
    · rw [if_pos g]
      obtain ⟨h1, h2, h3⟩ := nearIn_spec l t cs q h
      refine ⟨h1, by rw [List.length_cons]; omega, fun v => ?_⟩
      rw [h3 v]
      constructor
      · rintro (h | ⟨x, hx, h⟩)
        · exact Or.inl h
        · exact Or.inr ⟨x, List.mem_cons_of_mem _ hx, h⟩
      · rintro (h | ⟨x, hx, h⟩)
        · exact Or.inl h
        · rcases List.mem_cons.1 hx with rfl | hx
          · exact absurd g h.1
          · exact Or.inr ⟨x, hx, h⟩
    · rw [if_neg g]
      obtain ⟨p1, p2, p3⟩ := put_spec (rd l c) q h
      obtain ⟨h1, h2, h3⟩ := nearIn_spec l t cs _ p1
      refine ⟨h1, by rw [List.length_cons]; omega, fun v => ?_⟩
      rw [h3 v, p3 v]
      constructor
      · rintro ((h | h) | ⟨x, hx, h⟩)
        · exact Or.inl h
        · exact Or.inr ⟨c, by simp, g, h⟩
        · exact Or.inr ⟨x, List.mem_cons_of_mem _ hx, h⟩
      · rintro (h | ⟨x, hx, h⟩)
        · exact Or.inl (Or.inl h)
        · rcases List.mem_cons.1 hx with rfl | hx
          · exact Or.inl (Or.inr h.2)
          · exact Or.inr ⟨x, hx, h⟩

def nearO (a b : Int) (l : List Int) (t : Int) : Nat → Nat → List Int → List Int
  | 0, _, q => q
  | n + 1, i, q => nearO a b l t n (i + 1) (if rd l i = t then nearIn l t q (nbS a b i) else q)

theorem nearO_spec (a b : Int) (l : List Int) (t : Int) : ∀ (n i : Nat) (q : List Int), q.Pairwise (· < ·) → (nearO a b l t n i q).Pairwise (· < ·) ∧ (nearO a b l t n i q).length ≤ q.length + 4 * n ∧
    ∀ v, v ∈ nearO a b l t n i q ↔ v ∈ q ∨ ∃ j : Nat, i ≤ j ∧ j < i + n ∧ rd l j = t ∧ ∃ c ∈ nbS a b j, rd l c ≠ t ∧ v = rd l c
  | 0, i, q, h => ⟨h, by simp [nearO], fun v => ⟨Or.inl, fun g => g.elim id (fun ⟨j, h1, h2, _⟩ => absurd h1 (by omega))⟩⟩
  | n + 1, i, q, h => by
    unfold nearO
    by_cases g : rd l i = t
    · rw [if_pos g]
      obtain ⟨p1, p2, p3⟩ := nearIn_spec l t (nbS a b i) q h
      obtain ⟨h1, h2, h3⟩ := nearO_spec a b l t n (i + 1) _ p1
      have e4 : (nbS a b i).length = 4 := rfl
      refine ⟨h1, by omega, fun v => ?_⟩
      rw [h3 v, p3 v]
      constructor
      · rintro ((h | h) | ⟨j, j1, j2, h⟩)
        · exact Or.inl h
        · exact Or.inr ⟨i, by omega, by omega, g, h⟩
        · exact Or.inr ⟨j, by omega, by omega, h⟩
      · rintro (h | ⟨j, j1, j2, h⟩)
        · exact Or.inl (Or.inl h)
        · by_cases e : j = i
          · subst e; exact Or.inl (Or.inr h.2)
          · exact Or.inr ⟨j, by omega, by omega, h⟩
    · rw [if_neg g]
      obtain ⟨h1, h2, h3⟩ := nearO_spec a b l t n (i + 1) q h
      refine ⟨h1, by omega, fun v => ?_⟩
      rw [h3 v]
      constructor
      · rintro (h | ⟨j, j1, j2, h⟩)
        · exact Or.inl h
        · exact Or.inr ⟨j, by omega, by omega, h⟩
      · rintro (h | ⟨j, j1, j2, h⟩)
        · exact Or.inl h
        · by_cases e : j = i
          · subst e; exact absurd h.1 g
          · exact Or.inr ⟨j, by omega, by omega, h⟩

theorem specNearIn (a b : Int) (l : List Int) (t : Int) (i : Nat) (hi : i < l.length) : ∀ (cs dn q : List Int) (f k : Nat), f = k + cs.length + 1 → q.Pairwise (· < ·) → q.length + cs.length ≤ 9000 → 21000 < k → dn.length + cs.length ≤ 10 → (∀ c ∈ cs, 0 ≤ c ∧ c < (l.length : Int)) →
    spec_l17Near.l1 f t q i (dn ++ cs) (dn.length : Int) [(⟨a, b, l⟩ : S28)] = spec_l17Near.l0 k t (if rd l i = t then nearIn l t q cs else q) (wrap64 ((i : Int) + 1)) [(⟨a, b, l⟩ : S28)] := by
  have r : rd_T28 [(⟨a, b, l⟩ : S28)] 0 = ⟨a, b, l⟩ := rfl
  intro cs
  induction cs with
  | nil =>
    intro dn q f k hf hs hq hk hd hc
    obtain rfl : f = k + 1 := by simpa using hf
    simp only [spec_l17Near.l1, r]
    rw [if_neg (by simp)]
    by_cases g : rd l i = t
    · rw [if_pos g]; rfl
    · rw [if_neg g]
  | cons c cs ih =>
    intro dn q f k hf hs hq hk hd hc
    rw [List.length_cons] at hf hq hd
    obtain ⟨f, rfl⟩ : ∃ m, f = m + 1 := ⟨f - 1, by omega⟩
    obtain ⟨c0, c1⟩ := hc c (by simp)
    have hi' := fun q' (h' : q'.Pairwise (· < ·)) (hq' : q'.length ≤ q.length + 1) => ih (dn ++ [c]) q' f k (by omega) h' (by omega) hk (by rw [List.length_append, List.length_singleton]; omega) (fun x hx => hc x (List.mem_cons_of_mem _ hx))
    rw [List.append_assoc, List.singleton_append, List.length_append, List.length_singleton] at hi'
    simp only [spec_l17Near.l1, r, rd_mid]
    rw [if_pos (by rw [List.length_append, List.length_cons]; omega), if_pos (by simp), if_pos (by omega), if_pos (by omega), wnat (n := dn.length) (by omega)]
    obtain ⟨p1, p2, p3⟩ := put_spec (rd l c) q hs
    by_cases g : rd l i = t
    · rw [if_pos g, if_pos g, if_pos (by omega), if_pos c0, if_pos c1]
      show _ = spec_l17Near.l0 k t (nearIn l t (if rd l c = t then q else put (rd l c) q) cs) _ _
      by_cases g2 : rd l c = t
      · have := hi' q hs (by omega)
        rw [if_pos g] at this
        rw [if_pos g2, if_pos g2, this]
      · have := hi' (put (rd l c) q) p1 (by omega)
        rw [if_pos g] at this
        rw [if_neg g2, if_neg g2, put_eq q _ (by omega) f (by omega), Option.bind_some, this]
    · have := hi' q hs (by omega)
      rw [if_neg g] at this
      rw [if_neg g, if_neg g, this]

theorem specNear {a b : Int} {l : List Int} (ha : 1 ≤ a ∧ a ≤ 12) (hb : 1 ≤ b ∧ b ≤ 12) (hm : (l.length : Int) = a * b) (t : Int) : ∀ (n i : Nat) (q : List Int) (k : Nat), i + n = l.length → q.Pairwise (· < ·) → q.length ≤ 4 * i → 21010 + 6 * n < k →
    spec_l17Near.l0 k t q (i : Int) [(⟨a, b, l⟩ : S28)] = some (nearO a b l t n i q) := by
  have r : rd_T28 [(⟨a, b, l⟩ : S28)] 0 = ⟨a, b, l⟩ := rfl
  have m12 := mul12 ha hb
  intro n
  induction n with
  | zero =>
    intro i q k hi hs hq hk
    obtain ⟨k, rfl⟩ : ∃ m, k = m + 1 := ⟨k - 1, by omega⟩
    simp only [spec_l17Near.l0, r]
    rw [if_pos (by simp), if_neg (by omega)]
    rfl
  | succ n ih =>
    intro i q k hi hs hq hk
    obtain ⟨k, rfl⟩ : ∃ m, k = m + 6 := ⟨k - 6, by omega⟩
    have hn : ∀ c ∈ nbS a b i, 0 ≤ c ∧ c < (l.length : Int) := fun c hc => by rw [hm]; exact nbS_in ha hb _ c hc
    have e4 : (nbS a b i).length = 4 := rfl
    simp only [spec_l17Near.l0, r]
    rw [if_pos (by simp), if_pos (by omega), specAround l ha hb _ (by omega), Option.bind_some]
    have := specNearIn a b l t i (by omega) (nbS a b i) [] q (k + 5) k rfl hs (by omega) (by omega) (by simp [e4]) hn
    rw [List.nil_append] at this
    obtain ⟨p1, p2, _⟩ := nearIn_spec l t (nbS a b i) q hs
    rw [show ((0 : Int)) = ((([] : List Int).length : Nat) : Int) from rfl, this, wnat (by omega)]
    refine ih (i + 1) _ k (by omega) ?_ ?_ (by omega)
    · by_cases g : rd l i = t
      · rw [if_pos g]; exact p1
      · rw [if_neg g]; exact hs
    · by_cases g : rd l i = t
      · rw [if_pos g]; omega
      · rw [if_neg g]; omega

theorem rd1_set (y : List (List Int)) (t kk : Int) (v : List Int) (t0 : 0 ≤ t) (t1 : t < (y.length : Int)) (h0 : 0 ≤ kk) : rd_L1 (y.set t.toNat v) kk = if kk = t then v else rd_L1 y kk := by
  unfold rd_L1
  rw [List.getD_eq_getElem?_getD, List.getD_eq_getElem?_getD]
  by_cases e : kk = t
  · subst e
    rw [if_pos rfl, List.getElem?_set_self (by omega)]; rfl
  · rw [if_neg e, List.getElem?_set_ne (by omega)]

def rowsIn (l : List Int) (t : Int) (cs : List Int) (y : List (List Int)) : List (List Int) := cs.foldl (fun y c => if rd l c = t then y else y.set t.toNat (rd_L1 y t ++ [rd l c])) y

theorem rowsIn_spec (l : List Int) (t : Int) (t0 : 0 ≤ t) : ∀ (cs : List Int) (y : List (List Int)), t < (y.length : Int) → (rowsIn l t cs y).length = y.length ∧ ∀ kk : Int, 0 ≤ kk →
    (rd_L1 (rowsIn l t cs y) kk).length ≤ (rd_L1 y kk).length + cs.length ∧ ∀ v, v ∈ rd_L1 (rowsIn l t cs y) kk ↔ v ∈ rd_L1 y kk ∨ (t = kk ∧ ∃ c ∈ cs, rd l c ≠ kk ∧ v = rd l c)
  | [], y, _ => ⟨rfl, fun kk _ => ⟨by simp [rowsIn], fun v => by simp [rowsIn]⟩⟩
  | c :: cs, y, h => by
    show (rowsIn l t cs (if rd l c = t then y else y.set t.toNat (rd_L1 y t ++ [rd l c]))).length = _ ∧ ∀ kk : Int, 0 ≤ kk → (rd_L1 (rowsIn l t cs (if rd l c = t then y else y.set t.toNat (rd_L1 y t ++ [rd l c]))) kk).length ≤ _ ∧ ∀ v, v ∈ rd_L1 (rowsIn l t cs (if rd l c = t then y else y.set t.toNat (rd_L1 y t ++ [rd l c]))) kk ↔ _
    by_cases g : rd l c = t
    · rw [if_pos g]
      obtain ⟨h1, h2⟩ := rowsIn_spec l t t0 cs y h
      refine ⟨h1, fun kk hk => ?_⟩
      obtain ⟨h3, h4⟩ := h2 kk hk
      refine ⟨by rw [List.length_cons]; omega, fun v => ?_⟩
      rw [h4 v]
      constructor
      · rintro (h | ⟨e, x, hx, h⟩)
        · exact Or.inl h
        · exact Or.inr ⟨e, x, List.mem_cons_of_mem _ hx, h⟩
      · rintro (h | ⟨e, x, hx, h⟩)
        · exact Or.inl h
        · rcases List.mem_cons.1 hx with rfl | hx
          · exact absurd (g.trans e) h.1
          · exact Or.inr ⟨e, x, hx, h⟩
    · rw [if_neg g]
      obtain ⟨h1, h2⟩ := rowsIn_spec l t t0 cs (y.set t.toNat (rd_L1 y t ++ [rd l c])) (by rw [List.length_set]; exact h)
      refine ⟨by rw [h1, List.length_set], fun kk hk => ?_⟩
      obtain ⟨h3, h4⟩ := h2 kk hk
      rw [rd1_set y t kk _ t0 h hk] at h3 h4
      by_cases e : kk = t
      · subst e
        rw [if_pos rfl] at h3 h4
        rw [List.length_append, List.length_singleton] at h3
        refine ⟨by rw [List.length_cons]; omega, fun v => ?_⟩
        rw [h4 v, List.mem_append, List.mem_singleton]
        constructor
        · rintro ((h | h) | ⟨e, x, hx, h⟩)
          · exact Or.inl h
          · exact Or.inr ⟨rfl, c, by simp, g, h⟩
          · exact Or.inr ⟨e, x, List.mem_cons_of_mem _ hx, h⟩
        · rintro (h | ⟨e, x, hx, h⟩)
          · exact Or.inl (Or.inl h)
          · rcases List.mem_cons.1 hx with rfl | hx
            · exact Or.inl (Or.inr h.2)
            · exact Or.inr ⟨e, x, hx, h⟩
      · rw [if_neg e] at h3 h4
        refine ⟨by rw [List.length_cons]; omega, fun v => ?_⟩
        rw [h4 v]
        constructor
        · rintro (h | ⟨e, x, hx, h⟩)
          · exact Or.inl h
          · exact absurd e.symm (by assumption)
        · rintro (h | ⟨e, x, hx, h⟩)
          · exact Or.inl h
          · exact absurd e.symm (by assumption)

def rowsO (a b : Int) (l : List Int) : Nat → Nat → List (List Int) → List (List Int)
  | 0, _, y => y
  | n + 1, i, y => rowsO a b l n (i + 1) (rowsIn l (rd l i) (nbI a b i) y)

theorem rowsO_spec (a b : Int) (l : List Int) (N : Nat) (hN : ∀ j : Nat, j < l.length → 0 ≤ rd l j ∧ rd l j < (N : Int)) : ∀ (n i : Nat) (y : List (List Int)), i + n = l.length → y.length = N → (rowsO a b l n i y).length = N ∧ ∀ kk : Int, 0 ≤ kk →
    (rd_L1 (rowsO a b l n i y) kk).length ≤ (rd_L1 y kk).length + 4 * n ∧ ∀ v, v ∈ rd_L1 (rowsO a b l n i y) kk ↔ v ∈ rd_L1 y kk ∨ ∃ j : Nat, i ≤ j ∧ j < i + n ∧ rd l j = kk ∧ ∃ c ∈ nbI a b j, rd l c ≠ kk ∧ v = rd l c
  | 0, i, y, hi, h => ⟨h, fun kk _ => ⟨by simp [rowsO], fun v => ⟨Or.inl, fun g => g.elim id (fun ⟨j, h1, h2, _⟩ => absurd h1 (by omega))⟩⟩⟩
  | n + 1, i, y, hi, h => by
    unfold rowsO
    have hr := hN i (by omega)
    obtain ⟨p1, p2⟩ := rowsIn_spec l (rd l i) hr.1 (nbI a b i) y (by omega)
    obtain ⟨h1, h2⟩ := rowsO_spec a b l N hN n (i + 1) _ (by omega) (p1.trans h)
    have e4 : (nbI a b i).length = 4 := rfl
    refine ⟨h1, fun kk hk => ?_⟩
    obtain ⟨p3, p4⟩ := p2 kk hk
    obtain ⟨h3, h4⟩ := h2 kk hk
    refine ⟨by omega, fun v => ?_⟩
    rw [h4 v, p4 v]
    constructor
    · rintro ((h | h) | ⟨j, j1, j2, h⟩)
      · exact Or.inl h
      · exact Or.inr ⟨i, by omega, by omega, h⟩
      · exact Or.inr ⟨j, by omega, by omega, h⟩
    · rintro (h | ⟨j, j1, j2, h⟩)
      · exact Or.inl (Or.inl h)
      · by_cases e : j = i
        · subst e; exact Or.inl (Or.inr h)
        · exact Or.inr ⟨j, by omega, by omega, h⟩

theorem implRowsIn {a b : Int} {l : List Int} (i : Nat) (t : Int) (t0 : 0 ≤ t) (c0 c1 c2 c3 : Int) : ∀ (cs dn : List Int) (y : List (List Int)) (f k : Nat), f = k + cs.length + 1 → t < (y.length : Int) → (rd_L1 y t).length + cs.length ≤ 9000 → [c0, c1, c2, c3] = dn ++ cs → (∀ c ∈ cs, 0 ≤ c ∧ c < (l.length : Int)) → i < 1000 →
    impl_tileNeighbours.l1 f y t l (l.length : Int) i (dn.length : Int) c0 c1 c2 c3 a b l = impl_tileNeighbours.l0 k (rowsIn l t cs y) l (l.length : Int) ((i + 1 : Nat) : Int) a b l := by
  intro cs
  induction cs with
  | nil =>
    intro dn y f k hf ht hb hd hc hi
    obtain rfl : f = k + 1 := by simpa using hf
    have := congrArg List.length hd
    simp only [List.length_append, List.length_cons, List.length_nil] at this
    simp only [impl_tileNeighbours.l1]
    rw [if_neg (by omega), wnat (by omega)]
    rfl
  | cons c cs ih =>
    intro dn y f k hf ht hb hd hc hi
    rw [List.length_cons] at hf hb
    have hlen := congrArg List.length hd
    simp only [List.length_append, List.length_cons, List.length_nil] at hlen
    obtain ⟨f, rfl⟩ : ∃ m, f = m + 1 := ⟨f - 1, by omega⟩
    obtain ⟨d0, d1⟩ := hc c (by simp)
    have hi' := fun y' (h1 : t < (y'.length : Int)) (h2 : (rd_L1 y' t).length ≤ (rd_L1 y t).length + 1) => ih (dn ++ [c]) y' f k (by omega) h1 (by omega) (by rw [List.append_assoc, List.singleton_append]; exact hd) (fun x hx => hc x (List.mem_cons_of_mem _ hx)) hi
    rw [List.length_append, List.length_singleton] at hi'
    simp only [impl_tileNeighbours.l1]
    rw [if_pos (by omega), if_pos (by omega), hd, rd_mid, if_pos d0, if_pos d1, wnat (n := dn.length) (by omega)]
    show _ = impl_tileNeighbours.l0 k (rowsIn l t cs (if rd l c = t then y else y.set t.toNat (rd_L1 y t ++ [rd l c]))) l (l.length : Int) _ a b l
    by_cases g : rd l c = t
    · rw [if_pos g, if_pos g, hi' y ht (by omega)]
    · rw [if_neg g, if_neg g, if_pos t0, if_pos ht, if_pos (by omega), hi' _ (by rw [List.length_set]; exact ht) (by rw [rd1_set y t t _ t0 ht t0, if_pos rfl, List.length_append, List.length_singleton]; omega)]

theorem implNeat : ∀ (r p : List (List Int)) (k : Nat), r.length < k → (∀ x ∈ r, x.length ≤ 9000) → p.length + r.length ≤ 1000 → impl_tileNeighbours.l2 k (p ++ r) ((p.length + r.length : Nat) : Int) (p.length : Int) = some (p ++ r.map neat)
  | [], p, k, hk, _, _ => by
    obtain ⟨k, rfl⟩ : ∃ m, k = m + 1 := ⟨k - 1, by omega⟩
    simp only [impl_tileNeighbours.l2]
    rw [if_neg (by simp)]; rfl
  | c :: r, p, k, hk, hr, hp => by
    rw [List.length_cons] at hk hp
    obtain ⟨k, rfl⟩ : ∃ m, k = m + 1 := ⟨k - 1, by omega⟩
    have hc := hr c (by simp)
    have e1 : rd_L1 (p ++ c :: r) (p.length : Int) = c := by
      unfold rd_L1
      rw [List.getD_eq_getElem?_getD, Int.toNat_natCast, List.getElem?_append_right (Nat.le_refl _), Nat.sub_self]; rfl
    have e2 : Go.Proofs.YtopopjkoanpjiaaX.slices_Sort.f c = some (Go.Proofs.YtopopjkoanpjiaaX.sortI c) := by
      unfold Go.Proofs.YtopopjkoanpjiaaX.slices_Sort.f; rw [if_pos (by omega)]
    have e3 : Go.Proofs.YtopopjkoanpjiaaX.slices_Compact.f (Go.Proofs.YtopopjkoanpjiaaX.sortI c) = some (neat c) := by
      unfold Go.Proofs.YtopopjkoanpjiaaX.slices_Compact.f; rw [if_pos (by rw [Go.Proofs.YtopopjkoanpjiaaX.sortI_len]; omega)]; rfl
    have e4 : (p ++ c :: r).set p.length (neat c) = (p ++ [neat c]) ++ r := by
      rw [List.set_append_right _ _ (Nat.le_refl _), Nat.sub_self, List.append_assoc]; rfl
    have := implNeat r (p ++ [neat c]) k (by omega) (fun x hx => hr x (List.mem_cons_of_mem _ hx)) (by rw [List.length_append, List.length_singleton]; omega)
    rw [List.length_append, List.length_singleton] at this
    simp only [impl_tileNeighbours.l2]
    rw [if_pos (by rw [List.length_cons]; omega), if_pos (by omega), if_pos (by rw [List.length_append, List.length_cons]; omega), e1, e2, Option.bind_some, e3, Option.bind_some, Int.toNat_natCast, e4, wnat (by omega), List.length_cons, show p.length + (r.length + 1) = p.length + 1 + r.length by omega, this, List.append_assoc]
    rfl

theorem implRows {a b : Int} {l : List Int} (ha : 1 ≤ a ∧ a ≤ 12) (hb : 1 ≤ b ∧ b ≤ 12) (hm : (l.length : Int) = a * b) (N : Nat) (hN : ∀ j : Nat, j < l.length → 0 ≤ rd l j ∧ rd l j < (N : Int)) (hN2 : N ≤ 40) : ∀ (n i : Nat) (y : List (List Int)) (k : Nat), i + n = l.length → y.length = N → (∀ kk : Int, 0 ≤ kk → (rd_L1 y kk).length ≤ 4 * i) → 100 + 6 * n < k →
    impl_tileNeighbours.l0 k y l (l.length : Int) (i : Int) a b l = some ((rowsO a b l n i y).map neat) := by
  have m12 := mul12 ha hb
  intro n
  induction n with
  | zero =>
    intro i y k hi hy hq hk
    obtain ⟨k, rfl⟩ : ∃ m, k = m + 1 := ⟨k - 1, by omega⟩
    simp only [impl_tileNeighbours.l0]
    rw [if_neg (by omega)]
    have := implNeat y [] k (by omega) (fun x hx => by
      obtain ⟨j, hj, rfl⟩ := List.mem_iff_getElem.1 hx
      have := hq j (by omega)
      rw [show rd_L1 y (j : Int) = y[j] by unfold rd_L1; rw [Int.toNat_natCast, List.getD_eq_getElem?_getD, List.getElem?_eq_getElem hj]; rfl] at this
      omega) (by simp; omega)
    simpa [rowsO] using this
  | succ n ih =>
    intro i y k hi hy hq hk
    obtain ⟨k, rfl⟩ : ∃ m, k = m + 6 := ⟨k - 6, by omega⟩
    have hn : ∀ c ∈ nbI a b i, 0 ≤ c ∧ c < (l.length : Int) := fun c hc => by rw [hm]; exact nbS_in ha hb _ c ((nb_same a b _ c).2 hc)
    have e4 : (nbI a b i).length = 4 := rfl
    have hr := hN i (by omega)
    have hq' := hq (rd l i) hr.1
    obtain ⟨p1, p2⟩ := rowsIn_spec l (rd l i) hr.1 (nbI a b i) y (by omega)
    simp only [impl_tileNeighbours.l0]
    rw [if_pos (by omega), if_pos (by omega), if_pos (by omega), implAround l ha hb _ (by omega), Option.bind_some]
    have := implRowsIn (a := a) (b := b) (l := l) i (rd l i) hr.1 _ _ _ _ (nbI a b i) [] y (k + 5) k rfl (by omega) (by omega) rfl hn (by omega)
    refine Eq.trans this (ih (i + 1) _ k (by omega) (p1.trans hy) (fun kk hk => ?_) (by omega))
    have a1 := (p2 kk hk).1
    have a2 := hq kk hk
    omega

theorem near_same {a b : Int} {l : List Int} (h : okT a b l = true) (t : Int) (t0 : 0 ≤ t) (t1 : t < top l) (k : Nat) (hk : 100000 < k) :
    spec_l17Near.f k [(⟨a, b, l⟩ : S28)] t = some (nearO a b l t l.length 0 []) ∧ ∃ y, impl_tileNeighbours.f k a b l = some y ∧ t < (y.length : Int) ∧ rd_L1 y t = nearO a b l t l.length 0 [] := by
  obtain ⟨ha, hb, hm, hx⟩ := okT_spec h
  have m12 := mul12 ha hb
  have hpos := top_pos (l := l) (by omega) hx
  have hN : ∀ j : Nat, j < l.length → 0 ≤ rd l j ∧ rd l j < ((top l).toNat : Int) := fun j hj => by
    rw [rdi l j hj]
    have h1 := hx _ (List.getElem_mem hj)
    have h2 := hpos.2.2 _ (List.getElem_mem hj)
    omega
  have q1 := specNear ha hb hm t l.length 0 [] k (by omega) (by simp) (by simp) (by omega)
  obtain ⟨s1, _, s2⟩ := nearO_spec a b l t l.length 0 [] (by simp)
  refine ⟨q1, ?_⟩
  have hrep : ∀ kk : Int, rd_L1 (List.replicate (top l).toNat []) kk = [] := fun kk => by
    unfold rd_L1
    rw [List.getD_eq_getElem?_getD, List.getElem?_replicate]
    split <;> rfl
  have q2 := implRows ha hb hm (top l).toNat hN (by omega) l.length 0 (List.replicate (top l).toNat []) k (by omega) (by simp) (fun kk _ => by rw [hrep]; simp) (by omega)
  obtain ⟨r1, r2⟩ := rowsO_spec a b l (top l).toNat hN l.length 0 (List.replicate (top l).toNat []) (by omega) (by simp)
  refine ⟨(rowsO a b l l.length 0 (List.replicate (top l).toNat [])).map neat, ?_, ?_, ?_⟩
  · unfold impl_tileNeighbours.f impl_tiles.f
    rw [implMax l (by omega) (by omega) k (by omega), max_top l (by omega) (fun x h => (hx x h).1)]
    simp only [Option.bind_some]
    rw [w64 (x := top l - 1 + 1) (by omega) (by omega), show top l - 1 + 1 = top l by omega, if_pos (by omega), if_pos (by omega)]
    exact q2
  · rw [List.length_map, r1]; omega
  · have e : rd_L1 ((rowsO a b l l.length 0 (List.replicate (top l).toNat [])).map neat) t = neat (rd_L1 (rowsO a b l l.length 0 (List.replicate (top l).toNat [])) t) := by
      unfold rd_L1
      rw [List.getD_eq_getElem?_getD, List.getD_eq_getElem?_getD, List.getElem?_map, List.getElem?_eq_getElem (show t.toNat < _ by rw [r1]; omega)]
      rfl
    rw [e]
    obtain ⟨n1, n2⟩ := neat_spec (rd_L1 (rowsO a b l l.length 0 (List.replicate (top l).toNat [])) t)
    refine strict_ext _ _ n1 s1 (fun v => ?_)
    rw [n2 v, (r2 t t0).2 v, s2 v, hrep]
    constructor
    · rintro (g | ⟨j, j1, j2, j3, c, c1, c2⟩)
      · exact Or.inl g
      · exact Or.inr ⟨j, j1, j2, j3, c, (nb_same a b _ c).2 c1, c2⟩
    · rintro (g | ⟨j, j1, j2, j3, c, c1, c2⟩)
      · exact Or.inl g
      · exact Or.inr ⟨j, j1, j2, j3, c, (nb_same a b _ c).1 c1, c2⟩

theorem tn_law (a b : Int) (l : List Int) (x : Int) (r : List Int × Int) (hr : r.1.length ≤ 1000) (hl : l.length ≤ 1048576) (hs : ∀ k, 1000000 ≤ k → spec_TileNeighbours.f k a b l x = some r ∧ impl_TileNeighbours.f k a b l x = some r) :
    laws_FnExactTileNeighbours.f 1049300 a b l x = some true := by
  obtain ⟨k, hk⟩ : ∃ k : Nat, k = 1049297 := ⟨_, rfl⟩
  rw [show 1049300 = k + 1 + 1 + 1 by omega]
  obtain ⟨out, c⟩ := r
  simp only at hr
  have ho : ∀ k, 2000 ≤ k → laws_eqInt64S.f k out out = some true := fun k hk => eqInt64S_eq out (by omega) k (by omega)
  have hm := markInts_eq out (by omega) 1 (by omega) (by omega)
  have hh := heldInts_eq out.length (by omega) 1 (by omega) (by omega)
  have hml := markInts_eq l (by omega) 1 (by omega) (by omega)
  unfold laws_FnExactTileNeighbours.f
  rw [szTiling_eq a b l (by unfold maxLen; omega)]
  simp only [Option.bind_some]
  have hbig : ¬ (1048576 : Int) < l.length := by omega
  rw [if_neg hbig, if_neg (by omega), toTiling_eq a b l hl (k + 1 + 1 + 1) (by omega)]
  simp only [Option.bind_some]
  rw [(hs (k + 1 + 1 + 1) (by omega)).1, (hs (k + 1 + 1 + 1) (by omega)).2]
  simp only [Option.bind_some, ho (k + 1 + 1 + 1) (by omega), if_true, bne_self_eq_false, laws_FnExactTileNeighbours.j0, Bool.false_eq_true, if_false]
  rw [toTiling_eq a b l hl (k + 1 + 1) (by omega)]
  simp only [Option.bind_some, eqTiling_eq a b l hl (k + 1 + 1) (by omega), if_true]
  unfold laws_markTiling.f
  rw [hml (k + 1 + 1) (by omega)]
  simp only [Option.bind_some]
  rw [if_neg (by omega)]
  simp only [ho (k + 1 + 1) (by omega), Option.bind_some, if_true, laws_FnExactTileNeighbours.j1, Bool.false_eq_true, if_false]
  rw [hm (k + 1) (by omega)]
  simp only [Option.bind_some, hh (k + 1) (by omega)]
  rw [if_neg (by omega)]
  simp only [if_true]
  rw [toTiling_eq a b l hl (k + 1) (by omega)]
  simp only [Option.bind_some]
  rw [(hs (k + 1) (by omega)).2]
  simp only [Option.bind_some, ho (k + 1) (by omega), if_true, bne_self_eq_false, laws_FnExactTileNeighbours.j2, Bool.false_eq_true, if_false, hh k (by omega)]
  rw [if_neg (by omega)]

theorem FnExactTileNeighbours : laws_FnExactTileNeighbours.Pure := by
  intro a b l x ⟨_, _, hl, _⟩ _
  refine ⟨1049300, ?_⟩
  by_cases hb : (1048576 : Int) < l.length
  · unfold laws_FnExactTileNeighbours.f
    rw [szTiling_eq a b l hl]
    simp only [Option.bind_some]
    rw [if_pos hb, if_pos (by omega)]
  replace hb : l.length ≤ 1048576 := by omega
  cases ho : okT a b l with
  | false =>
    refine tn_law a b l x ([], 1) (by simp) hb (fun k hk => ?_)
    unfold spec_TileNeighbours.f impl_TileNeighbours.f
    rw [specOk k (by omega), implTiling k (by omega), ho]
    exact ⟨rfl, rfl⟩
  | true =>
    obtain ⟨ha, hbb, hm, hx⟩ := okT_spec ho
    have m12 := mul12 ha hbb
    have hpos := top_pos (l := l) (by omega) hx
    have hocc : (List.range (top l).toNat).all (fun k => decide ((k : Int) ∈ l)) = true := by
      unfold okT at ho
      simp only [Bool.and_eq_true, decide_eq_true_eq] at ho
      have := ho.2.2.2.2
      rw [List.all_eq_true] at this ⊢
      intro y hy
      have := this y hy
      simp only [Bool.and_eq_true] at this
      exact this.1
    have hin : l.all inR = true := by
      rw [List.all_eq_true]; intro y hy; have := hx y hy; simpa [inR] using this
    have hmost : ∀ k, 3000 < k → spec_l17Most.f k [(⟨a, b, l⟩ : S28)] = some (top l) := fun k hk => by
      have := most0 a b l (by omega) (by omega) l.length 0 (-1) k (by omega) (by omega) (by omega) (by omega) (by simp) (by simp)
      rw [if_pos ⟨hin, hocc⟩] at this
      exact this
    have htil : ∀ k, 3000 < k → impl_tiles.f k a b l = some (top l) := fun k hk => by
      unfold impl_tiles.f
      rw [implMax l (by omega) (by omega) k (by omega), max_top l (by omega) (fun x h => (hx x h).1)]
      simp only [Option.bind_some]
      rw [w64 (x := top l - 1 + 1) (by omega) (by omega), show top l - 1 + 1 = top l by omega]
    by_cases hxx : 0 ≤ x ∧ x ≤ top l - 1
    · refine tn_law a b l x (nearO a b l x l.length 0 [], 0) ?_ hb (fun k hk => ?_)
      · have := (nearO_spec a b l x l.length 0 [] (by simp)).2.1
        simp only [List.length_nil] at this
        show (nearO a b l x l.length 0 []).length ≤ 1000
        omega
      · obtain ⟨q1, y, q2, q3, q4⟩ := near_same ho x (by omega) (by omega) k (by omega)
        unfold spec_TileNeighbours.f impl_TileNeighbours.f
        rw [specOk k (by omega), implTiling k (by omega), ho, hmost k (by omega), htil k (by omega)]
        simp only [Option.bind_some, if_true]
        rw [w64 (x := top l - 1) (by omega) (by omega), l00In_eq, within_eq]
        simp only [Option.bind_some, decide_eq_true hxx, if_true, q1, q2]
        rw [if_pos hxx.1, if_pos q3, q4]
        exact ⟨trivial, rfl⟩
    · refine tn_law a b l x ([], 2) (by simp) hb (fun k hk => ?_)
      unfold spec_TileNeighbours.f impl_TileNeighbours.f
      rw [specOk k (by omega), implTiling k (by omega), ho, hmost k (by omega), htil k (by omega)]
      simp only [Option.bind_some, if_true]
      rw [w64 (x := top l - 1) (by omega) (by omega), l00In_eq, within_eq]
      simp only [Option.bind_some, decide_eq_false hxx, Bool.false_eq_true, if_false, and_self]

end Go.Proofs.Ytopopjkoanpjiaa.Pure

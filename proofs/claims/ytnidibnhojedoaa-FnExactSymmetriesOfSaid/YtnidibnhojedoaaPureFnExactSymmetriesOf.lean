/- FnExactSymmetriesOf: the program's SymmetriesOf returns what the reference's returns, for all arguments; no condition. -/
import Derived.Test.YtnidibnhojedoaaGFnExactSymmetriesOfx
namespace Go.Proofs.Ytnidibnhojedoaa.Pure
open Go.RowKit Go.Proofs.Ytnidibnhojedoaa.GFnExactSymmetriesOf Go.Proofs.YtnidibnhojedoaaW.PrintWords Go.Proofs.YtnidibnhojedoaaW.PrintLast
set_option linter.unusedSimpArgs false
set_option linter.unusedVariables false

theorem w64 {x : Int} (h0 : -9223372036854775808 ≤ x) (h1 : x ≤ 9223372036854775807) : wrap64 x = x := by
  unfold wrap64; omega

theorem within_eq (a b c : Int) : impl_within.f a b c = some (decide (b ≤ a ∧ a ≤ c)) := by
  unfold impl_within.f
  by_cases h : a ≥ b
  · rw [if_pos h]; simp [h]
  · rw [if_neg h]; simp; omega

theorem l00In_eq (a b c : Int) : spec_l00In.f a b c = some (decide (b ≤ a ∧ a ≤ c)) := by
  unfold spec_l00In.f
  by_cases h : a ≥ b
  · rw [if_pos h]; simp [h]
  · rw [if_neg h]; simp; omega

/-- a loop over a list: from one state to the next, or out of it -/
def run {α σ β : Type} (st : σ → α → Nat → σ ⊕ β) (en : σ → β) : List α → σ → Nat → β
  | [], s, _ => en s
  | x :: xs, s, i => match st s x i with
    | .inl s' => run st en xs s' (i + 1)
    | .inr r => r

theorem loop_run {α σ β : Type} (xs : List α) (K0 : Nat) (Inv : σ → Nat → Prop) (L : Nat → σ → Int → Option β) (st : σ → α → Nat → σ ⊕ β) (en : σ → β)
    (hs : ∀ (k : Nat) (s : σ) (i : Nat) (h : i < xs.length), K0 ≤ k → Inv s i →
      (∃ s', st s xs[i] i = .inl s' ∧ Inv s' (i + 1) ∧ L (k + 1) s (i : Int) = L k s' ((i + 1 : Nat) : Int)) ∨ (∃ r, st s xs[i] i = .inr r ∧ L (k + 1) s (i : Int) = some r))
    (he : ∀ (k : Nat) (s : σ), K0 ≤ k → Inv s xs.length → L (k + 1) s (xs.length : Int) = some (en s)) :
    ∀ (n i k : Nat) (s : σ), i + n = xs.length → K0 + n < k → Inv s i → L k s (i : Int) = some (run st en (xs.drop i) s i) := by
  intro n
  induction n with
  | zero =>
    intro i k s hi hk hI
    obtain ⟨k, rfl⟩ : ∃ m, k = m + 1 := ⟨k - 1, by omega⟩
    obtain rfl : i = xs.length := by omega
    rw [he k s (by omega) hI, List.drop_length]; rfl
  | succ n ih =>
    intro i k s hi hk hI
    obtain ⟨k, rfl⟩ : ∃ m, k = m + 1 := ⟨k - 1, by omega⟩
    have hlt : i < xs.length := by omega
    rw [List.drop_eq_getElem_cons hlt]
    rcases hs k s i hlt (by omega) hI with ⟨s', h1, h2, h3⟩ | ⟨r, h1, h3⟩
    · rw [h3, ih (i + 1) k s' (by omega) (by omega) h2]
      simp only [run, h1]
    · rw [h3]
      simp only [run, h1]

theorem loop_run0 {α σ β : Type} (xs : List α) (K0 : Nat) (Inv : σ → Nat → Prop) (L : Nat → σ → Int → Option β) (st : σ → α → Nat → σ ⊕ β) (en : σ → β)
    (hs : ∀ (k : Nat) (s : σ) (i : Nat) (h : i < xs.length), K0 ≤ k → Inv s i →
      (∃ s', st s xs[i] i = .inl s' ∧ Inv s' (i + 1) ∧ L (k + 1) s (i : Int) = L k s' ((i + 1 : Nat) : Int)) ∨ (∃ r, st s xs[i] i = .inr r ∧ L (k + 1) s (i : Int) = some r))
    (he : ∀ (k : Nat) (s : σ), K0 ≤ k → Inv s xs.length → L (k + 1) s (xs.length : Int) = some (en s)) (k : Nat) (s : σ) (hk : K0 + xs.length < k) (hI : Inv s 0) :
    L k s 0 = some (run st en xs s 0) := by
  have := loop_run xs K0 Inv L st en hs he xs.length 0 k s (by omega) hk hI
  simpa using this

/-- a row that is made and then filled, element by element -/
theorem loop_map {α β : Type} (xs : List α) (z : β) (c : α → β) (L : Nat → List β → Int → Option (List β))
    (hs : ∀ (k : Nat) (s : List β) (i : Nat) (h : i < xs.length), s.length = xs.length → L (k + 1) s (i : Int) = L k (s.set i (c xs[i])) ((i + 1 : Nat) : Int))
    (he : ∀ (k : Nat) (s : List β), L (k + 1) s (xs.length : Int) = some s) (k : Nat) (hk : xs.length < k) :
    L k (List.replicate xs.length z) 0 = some (xs.map c) := by
  have key : ∀ (n i k : Nat) (s : List β), i + n = xs.length → n < k → s.length = xs.length → s.take i = (xs.map c).take i → L k s (i : Int) = some (xs.map c) := by
    intro n
    induction n with
    | zero =>
      intro i k s hi hk hl ht
      obtain ⟨k, rfl⟩ : ∃ m, k = m + 1 := ⟨k - 1, by omega⟩
      obtain rfl : i = xs.length := by omega
      have h1 : s.take xs.length = s := List.take_of_length_le (by omega)
      rw [he, ← h1, ht, List.take_of_length_le (by simp)]
    | succ n ih =>
      intro i k s hi hk hl ht
      obtain ⟨k, rfl⟩ : ∃ m, k = m + 1 := ⟨k - 1, by omega⟩
      have hlt : i < xs.length := by omega
      rw [hs k s i hlt hl]
      refine ih (i + 1) k _ (by omega) (by omega) (by rw [List.length_set]; exact hl) ?_
      rw [List.take_succ_eq_append_getElem (by rw [List.length_set]; omega), List.take_succ_eq_append_getElem (by rw [List.length_map]; omega), List.take_set_of_le (by omega), ht]
      simp
  have := key xs.length 0 k (List.replicate xs.length z) (by omega) hk (by simp) (by simp)
  simpa using this

theorem wnat {n : Nat} (h : n < 9223372036854775807) : wrap64 ((n : Int) + 1) = ((n + 1 : Nat) : Int) := by
  unfold wrap64; omega

theorem loop_all {β : Type} (n K0 : Nat) (L : Nat → Int → Option β) (r : β) (hs : ∀ (k i : Nat), K0 ≤ k → i < n → L (k + 1) (i : Int) = L k ((i + 1 : Nat) : Int)) (he : ∀ k : Nat, L (k + 1) (n : Int) = some r)
    (k : Nat) (hk : K0 + n < k) : L k 0 = some r := by
  have key : ∀ (m i k : Nat), i + m = n → K0 + m < k → L k (i : Int) = some r := by
    intro m
    induction m with
    | zero =>
      intro i k hi hk
      obtain ⟨k, rfl⟩ : ∃ m, k = m + 1 := ⟨k - 1, by omega⟩
      obtain rfl : i = n := by omega
      exact he k
    | succ m ih =>
      intro i k hi hk
      obtain ⟨k, rfl⟩ : ∃ m, k = m + 1 := ⟨k - 1, by omega⟩
      rw [hs k i (by omega) (by omega)]
      exact ih (i + 1) k (by omega) (by omega)
  simpa using key n 0 k (by omega) hk

theorem all_from {α β : Type} (xs : List α) (K0 : Nat) (p : α → Bool) (r0 r1 : β) (L : Nat → Int → Option β)
    (hs : ∀ (k i : Nat) (h : i < xs.length), K0 ≤ k → L (k + 1) (i : Int) = if p xs[i] = true then L k ((i + 1 : Nat) : Int) else some r0)
    (he : ∀ k : Nat, K0 ≤ k → L (k + 1) (xs.length : Int) = some r1) : ∀ (n i k : Nat), i + n = xs.length → K0 + n < k → L k (i : Int) = some (if (xs.drop i).all p = true then r1 else r0) := by
  intro n
  induction n with
  | zero =>
    intro i k hi hk
    obtain ⟨k, rfl⟩ : ∃ m, k = m + 1 := ⟨k - 1, by omega⟩
    obtain rfl : i = xs.length := by omega
    rw [he k (by omega), List.drop_length]; rfl
  | succ n ih =>
    intro i k hi hk
    obtain ⟨k, rfl⟩ : ∃ m, k = m + 1 := ⟨k - 1, by omega⟩
    have hlt : i < xs.length := by omega
    rw [hs k i hlt (by omega), List.drop_eq_getElem_cons hlt, List.all_cons]
    cases hp : p xs[i] with
    | true => rw [if_pos rfl, ih (i + 1) k (by omega) (by omega), Bool.true_and]
    | false => simp

theorem all_loop {α β : Type} (xs : List α) (K0 : Nat) (p : α → Bool) (r0 r1 : β) (L : Nat → Int → Option β)
    (hs : ∀ (k i : Nat) (h : i < xs.length), K0 ≤ k → L (k + 1) (i : Int) = if p xs[i] = true then L k ((i + 1 : Nat) : Int) else some r0)
    (he : ∀ k : Nat, K0 ≤ k → L (k + 1) (xs.length : Int) = some r1) (k : Nat) (hk : K0 + xs.length < k) : L k 0 = some (if xs.all p = true then r1 else r0) := by
  simpa using all_from xs K0 p r0 r1 L hs he xs.length 0 k (by omega) hk

theorem idx_from {α : Type} (xs : List α) (K0 : Nat) (q : α → Bool) (L : Nat → Int → Option Int)
    (hs : ∀ (k i : Nat) (h : i < xs.length), K0 ≤ k → L (k + 1) (i : Int) = if q xs[i] = true then some (i : Int) else L k ((i + 1 : Nat) : Int))
    (he : ∀ k : Nat, K0 ≤ k → L (k + 1) (xs.length : Int) = some (-1)) : ∀ (n i k : Nat), i + n = xs.length → K0 + n < k → ∃ r, L k (i : Int) = some r ∧ decide (r ≥ 0) = (xs.drop i).any q := by
  intro n
  induction n with
  | zero =>
    intro i k hi hk
    obtain ⟨k, rfl⟩ : ∃ m, k = m + 1 := ⟨k - 1, by omega⟩
    obtain rfl : i = xs.length := by omega
    exact ⟨-1, he k (by omega), by rw [List.drop_length]; rfl⟩
  | succ n ih =>
    intro i k hi hk
    obtain ⟨k, rfl⟩ : ∃ m, k = m + 1 := ⟨k - 1, by omega⟩
    have hlt : i < xs.length := by omega
    rw [hs k i hlt (by omega), List.drop_eq_getElem_cons hlt, List.any_cons]
    cases hp : q xs[i] with
    | true => exact ⟨i, by rw [if_pos rfl], by simp⟩
    | false =>
      obtain ⟨r, h1, h2⟩ := ih (i + 1) k (by omega) (by omega)
      exact ⟨r, by rw [if_neg (by simp)]; exact h1, by rw [h2]; simp⟩

theorem idx_loop {α : Type} (xs : List α) (K0 : Nat) (q : α → Bool) (L : Nat → Int → Option Int)
    (hs : ∀ (k i : Nat) (h : i < xs.length), K0 ≤ k → L (k + 1) (i : Int) = if q xs[i] = true then some (i : Int) else L k ((i + 1 : Nat) : Int))
    (he : ∀ k : Nat, K0 ≤ k → L (k + 1) (xs.length : Int) = some (-1)) (k : Nat) (hk : K0 + xs.length < k) : ∃ r, L k 0 = some r ∧ decide (r ≥ 0) = xs.any q := by
  simpa using idx_from xs K0 q L hs he xs.length 0 k (by omega) hk

theorem any_not {α : Type} (l : List α) (p : α → Bool) : l.any (fun x => !p x) = !l.all p := by
  induction l with
  | nil => rfl
  | cons x l ih => rw [List.any_cons, List.all_cons, ih]; cases p x <;> simp

theorem rdi (xs : List Int) (i : Nat) (h : i < xs.length) : rd xs (i : Int) = xs[i] := by
  unfold rd; simp [List.getD, h]

theorem eqInt64S_eq (l : List Int) (hl : l.length ≤ 1048576) (k : Nat) (hk : l.length < k) : laws_eqInt64S.f k l l = some true := by
  unfold laws_eqInt64S.f
  rw [if_pos rfl]
  refine loop_all l.length 0 (fun k i => laws_eqInt64S.l0 k l l i) true ?_ ?_ k (by omega)
  · intro k i _ h
    simp only [laws_eqInt64S.l0]
    rw [if_pos (by omega), if_pos (by omega), if_pos (by omega), wnat (by omega)]; simp
  · intro k
    simp only [laws_eqInt64S.l0]
    rw [if_neg (by omega)]

theorem toInt64S_eq (l : List Int) (hl : l.length ≤ 1048576) (k : Nat) (hk : l.length < k) : laws_toInt64S.f k l = some l := by
  unfold laws_toInt64S.f
  rw [if_pos (by omega), if_pos (by omega), show ((l.length : Int)).toNat = l.length by omega]
  have := loop_map l (0 : Int) (fun x => x) (fun k s i => laws_toInt64S.l0 k l s i) (by
    intro k s i h hs
    simp only [laws_toInt64S.l0]
    rw [if_pos (by omega), if_pos (by omega), if_pos (by omega), rdi l i h, wnat (by omega)]
    rfl) (by
    intro k s
    simp only [laws_toInt64S.l0]
    rw [if_neg (by omega)]) k hk
  simpa using this

theorem szTiling_eq (a b : Int) (l : List Int) (hl : l.length ≤ maxLen) : laws_szTiling.f a b l 1048576 = some (if (1048576 : Int) < l.length then (-1 : Int) else 1048576 - (l.length : Int)) := by
  unfold maxLen at hl
  unfold laws_szTiling.f laws_szInt64S.f
  rw [w64 (x := 1048576 - (l.length : Int)) (by omega) (by omega)]
  by_cases h : (1048576 : Int) < l.length
  · rw [if_pos h, if_pos (by omega)]; rfl
  · rw [if_neg h, if_neg (by omega)]
    simp only [Option.bind_some]
    rw [if_neg (by omega)]
theorem toTiling_eq (a b : Int) (l : List Int) (hl : l.length ≤ 1048576) (k : Nat) (hk : l.length < k) : laws_toTiling.f k a b l = some (a, b, l) := by
  unfold laws_toTiling.f
  rw [toInt64S_eq l hl k hk]; rfl
theorem eqTiling_eq (a b : Int) (l : List Int) (hl : l.length ≤ 1048576) (k : Nat) (hk : l.length < k) : laws_eqTiling.f k a b l a b l = some true := by
  unfold laws_eqTiling.f
  simp [eqInt64S_eq l hl k hk]

/-- a cell is put behind the others, if it is of the tile and not among them -/
def push (p : Int → Bool) (q : List Int) (c : Int) : List Int := if p c = true ∧ c ∉ q then q ++ [c] else q

theorem push_mem (p : Int → Bool) (q : List Int) (c x : Int) : x ∈ push p q c ↔ x ∈ q ∨ (x = c ∧ p x = true) := by
  unfold push
  split
  · rename_i h
    rw [List.mem_append, List.mem_singleton]
    constructor
    · rintro (h1 | rfl)
      · exact Or.inl h1
      · exact Or.inr ⟨rfl, h.1⟩
    · rintro (h1 | ⟨rfl, _⟩)
      · exact Or.inl h1
      · exact Or.inr rfl
  · rename_i h
    constructor
    · exact Or.inl
    · rintro (h1 | ⟨rfl, h2⟩)
      · exact h1
      · exact Decidable.byContradiction fun h3 => h ⟨h2, h3⟩

theorem push_nodup (p : Int → Bool) (q : List Int) (c : Int) (h : q.Nodup) : (push p q c).Nodup := by
  unfold push
  split
  · rename_i hc
    rw [List.nodup_append]
    refine ⟨h, by simp, ?_⟩
    intro a ha b hb
    rw [List.mem_singleton] at hb
    subst hb
    intro he
    subst he
    exact hc.2 ha
  · exact h

theorem push_prefix (p : Int → Bool) (q : List Int) (c : Int) : ∃ t, push p q c = q ++ t := by
  unfold push
  split
  · exact ⟨_, rfl⟩
  · exact ⟨[], by simp⟩

def pushes (p : Int → Bool) (q cs : List Int) : List Int := cs.foldl (push p) q

theorem pushes_mem (p : Int → Bool) (cs : List Int) : ∀ (q : List Int) (x : Int), x ∈ pushes p q cs ↔ x ∈ q ∨ (x ∈ cs ∧ p x = true) := by
  induction cs with
  | nil => intro q x; simp [pushes]
  | cons c cs ih =>
    intro q x
    show x ∈ pushes p (push p q c) cs ↔ _
    rw [ih, push_mem, List.mem_cons]
    constructor
    · rintro ((h | h) | h)
      · exact Or.inl h
      · exact Or.inr ⟨Or.inl h.1, h.2⟩
      · exact Or.inr ⟨Or.inr h.1, h.2⟩
    · rintro (h | ⟨h | h, h2⟩)
      · exact Or.inl (Or.inl h)
      · exact Or.inl (Or.inr ⟨h, h2⟩)
      · exact Or.inr ⟨h, h2⟩

theorem pushes_nodup (p : Int → Bool) (cs : List Int) : ∀ (q : List Int), q.Nodup → (pushes p q cs).Nodup := by
  induction cs with
  | nil => intro q h; exact h
  | cons c cs ih => intro q h; exact ih _ (push_nodup p q c h)

theorem pushes_prefix (p : Int → Bool) (cs : List Int) : ∀ (q : List Int), ∃ t, pushes p q cs = q ++ t := by
  induction cs with
  | nil => intro q; exact ⟨[], by simp [pushes]⟩
  | cons c cs ih =>
    intro q
    obtain ⟨t, ht⟩ := push_prefix p q c
    obtain ⟨u, hu⟩ := ih (push p q c)
    exact ⟨t ++ u, by show pushes p (push p q c) cs = _; rw [hu, ht, List.append_assoc]⟩

/-- the cells that hang together with the first -/
inductive Reach (p : Int → Bool) (nb : Int → List Int) (first : Int) : Int → Prop
  | base : Reach p nb first first
  | step {x c : Int} : Reach p nb first x → c ∈ nb x → p c = true → Reach p nb first c

theorem Reach.other {p : Int → Bool} {nb nb2 : Int → List Int} {first : Int} (h : ∀ x c, c ∈ nb x → c ∈ nb2 x) {x : Int} (hr : Reach p nb first x) : Reach p nb2 first x := by
  induction hr with
  | base => exact Reach.base
  | step _ hc hp ih => exact Reach.step ih (h _ _ hc) hp

/-- what holds of the cells that were met, of which i have been looked at -/
structure Met (p : Int → Bool) (nb : Int → List Int) (first : Int) (q : List Int) (i : Nat) : Prop where
  nd : q.Nodup
  hf : first ∈ q
  hr : ∀ x ∈ q, Reach p nb first x
  hc : ∀ (j : Nat) (h : j < q.length), j < i → ∀ c ∈ nb q[j], p c = true → c ∈ q
  hi : i ≤ q.length

theorem Met.start (p : Int → Bool) (nb : Int → List Int) (first : Int) : Met p nb first [first] 0 :=
  ⟨by simp, by simp, fun x hx => by rw [List.mem_singleton] at hx; subst hx; exact Reach.base, fun j h hj => by omega, by simp⟩

theorem Met.next {p : Int → Bool} {nb : Int → List Int} {first : Int} {q : List Int} {i : Nat} (m : Met p nb first q i) (h : i < q.length) : Met p nb first (pushes p q (nb q[i])) (i + 1) := by
  obtain ⟨t, ht⟩ := pushes_prefix p (nb q[i]) q
  have hl : q.length ≤ (pushes p q (nb q[i])).length := by rw [ht, List.length_append]; omega
  refine ⟨pushes_nodup p _ q m.nd, (pushes_mem p _ q first).2 (Or.inl m.hf), ?_, ?_, by omega⟩
  · intro x hx
    rcases (pushes_mem p _ q x).1 hx with h1 | ⟨h1, h2⟩
    · exact m.hr x h1
    · exact Reach.step (m.hr _ (List.getElem_mem h)) h1 h2
  · intro j hj hji c hc hp
    have hjq : j < q.length := by omega
    have e : (pushes p q (nb q[i]))[j] = q[j] := by
      simp only [ht]
      exact List.getElem_append_left hjq
    rw [e] at hc
    by_cases hji2 : j < i
    · exact (pushes_mem p _ q c).2 (Or.inl (m.hc j hjq hji2 c hc hp))
    · obtain rfl : j = i := by omega
      exact (pushes_mem p _ q c).2 (Or.inr ⟨hc, hp⟩)

theorem Met.last {p : Int → Bool} {nb : Int → List Int} {first : Int} {q : List Int} (m : Met p nb first q q.length) (x : Int) : x ∈ q ↔ Reach p nb first x := by
  refine ⟨m.hr x, fun h => ?_⟩
  induction h with
  | base => exact m.hf
  | step _ hc hp ih =>
    obtain ⟨j, hj, e⟩ := List.getElem_of_mem ih
    exact m.hc j hj hj _ (by rw [e]; exact hc) hp

theorem Met.same {p : Int → Bool} {nb nb2 : Int → List Int} {first : Int} {q q2 : List Int} (m : Met p nb first q q.length) (m2 : Met p nb2 first q2 q2.length) (h : ∀ x c, c ∈ nb x ↔ c ∈ nb2 x) : q.length = q2.length := by
  refine ((List.perm_ext_iff_of_nodup m.nd m2.nd).2 fun x => ?_).length_eq
  rw [m.last, m2.last]
  exact ⟨Reach.other fun x c => (h x c).1, Reach.other fun x c => (h x c).2⟩

/-- no more cells are met than there are -/
theorem Met.few {p : Int → Bool} {nb : Int → List Int} {first : Int} {q : List Int} {i : Nat} (m : Met p nb first q i) (N : Nat) (hin : ∀ x ∈ q, 0 ≤ x ∧ x < (N : Int)) : q.length ≤ N := by
  have := List.Nodup.length_le_of_subset m.nd (l₂ := (List.range N).map fun (n : Nat) => (n : Int)) (fun x hx => by
    obtain ⟨h0, h1⟩ := hin x hx
    exact List.mem_map.2 ⟨x.toNat, List.mem_range.2 (by omega), by omega⟩)
  simpa using this

theorem mul12 {a b : Int} (ha : 1 ≤ a ∧ a ≤ 12) (hb : 1 ≤ b ∧ b ≤ 12) : 1 ≤ a * b ∧ a * b ≤ 144 := by
  have h1 : (1 : Int) * 1 ≤ a * b := Int.mul_le_mul ha.1 hb.1 (by omega) (by omega)
  have h2 : a * b ≤ (12 : Int) * 12 := Int.mul_le_mul ha.2 hb.2 (by omega) (by omega)
  omega

/-- the rest of a division, from 0 on, as the program and the reference both reckon it -/
theorem rest_emod {x a : Int} (ha : 1 ≤ a ∧ a ≤ 12) : Int.tmod (wrap64 (Int.tmod x a + a)) a = x % a := by
  have h1 := Int.tmod_lt_of_pos x (b := a) (by omega)
  have h2 := Int.lt_tmod_of_pos x (b := a) (by omega)
  rw [w64 (by omega) (by omega), Int.tmod_eq_emod_of_nonneg (by omega), Int.add_emod_right, Int.tmod_def, Int.sub_mul_emod_self_left]

def idx (a b x y : Int) : Int := (y % b) * a + x % a

theorem idx_in {a b : Int} (ha : 1 ≤ a ∧ a ≤ 12) (hb : 1 ≤ b ∧ b ≤ 12) (x y : Int) : 0 ≤ idx a b x y ∧ idx a b x y < a * b := by
  unfold idx
  have x0 := Int.emod_nonneg x (b := a) (by omega)
  have x1 := Int.emod_lt_of_pos x (b := a) (by omega)
  have y0 := Int.emod_nonneg y (b := b) (by omega)
  have y1 := Int.emod_lt_of_pos y (b := b) (by omega)
  have h0 : 0 ≤ (y % b) * a := Int.mul_nonneg y0 (by omega)
  have h1 : (y % b) * a ≤ (b - 1) * a := Int.mul_le_mul_of_nonneg_right (by omega) (by omega)
  have h2 : (b - 1) * a = a * b - a := by rw [Int.sub_mul, Int.one_mul, Int.mul_comm]
  omega

theorem idx_fits {a b : Int} (ha : 1 ≤ a ∧ a ≤ 12) (hb : 1 ≤ b ∧ b ≤ 12) (x y : Int) : wrap64 (wrap64 ((y % b) * a) + x % a) = idx a b x y ∧ 0 ≤ (y % b) * a ∧ (y % b) * a ≤ 144 := by
  have x0 := Int.emod_nonneg x (b := a) (by omega)
  have x1 := Int.emod_lt_of_pos x (b := a) (by omega)
  have h := idx_in ha hb x y
  have m := mul12 ha hb
  unfold idx at h ⊢
  have y0 := Int.emod_nonneg y (b := b) (by omega)
  have h0 : 0 ≤ (y % b) * a := Int.mul_nonneg y0 (by omega)
  rw [w64 (x := y % b * a) (by omega) (by omega), w64 (by omega) (by omega)]
  exact ⟨rfl, h0, by omega⟩

def nbS (a b i : Int) : List Int := [idx a b (i % a + 1) (i / a), idx a b (i % a) (i / a + 1), idx a b (i % a - 1) (i / a), idx a b (i % a) (i / a - 1)]
def nbI (a b i : Int) : List Int := [idx a b (i % a + 1) (i / a), idx a b (i % a - 1) (i / a), idx a b (i % a) (i / a + 1), idx a b (i % a) (i / a - 1)]

theorem nb_same (a b x c : Int) : c ∈ nbS a b x ↔ c ∈ nbI a b x := by
  unfold nbS nbI
  simp only [List.mem_cons, List.not_mem_nil, or_false]
  constructor
  · rintro (h | h | h | h)
    · exact Or.inl h
    · exact Or.inr (Or.inr (Or.inl h))
    · exact Or.inr (Or.inl h)
    · exact Or.inr (Or.inr (Or.inr h))
  · rintro (h | h | h | h)
    · exact Or.inl h
    · exact Or.inr (Or.inr (Or.inl h))
    · exact Or.inr (Or.inl h)
    · exact Or.inr (Or.inr (Or.inr h))

theorem nbS_in {a b : Int} (ha : 1 ≤ a ∧ a ≤ 12) (hb : 1 ≤ b ∧ b ≤ 12) (x c : Int) (h : c ∈ nbS a b x) : 0 ≤ c ∧ c < a * b := by
  unfold nbS at h
  simp only [List.mem_cons, List.not_mem_nil, or_false] at h
  rcases h with rfl | rfl | rfl | rfl <;> exact idx_in ha hb _ _

/-- the cells that are met from the first on -/
def flood (p : Int → Bool) (nb : Int → List Int) : Nat → List Int → Nat → List Int
  | 0, q, _ => q
  | n + 1, q, i => if h : i < q.length then flood p nb n (pushes p q (nb q[i])) (i + 1) else q

theorem pushes_in {p : Int → Bool} {q cs : List Int} {N : Int} (hq : ∀ x ∈ q, 0 ≤ x ∧ x < N) (hc : ∀ x ∈ cs, 0 ≤ x ∧ x < N) : ∀ x ∈ pushes p q cs, 0 ≤ x ∧ x < N := by
  intro x hx
  rcases (pushes_mem p cs q x).1 hx with h | h
  · exact hq x h
  · exact hc x h.1

theorem flood_met (p : Int → Bool) (nb : Int → List Int) (first : Int) (N : Nat) (hn : ∀ x c, c ∈ nb x → 0 ≤ c ∧ c < (N : Int)) : ∀ (n : Nat) (q : List Int) (i : Nat), N ≤ i + n → Met p nb first q i → (∀ x ∈ q, 0 ≤ x ∧ x < (N : Int)) → Met p nb first (flood p nb n q i) (flood p nb n q i).length := by
  intro n
  induction n with
  | zero =>
    intro q i hi m hq
    have := m.few N hq
    have := m.hi
    obtain rfl : i = q.length := by omega
    exact m
  | succ n ih =>
    intro q i hi m hq
    unfold flood
    split
    · rename_i h
      exact ih _ _ (by omega) (m.next h) (pushes_in hq (fun x hx => hn _ x hx))
    · rename_i h
      have := m.hi
      obtain rfl : i = q.length := by omega
      exact m

/-- the place of the first cell of a tile, or -1 -/
def fstOf (k : Int) : Int → List Int → Int
  | _, [] => -1
  | i, x :: xs => if x = k then i else fstOf k (i + 1) xs

theorem fstOf_in (k : Int) : ∀ (l : List Int) (i : Int), 0 ≤ i → if k ∈ l then i ≤ fstOf k i l ∧ fstOf k i l < i + l.length else fstOf k i l = -1 := by
  intro l
  induction l with
  | nil => intro i _; simp [fstOf]
  | cons x xs ih =>
    intro i hi
    have := ih (i + 1) (by omega)
    unfold fstOf
    by_cases h : x = k
    · subst h; simp; omega
    · have h2 : ¬ k = x := fun e => h e.symm
      simp only [h, if_false, List.mem_cons, h2, false_or, List.length_cons]
      split at this
      · rename_i h3; rw [if_pos h3]; omega
      · rename_i h3; rw [if_neg h3]; exact this

def many (k : Int) (l : List Int) : Nat := (l.filter (fun x => decide (x = k))).length

/-- whether the cells of a tile hang together -/
def conn (a b : Int) (l : List Int) (k : Int) : Bool := decide ((flood (fun c => decide (rd l c = k)) (nbS a b) l.length [fstOf k 0 l] 0).length = many k l)

theorem conn_I {a b : Int} {l : List Int} {k : Int} (ha : 1 ≤ a ∧ a ≤ 12) (hb : 1 ≤ b ∧ b ≤ 12) (hm : (l.length : Int) = a * b) (hk : k ∈ l) :
    (flood (fun c => decide (rd l c = k)) (nbI a b) l.length [fstOf k 0 l] 0).length = (flood (fun c => decide (rd l c = k)) (nbS a b) l.length [fstOf k 0 l] 0).length := by
  have hf := fstOf_in k l 0 (by omega)
  rw [if_pos hk] at hf
  have hs : ∀ x ∈ [fstOf k 0 l], 0 ≤ x ∧ x < (l.length : Int) := fun x hx => by rw [List.mem_singleton] at hx; subst hx; omega
  have m1 := flood_met (fun c => decide (rd l c = k)) (nbI a b) (fstOf k 0 l) l.length (fun x c h => by rw [hm]; exact nbS_in ha hb x c ((nb_same a b x c).2 h)) l.length [fstOf k 0 l] 0 (by omega) (Met.start _ _ _) hs
  have m2 := flood_met (fun c => decide (rd l c = k)) (nbS a b) (fstOf k 0 l) l.length (fun x c h => by rw [hm]; exact nbS_in ha hb x c h) l.length [fstOf k 0 l] 0 (by omega) (Met.start _ _ _) hs
  exact m1.same m2 (fun x c => (nb_same a b x c).symm)

def mxf (t x : Int) : Int := if t > x then t else x

/-- the number of tiles -/
def top (l : List Int) : Int := l.foldl mxf (-1) + 1

def okT (a b : Int) (l : List Int) : Bool := decide (1 ≤ a ∧ a ≤ 12) && (decide (1 ≤ b ∧ b ≤ 12) && (decide ((l.length : Int) = a * b) && (l.all (fun x => decide (0 ≤ x ∧ x ≤ 35)) &&
  (List.range (top l).toNat).all (fun k => decide ((k : Int) ∈ l) && conn a b l k))))

theorem mxf_eq (t x : Int) : (t ≤ mxf t x ∧ x ≤ mxf t x) ∧ (mxf t x = t ∨ mxf t x = x) := by
  unfold mxf
  by_cases h : t > x
  · rw [if_pos h]; exact ⟨⟨Int.le_refl _, by omega⟩, Or.inl rfl⟩
  · rw [if_neg h]; exact ⟨⟨by omega, Int.le_refl _⟩, Or.inr rfl⟩

theorem foldmax (l : List Int) : ∀ t : Int, t ≤ l.foldl mxf t ∧ (∀ x ∈ l, x ≤ l.foldl mxf t) ∧ (l.foldl mxf t = t ∨ l.foldl mxf t ∈ l) := by
  induction l with
  | nil => intro t; simp
  | cons x l ih =>
    intro t
    rw [List.foldl_cons]
    obtain ⟨h1, h2, h3⟩ := ih (mxf t x)
    obtain ⟨⟨m1, m2⟩, m3⟩ := mxf_eq t x
    refine ⟨by omega, ?_, ?_⟩
    · intro y hy
      rcases List.mem_cons.1 hy with rfl | hy
      · omega
      · exact h2 y hy
    · rcases h3 with h3 | h3
      · rw [h3]
        rcases m3 with m3 | m3
        · exact Or.inl m3
        · exact Or.inr (by rw [m3]; simp)
      · exact Or.inr (List.mem_cons_of_mem _ h3)

theorem has_eq (q : List Int) (c : Int) (hq : q.length ≤ 1048576) (k : Nat) (hk : q.length < k) : spec_l00Has.f k q c = some (decide (c ∈ q)) := by
  unfold spec_l00Has.f
  rw [all_loop q 0 (fun x => !decide (x = c)) true false (fun k i => spec_l00Has.l0 k q c i) (by
    intro k i hi _
    simp only [spec_l00Has.l0]
    rw [if_pos (by omega), if_pos (by omega), rdi q i hi, wnat (by omega)]
    by_cases h : q[i] = c
    · rw [if_pos h, if_neg (by simp [h])]
    · rw [if_neg h, if_pos (by simp [h])]) (by
    intro k _
    simp only [spec_l00Has.l0]
    rw [if_neg (by omega)]) k (by omega)]
  congr 1
  by_cases h : c ∈ q
  · rw [if_neg (by intro h2; have := List.all_eq_true.1 h2 c h; simp at this)]; simp [h]
  · rw [if_pos (List.all_eq_true.2 fun x hx => by
      have : x ≠ c := fun e => h (e ▸ hx)
      simp [this])]
    simp [h]

theorem specIndex {a b : Int} (l : List Int) (ha : 1 ≤ a ∧ a ≤ 12) (hb : 1 ≤ b ∧ b ≤ 12) (x y : Int) : spec_l17Index.f [(⟨a, b, l⟩ : S29)] x y = some (idx a b x y) := by
  have r : rd_T29 [(⟨a, b, l⟩ : S29)] 0 = ⟨a, b, l⟩ := rfl
  simp only [spec_l17Index.f, r]
  rw [if_pos (by simp), if_neg (by omega), if_neg (by omega), rest_emod hb, rest_emod ha, (idx_fits ha hb x y).1]

theorem implIndex {a b : Int} (l : List Int) (ha : 1 ≤ a ∧ a ≤ 12) (hb : 1 ≤ b ∧ b ≤ 12) (x y : Int) : impl_touchingCells_1.f x y [(⟨a, b, l⟩ : S29)] = some (idx a b x y) := by
  have r : rd_T29 [(⟨a, b, l⟩ : S29)] 0 = ⟨a, b, l⟩ := rfl
  simp only [impl_touchingCells_1.f, impl_rest.f, r]
  rw [if_pos (by simp), if_neg (by omega), if_neg (by omega), rest_emod hb, rest_emod ha]
  simp only [Option.bind_some]
  rw [(idx_fits ha hb x y).1]

theorem cellOf {a b i : Int} (ha : 1 ≤ a ∧ a ≤ 12) (hb : 1 ≤ b ∧ b ≤ 12) (hi : 0 ≤ i ∧ i < a * b) : (Int.tmod i a = i % a ∧ Int.tdiv i a = i / a) ∧ (0 ≤ i % a ∧ i % a < a) ∧ (0 ≤ i / a ∧ i / a ≤ 144) := by
  have m := mul12 ha hb
  have h1 := Int.emod_nonneg i (b := a) (by omega)
  have h2 := Int.emod_lt_of_pos i (b := a) (by omega)
  have h3 : 0 ≤ i / a := Int.ediv_nonneg hi.1 (by omega)
  have h4 := Int.ediv_le_self a hi.1
  exact ⟨⟨Int.tmod_eq_emod_of_nonneg hi.1, Int.tdiv_eq_ediv_of_nonneg hi.1⟩, ⟨h1, h2⟩, h3, by omega⟩

theorem specAround {a b : Int} (l : List Int) (ha : 1 ≤ a ∧ a ≤ 12) (hb : 1 ≤ b ∧ b ≤ 12) (i : Int) (hi : 0 ≤ i ∧ i < a * b) : spec_l17Around.f [(⟨a, b, l⟩ : S29)] i = some (nbS a b i) := by
  have r : rd_T29 [(⟨a, b, l⟩ : S29)] 0 = ⟨a, b, l⟩ := rfl
  obtain ⟨⟨e1, e2⟩, x0, y0⟩ := cellOf ha hb hi
  simp only [spec_l17Around.f, r]
  rw [if_pos (by simp), if_neg (by omega), e1, e2, w64 (x := i / a) (by omega) (by omega), w64 (x := i % a + 1) (by omega) (by omega), w64 (x := i / a + 1) (by omega) (by omega), w64 (x := i % a - 1) (by omega) (by omega), w64 (x := i / a - 1) (by omega) (by omega)]
  simp only [specIndex l ha hb, Option.bind_some]
  rfl

theorem implAround {a b : Int} (l : List Int) (ha : 1 ≤ a ∧ a ≤ 12) (hb : 1 ≤ b ∧ b ≤ 12) (i : Int) (hi : 0 ≤ i ∧ i < a * b) :
    impl_touchingCells.f a b l i = some (idx a b (i % a + 1) (i / a), idx a b (i % a - 1) (i / a), idx a b (i % a) (i / a + 1), idx a b (i % a) (i / a - 1)) := by
  obtain ⟨⟨e1, e2⟩, x0, y0⟩ := cellOf ha hb hi
  simp only [impl_touchingCells.f]
  rw [if_neg (by omega), e1, e2, w64 (x := i / a) (by omega) (by omega), w64 (x := i % a + 1) (by omega) (by omega), w64 (x := i / a + 1) (by omega) (by omega), w64 (x := i % a - 1) (by omega) (by omega), w64 (x := i / a - 1) (by omega) (by omega)]
  simp only [implIndex l ha hb, Option.bind_some]

theorem rd_mid (dn : List Int) (c : Int) (cs : List Int) : rd (dn ++ c :: cs) (dn.length : Int) = c := by
  unfold rd; simp [List.getD]

/-- the reference's step from a cell -/
theorem specIn (a b : Int) (l : List Int) (kk all i : Int) : ∀ (cs dn q : List Int) (f k : Nat), f = k + cs.length + 1 → q.length + cs.length ≤ 400 → 400 < k → dn.length + cs.length ≤ 10 → (∀ c ∈ cs, 0 ≤ c ∧ c < (l.length : Int)) →
    spec_l17Joined.l2 f kk all q i (dn ++ cs) (dn.length : Int) [(⟨a, b, l⟩ : S29)] = spec_l17Joined.l1 k kk all (pushes (fun c => decide (rd l c = kk)) q cs) (wrap64 (i + 1)) [(⟨a, b, l⟩ : S29)] := by
  have r : rd_T29 [(⟨a, b, l⟩ : S29)] 0 = ⟨a, b, l⟩ := rfl
  intro cs
  induction cs with
  | nil =>
    intro dn q f k hf hq hk hd hc
    obtain rfl : f = k + 1 := by simpa using hf
    simp only [spec_l17Joined.l2, r]
    rw [if_neg (by simp)]
    rfl
  | cons c cs ih =>
    intro dn q f k hf hq hk hd hc
    rw [List.length_cons] at hf hq hd
    obtain ⟨f, rfl⟩ : ∃ m, f = m + 1 := ⟨f - 1, by omega⟩
    obtain ⟨c0, c1⟩ := hc c (by simp)
    have hi := fun q' (hq' : q'.length ≤ q.length + 1) => ih (dn ++ [c]) q' f k (by omega) (by omega) hk (by rw [List.length_append, List.length_singleton]; omega) (fun x hx => hc x (List.mem_cons_of_mem _ hx))
    rw [List.append_assoc, List.singleton_append, List.length_append, List.length_singleton] at hi
    simp only [spec_l17Joined.l2, r, rd_mid]
    rw [if_pos (by rw [List.length_append, List.length_cons]; omega), if_pos (by simp), if_pos (by omega), if_pos c0, if_pos c1, wnat (by omega), has_eq q c (by omega) f (by omega)]
    simp only [Option.bind_some]
    show _ = spec_l17Joined.l1 k kk all (pushes (fun c => decide (rd l c = kk)) (push (fun c => decide (rd l c = kk)) q c) cs) (wrap64 (i + 1)) _
    by_cases hp : rd l c = kk
    · by_cases hm : c ∈ q
      · have e : push (fun c => decide (rd l c = kk)) q c = q := by unfold push; rw [if_neg (by simp [hm])]
        rw [if_pos hp, if_pos (by simp [hm]), e]
        exact hi q (by omega)
      · have e : push (fun c => decide (rd l c = kk)) q c = q ++ [c] := by unfold push; rw [if_pos (by simp [hm, hp])]
        rw [if_pos hp, if_neg (by simp [hm]), if_pos (by omega), e]
        exact hi (q ++ [c]) (by simp)
    · have e : push (fun c => decide (rd l c = kk)) q c = q := by unfold push; rw [if_neg (by simp [hp])]
      rw [if_neg hp, e]
      exact hi q (by omega)

theorem specOut {a b : Int} {l : List Int} (ha : 1 ≤ a ∧ a ≤ 12) (hb : 1 ≤ b ∧ b ≤ 12) (hm : (l.length : Int) = a * b) (kk all first : Int) : ∀ (n : Nat) (q : List Int) (i : Nat), l.length ≤ i + n → Met (fun c => decide (rd l c = kk)) (nbS a b) first q i → (∀ x ∈ q, 0 ≤ x ∧ x < (l.length : Int)) → ∀ k, 6 * n + 400 < k →
    spec_l17Joined.l1 k kk all q (i : Int) [(⟨a, b, l⟩ : S29)] = some (((flood (fun c => decide (rd l c = kk)) (nbS a b) n q i).length : Int) == all) := by
  have m12 := mul12 ha hb
  intro n
  induction n with
  | zero =>
    intro q i hi m hq k hk
    have := m.few l.length hq
    have := m.hi
    obtain ⟨k, rfl⟩ : ∃ m, k = m + 1 := ⟨k - 1, by omega⟩
    simp only [spec_l17Joined.l1]
    rw [if_neg (by omega)]
    rfl
  | succ n ih =>
    intro q i hi m hq k hk
    have h1 := m.few l.length hq
    have h2 := m.hi
    obtain ⟨k, rfl⟩ : ∃ m, k = m + 6 := ⟨k - 6, by omega⟩
    by_cases h : i < q.length
    · have hx := hq _ (List.getElem_mem h)
      have hn : ∀ c ∈ nbS a b q[i], 0 ≤ c ∧ c < (l.length : Int) := fun c hc => by rw [hm]; exact nbS_in ha hb _ c hc
      rw [show spec_l17Joined.l1 (k + 6) kk all q (i : Int) [(⟨a, b, l⟩ : S29)] = spec_l17Joined.l2 (k + 5) kk all q (i : Int) ([] ++ nbS a b q[i]) ((([] : List Int).length : Nat) : Int) [(⟨a, b, l⟩ : S29)] by
        simp only [spec_l17Joined.l1]
        rw [if_pos (by omega), if_pos (by omega), rdi q i h, specAround l ha hb _ (by omega)]
        rfl]
      rw [specIn a b l kk all i (nbS a b q[i]) [] q (k + 5) k rfl (by show q.length + 4 ≤ 400; omega) (by omega) (by show 0 + 4 ≤ 10; omega) hn, wnat (by omega)]
      rw [ih _ (i + 1) (by omega) (m.next h) (pushes_in hq hn) k (by omega)]
      rw [show flood (fun c => decide (rd l c = kk)) (nbS a b) (n + 1) q i = flood (fun c => decide (rd l c = kk)) (nbS a b) n (pushes (fun c => decide (rd l c = kk)) q (nbS a b q[i])) (i + 1) by
        simp only [flood]; rw [dif_pos h]]
    · rw [show flood (fun c => decide (rd l c = kk)) (nbS a b) (n + 1) q i = q by simp only [flood]; rw [dif_neg h]]
      simp only [spec_l17Joined.l1]
      rw [if_neg (by omega)]

theorem specFst (a b : Int) (l : List Int) (kk : Int) (hl : l.length ≤ 1000) (all : Int → Int → Int) (R : Int → Int → Option Bool) (K1 : Nat)
    (hR : ∀ k x5 x6, K1 < k → x5 = fstOf kk 0 l → x6 = (many kk l : Int) → spec_l17Joined.l1 k kk x6 [x5] 0 [(⟨a, b, l⟩ : S29)] = R x5 x6) : ∀ (n i : Nat) (x5 x6 : Int) (k : Nat), i + n = l.length → K1 + n + 1 < k → 0 ≤ x6 → x6 ≤ i → (if x5 < 0 then fstOf kk i (l.drop i) else x5) = fstOf kk 0 l → x6 + (many kk (l.drop i) : Int) = many kk l → (x5 = -1 ∨ 0 ≤ x5) →
    spec_l17Joined.l0 k kk x5 x6 (i : Int) [(⟨a, b, l⟩ : S29)] = R (fstOf kk 0 l) (many kk l) := by
  have r : rd_T29 [(⟨a, b, l⟩ : S29)] 0 = ⟨a, b, l⟩ := rfl
  intro n
  induction n with
  | zero =>
    intro i x5 x6 k hi hk h0 h1 hf hmm h5
    obtain ⟨k, rfl⟩ : ∃ m, k = m + 1 := ⟨k - 1, by omega⟩
    obtain rfl : i = l.length := by omega
    simp only [spec_l17Joined.l0, r]
    rw [if_pos (by simp), if_neg (by omega)]
    rw [List.drop_length] at hf hmm
    have e5 : x5 = fstOf kk 0 l := by
      rw [← hf]
      split
      · rename_i h; rcases h5 with rfl | h5
        · rfl
        · omega
      · rfl
    have e6 : x6 = (many kk l : Int) := by rw [← hmm]; simp [many]
    rw [hR k x5 x6 (by omega) e5 e6, e5, e6]
  | succ n ih =>
    intro i x5 x6 k hi hk h0 h1 hf hmm h5
    obtain ⟨k, rfl⟩ : ∃ m, k = m + 1 := ⟨k - 1, by omega⟩
    have hlt : i < l.length := by omega
    rw [List.drop_eq_getElem_cons hlt] at hf hmm
    simp only [spec_l17Joined.l0, r]
    rw [if_pos (by simp), if_pos (by omega), if_pos (by omega), rdi l i hlt, wnat (by omega)]
    by_cases hk2 : l[i] = kk
    · rw [if_pos hk2, w64 (x := x6 + 1) (by omega) (by omega)]
      have e : many kk (l[i] :: l.drop (i + 1)) = many kk (l.drop (i + 1)) + 1 := by simp [many, hk2]
      rw [e] at hmm
      by_cases h : x5 < 0
      · rw [if_pos h]
        refine ih (i + 1) i (x6 + 1) k (by omega) (by omega) (by omega) (by omega) ?_ (by omega) (Or.inr (by omega))
        rw [if_neg (by omega), ← hf, if_pos h]
        simp [fstOf, hk2]
      · rw [if_neg h]
        refine ih (i + 1) x5 (x6 + 1) k (by omega) (by omega) (by omega) (by omega) ?_ (by omega) (Or.inr (by omega))
        rw [if_neg h, ← hf, if_neg h]
    · rw [if_neg hk2]
      have e : many kk (l[i] :: l.drop (i + 1)) = many kk (l.drop (i + 1)) := by unfold many; rw [List.filter_cons_of_neg (by simp [hk2])]
      rw [e] at hmm
      refine ih (i + 1) x5 x6 k (by omega) (by omega) (by omega) (by omega) ?_ (by omega) h5
      rw [← hf]
      by_cases h : x5 < 0
      · rw [if_pos h, if_pos h]
        simp [fstOf, hk2]
      · rw [if_neg h, if_neg h]

theorem specJoined {a b : Int} {l : List Int} (ha : 1 ≤ a ∧ a ≤ 12) (hb : 1 ≤ b ∧ b ≤ 12) (hm : (l.length : Int) = a * b) (kk : Int) (hk2 : kk ∈ l) (k : Nat) (hk : 3000 < k) : spec_l17Joined.f k [(⟨a, b, l⟩ : S29)] kk = some (conn a b l kk) := by
  have m12 := mul12 ha hb
  have hf := fstOf_in kk l 0 (by omega)
  rw [if_pos hk2] at hf
  unfold spec_l17Joined.f
  have := specFst a b l kk (by omega) (fun x _ => x) (fun _ _ => some (conn a b l kk)) 2000 (by
    intro k x5 x6 hk e5 e6
    subst e5
    subst e6
    have := specOut ha hb hm kk (many kk l : Int) (fstOf kk 0 l) l.length [fstOf kk 0 l] 0 (by omega) (Met.start _ _ _) (fun x hx => by rw [List.mem_singleton] at hx; subst hx; omega) k (by omega)
    rw [show ((0 : Nat) : Int) = 0 from rfl] at this
    rw [this]
    unfold conn
    congr 1
    rw [Bool.eq_iff_iff, beq_iff_eq, decide_eq_true_iff]
    omega) l.length 0 (-1) 0 k (by omega) (by omega) (by omega) (by omega) (by rw [if_pos (by omega)]; rfl) (by simp) (Or.inl rfl)
  exact this

/-- the greatest number of a list whose numbers are all from -1 on -/
theorem top_of {l : List Int} {m : Int} (h1 : ∀ x ∈ l, x ≤ m) (h2 : m ∈ l) (h0 : ∀ x ∈ l, 0 ≤ x) : top l = m + 1 := by
  unfold top
  obtain ⟨a1, a2, a3⟩ := foldmax l (-1)
  have := a2 m h2
  have := h0 m h2
  rcases a3 with a3 | a3
  · omega
  · have := h1 _ a3
    omega

theorem top_pos {l : List Int} (hl : 0 < l.length) (h0 : ∀ x ∈ l, 0 ≤ x ∧ x ≤ 35) : 1 ≤ top l ∧ top l ≤ 36 ∧ ∀ x ∈ l, x < top l := by
  unfold top
  obtain ⟨a1, a2, a3⟩ := foldmax l (-1)
  have hx := h0 _ (List.getElem_mem hl)
  have hy := a2 _ (List.getElem_mem hl)
  refine ⟨by omega, ?_, fun x hx => by have := a2 x hx; omega⟩
  rcases a3 with a3 | a3
  · omega
  · have := h0 _ a3; omega

def inR (x : Int) : Bool := decide (0 ≤ x ∧ x ≤ 35)

theorem l00Max_eq (a b : Int) : spec_l00Max.f a b = some (mxf a b) := by
  unfold spec_l00Max.f mxf
  by_cases h : a > b
  · rw [if_pos h, if_pos h]
  · rw [if_neg h, if_neg h]

theorem most1 (a b : Int) (l : List Int) (hl : l.length ≤ 1000) (n : Nat) (hn : n ≤ 36) (k0 : Nat) (hk0 : 2000 < k0) :
    spec_l17Most.l1 k0 ((n : Int) - 1) 0 [(⟨a, b, l⟩ : S29)] = some (if (List.range n).all (fun k => decide ((k : Int) ∈ l)) = true then (n : Int) else -1) := by
  have r : rd_T29 [(⟨a, b, l⟩ : S29)] 0 = ⟨a, b, l⟩ := rfl
  refine all_loop (List.range n) 1001 (fun k => decide ((k : Int) ∈ l)) (-1) (n : Int) (fun k i => spec_l17Most.l1 k ((n : Int) - 1) i [(⟨a, b, l⟩ : S29)]) ?_ ?_ k0 (by rw [List.length_range]; omega)
  · intro k i hi hk
    rw [List.length_range] at hi
    simp only [spec_l17Most.l1, r]
    rw [if_pos (by omega), if_pos (by simp), has_eq l i (by omega) k (by omega), wnat (by omega), List.getElem_range]
    rfl
  · intro k hk
    rw [List.length_range]
    simp only [spec_l17Most.l1, r]
    rw [if_neg (by omega), w64 (by omega) (by omega)]
    congr 1
    omega

theorem most0 (a b : Int) (l : List Int) (hl : l.length ≤ 1000) (hp : 0 < l.length) : ∀ (n i : Nat) (t : Int) (k : Nat), i + n = l.length → 2100 + n < k → -1 ≤ t → t ≤ 35 → (l.take i).all inR = true → t = (l.take i).foldl mxf (-1) →
    spec_l17Most.l0 k t (i : Int) [(⟨a, b, l⟩ : S29)] = some (if l.all inR = true ∧ (List.range (top l).toNat).all (fun k => decide ((k : Int) ∈ l)) = true then top l else -1) := by
  have r : rd_T29 [(⟨a, b, l⟩ : S29)] 0 = ⟨a, b, l⟩ := rfl
  intro n
  induction n with
  | zero =>
    intro i t k hi hk h0 h1 ha ht
    obtain ⟨k, rfl⟩ : ∃ m, k = m + 1 := ⟨k - 1, by omega⟩
    obtain rfl : i = l.length := by omega
    rw [List.take_length] at ha ht
    have htop : top l = t + 1 := by rw [ht]; rfl
    have hall : ∀ x ∈ l, 0 ≤ x ∧ x ≤ 35 := fun x hx => by simpa [inR] using List.all_eq_true.1 ha x hx
    have hpos := top_pos hp hall
    simp only [spec_l17Most.l0, r]
    rw [if_pos (by simp), if_neg (by omega)]
    have := most1 a b l hl (top l).toNat (by omega) k (by omega)
    rw [show (((top l).toNat : Nat) : Int) = top l by omega, show top l - 1 = t by omega] at this
    rw [this]
    simp only [ha, true_and]
  | succ n ih =>
    intro i t k hi hk h0 h1 ha ht
    obtain ⟨k, rfl⟩ : ∃ m, k = m + 1 := ⟨k - 1, by omega⟩
    have hlt : i < l.length := by omega
    simp only [spec_l17Most.l0, r]
    rw [if_pos (by simp), if_pos (by omega), if_pos (by omega), rdi l i hlt, l00In_eq, l00Max_eq, wnat (by omega)]
    simp only [Option.bind_some, decide_eq_true_eq]
    by_cases h : 0 ≤ l[i] ∧ l[i] ≤ 35
    · rw [if_pos h]
      have m := mxf_eq t l[i]
      refine ih (i + 1) (mxf t l[i]) k (by omega) (by omega) (by omega) (by omega) ?_ ?_
      · rw [List.take_succ_eq_append_getElem hlt, List.all_append, ha, Bool.true_and]
        simp [inR, h]
      · rw [List.take_succ_eq_append_getElem hlt, List.foldl_append, ← ht]; rfl
    · rw [if_neg h, if_neg]
      rintro ⟨h2, _⟩
      have := List.all_eq_true.1 h2 _ (List.getElem_mem hlt)
      exact h (by simpa [inR] using this)

theorem specOk {a b : Int} {l : List Int} (k : Nat) (hk : 9000 < k) : spec_l17Ok.f k [(⟨a, b, l⟩ : S29)] = some (okT a b l) := by
  have r : rd_T29 [(⟨a, b, l⟩ : S29)] 0 = ⟨a, b, l⟩ := rfl
  obtain ⟨k, rfl⟩ : ∃ m, k = m + 1 := ⟨k - 1, by omega⟩
  unfold spec_l17Ok.f okT
  rw [if_pos (by simp), r, l00In_eq, l00In_eq]
  simp only [Option.bind_some, spec_l17Ok.j0]
  by_cases ha : 1 ≤ a ∧ a ≤ 12
  · by_cases hb : 1 ≤ b ∧ b ≤ 12
    · have m12 := mul12 ha hb
      rw [w64 (x := a * b) (by omega) (by omega)]
      by_cases hm : (l.length : Int) = a * b
      · have hp : 0 < l.length := by omega
        simp only [ha, hb, hm, and_self, decide_true, if_true, bne_self_eq_false, Bool.false_eq_true, if_false, Bool.true_and]
        have hmost := most0 a b l (by omega) hp l.length 0 (-1) k (by omega) (by omega) (by omega) (by omega) (by simp) (by simp)
        rw [show ((0 : Nat) : Int) = 0 from rfl] at hmost
        rw [show spec_l17Most.f k [(⟨a, b, l⟩ : S29)] = spec_l17Most.l0 k (-1) 0 [(⟨a, b, l⟩ : S29)] from rfl, hmost]
        simp only [Option.bind_some]
        show spec_l17Ok.l0 k _ 0 _ = some ((l.all inR) && _)
        by_cases hin : l.all inR = true
        · have hall : ∀ x ∈ l, 0 ≤ x ∧ x ≤ 35 := fun x hx => by simpa [inR] using List.all_eq_true.1 hin x hx
          have hpos := top_pos hp hall
          by_cases hocc : (List.range (top l).toNat).all (fun k => decide ((k : Int) ∈ l)) = true
          · rw [if_pos ⟨hin, hocc⟩]
            have hl0 := all_loop (List.range (top l).toNat) 3500 (fun k => conn a b l k) false true (fun k i => spec_l17Ok.l0 k (top l) i [(⟨a, b, l⟩ : S29)]) (by
              intro k i hi hk
              have hi2 := hi
              rw [List.length_range] at hi2
              have hmem : (i : Int) ∈ l := by
                have := List.all_eq_true.1 hocc i (List.mem_range.2 hi2)
                simpa using this
              simp only [spec_l17Ok.l0]
              rw [if_pos (by omega), specJoined ha hb hm i hmem k (by omega), wnat (by omega), List.getElem_range]
              rfl) (by
              intro k hk
              rw [List.length_range]
              simp only [spec_l17Ok.l0]
              rw [if_neg (by omega)]
              simp; omega) k (by rw [List.length_range]; omega)
            rw [hl0]
            simp only [Option.bind_some, hin, Bool.true_and]
            congr 1
            rw [Bool.eq_iff_iff]
            simp only [List.all_eq_true, Bool.and_eq_true] at hocc ⊢
            constructor
            · intro h
              split at h
              · rename_i h2; exact fun x hx => ⟨hocc x hx, h2 x hx⟩
              · cases h
            · intro h
              rw [if_pos (fun x hx => (h x hx).2)]
          · rw [if_neg (fun h => hocc h.2)]
            obtain ⟨k, rfl⟩ : ∃ m, k = m + 1 := ⟨k - 1, by omega⟩
            simp only [spec_l17Ok.l0]
            rw [if_neg (by omega)]
            simp only [Option.bind_some, hin, Bool.true_and]
            congr 1
            symm
            rw [show decide ((-1 : Int) > 0) = false from rfl, Bool.eq_false_iff]
            intro h
            refine hocc (List.all_eq_true.2 fun x hx => ?_)
            have := List.all_eq_true.1 h x hx
            rw [Bool.and_eq_true] at this
            exact this.1
        · rw [if_neg (fun h => hin h.1)]
          obtain ⟨k, rfl⟩ : ∃ m, k = m + 1 := ⟨k - 1, by omega⟩
          simp only [spec_l17Ok.l0]
          rw [if_neg (by omega)]
          simp [hin]
      · simp [ha, hb, hm]
    · simp [ha, hb]
  · simp [ha]

theorem foldmx (l : List Int) : ∀ (t : Int), l.foldl mx t = l.foldl mxf t := by
  induction l with
  | nil => intro t; rfl
  | cons x l ih =>
    intro t
    rw [List.foldl_cons, List.foldl_cons, ih]
    congr 1
    unfold mx mxf
    by_cases h : t > x
    · rw [if_neg (by omega), if_pos h]
    · rw [if_neg h]
      by_cases h2 : t < x
      · rw [if_pos h2]
      · rw [if_neg h2]; omega

theorem implMax (l : List Int) (hp : 0 < l.length) (hl : l.length ≤ 1000) (k : Nat) (hk : 1100 < k) : slices_Max_int64_int64.f k l = some ((l.drop 1).foldl mx l[0]) := by
  unfold slices_Max_int64_int64.f
  rw [if_neg (by omega), if_pos (by omega)]
  have : ∀ (n i : Nat) (t : Int) (k : Nat), i + n = l.length → n < k → slices_Max_int64_int64.l0 k l t (i : Int) = some ((l.drop i).foldl mx t) := by
    intro n
    induction n with
    | zero =>
      intro i t k hi hk
      obtain ⟨k, rfl⟩ : ∃ m, k = m + 1 := ⟨k - 1, by omega⟩
      obtain rfl : i = l.length := by omega
      simp only [slices_Max_int64_int64.l0]
      rw [if_neg (by omega), List.drop_length]; rfl
    | succ n ih =>
      intro i t k hi hk
      obtain ⟨k, rfl⟩ : ∃ m, k = m + 1 := ⟨k - 1, by omega⟩
      have hlt : i < l.length := by omega
      simp only [slices_Max_int64_int64.l0]
      rw [if_pos (by omega), if_pos (by omega), rdi l i hlt, wnat (by omega), ih (i + 1) _ k (by omega) (by omega), List.drop_eq_getElem_cons hlt, List.foldl_cons]
  rw [show rd l 0 = l[0] from rdi l 0 hp]
  exact this (l.length - 1) 1 _ k (by omega) (by omega)

theorem foldmin (l : List Int) : ∀ t : Int, l.foldl mn t ≤ t ∧ (∀ x ∈ l, l.foldl mn t ≤ x) ∧ (l.foldl mn t = t ∨ l.foldl mn t ∈ l) := by
  induction l with
  | nil => intro t; simp
  | cons x l ih =>
    intro t
    rw [List.foldl_cons]
    obtain ⟨h1, h2, h3⟩ := ih (mn t x)
    have m : (mn t x ≤ t ∧ mn t x ≤ x) ∧ (mn t x = t ∨ mn t x = x) := by
      unfold mn
      by_cases h : x < t
      · rw [if_pos h]; exact ⟨⟨by omega, Int.le_refl _⟩, Or.inr rfl⟩
      · rw [if_neg h]; exact ⟨⟨Int.le_refl _, by omega⟩, Or.inl rfl⟩
    obtain ⟨⟨m1, m2⟩, m3⟩ := m
    refine ⟨by omega, ?_, ?_⟩
    · intro y hy
      rcases List.mem_cons.1 hy with rfl | hy
      · omega
      · exact h2 y hy
    · rcases h3 with h3 | h3
      · rw [h3]
        rcases m3 with m3 | m3
        · exact Or.inl m3
        · exact Or.inr (by rw [m3]; simp)
      · exact Or.inr (List.mem_cons_of_mem _ h3)

theorem implMin (l : List Int) (hp : 0 < l.length) (hl : l.length ≤ 1000) (k : Nat) (hk : 1100 < k) : slices_Min_int64_int64.f k l = some ((l.drop 1).foldl mn l[0]) := by
  unfold slices_Min_int64_int64.f
  rw [if_neg (by omega), if_pos (by omega)]
  have : ∀ (n i : Nat) (t : Int) (k : Nat), i + n = l.length → n < k → slices_Min_int64_int64.l0 k l t (i : Int) = some ((l.drop i).foldl mn t) := by
    intro n
    induction n with
    | zero =>
      intro i t k hi hk
      obtain ⟨k, rfl⟩ : ∃ m, k = m + 1 := ⟨k - 1, by omega⟩
      obtain rfl : i = l.length := by omega
      simp only [slices_Min_int64_int64.l0]
      rw [if_neg (by omega), List.drop_length]; rfl
    | succ n ih =>
      intro i t k hi hk
      obtain ⟨k, rfl⟩ : ∃ m, k = m + 1 := ⟨k - 1, by omega⟩
      have hlt : i < l.length := by omega
      simp only [slices_Min_int64_int64.l0]
      rw [if_pos (by omega), if_pos (by omega), rdi l i hlt, wnat (by omega), ih (i + 1) _ k (by omega) (by omega), List.drop_eq_getElem_cons hlt, List.foldl_cons]
  rw [show rd l 0 = l[0] from rdi l 0 hp]
  exact this (l.length - 1) 1 _ k (by omega) (by omega)

theorem cons_drop (l : List Int) (hp : 0 < l.length) : l = l[0] :: l.drop 1 := by
  have := List.drop_eq_getElem_cons hp
  rwa [List.drop_zero] at this

theorem max_top (l : List Int) (hp : 0 < l.length) (h0 : ∀ x ∈ l, 0 ≤ x) : (l.drop 1).foldl mx l[0] = top l - 1 := by
  rw [foldmx]
  obtain ⟨a1, a2, a3⟩ := foldmax (l.drop 1) l[0]
  have hc := cons_drop l hp
  have e := top_of (l := l) (m := (l.drop 1).foldl mxf l[0]) (fun x hx => by
    rw [hc] at hx
    rcases List.mem_cons.1 hx with rfl | hx
    · exact a1
    · exact a2 x hx) (by
    rcases a3 with a3 | a3
    · rw [a3]; exact List.getElem_mem hp
    · exact List.mem_of_mem_drop a3) h0
  omega

theorem implIndexOf (l : List Int) (hl : l.length ≤ 1000) (kk : Int) (k : Nat) (hk : 1100 < k) : slices_Index_int64_int64.f k l kk = some (fstOf kk 0 l) := by
  unfold slices_Index_int64_int64.f
  have : ∀ (n i : Nat) (k : Nat), i + n = l.length → n < k → slices_Index_int64_int64.l0 k l kk (l.length : Int) (i : Int) = some (fstOf kk i (l.drop i)) := by
    intro n
    induction n with
    | zero =>
      intro i k hi hk
      obtain ⟨k, rfl⟩ : ∃ m, k = m + 1 := ⟨k - 1, by omega⟩
      obtain rfl : i = l.length := by omega
      simp only [slices_Index_int64_int64.l0]
      rw [if_neg (by omega), List.drop_length]; rfl
    | succ n ih =>
      intro i k hi hk
      obtain ⟨k, rfl⟩ : ∃ m, k = m + 1 := ⟨k - 1, by omega⟩
      have hlt : i < l.length := by omega
      simp only [slices_Index_int64_int64.l0]
      rw [if_pos (by omega), if_pos (by omega), if_pos (by omega), rdi l i hlt, wnat (by omega), ih (i + 1) k (by omega) (by omega), List.drop_eq_getElem_cons hlt]
      show _ = some (if l[i] = kk then (i : Int) else fstOf kk ((i : Int) + 1) (l.drop (i + 1)))
      by_cases h : kk = l[i]
      · rw [if_pos h, if_pos h.symm]
      · rw [if_neg h, if_neg (fun e => h e.symm)]; rfl
  exact this l.length 0 k (by omega) (by omega)

/-- what the list of flags tells -/
def Flags (N : Nat) (met : List Bool) (q : List Int) : Prop := met.length = N ∧ ∀ c : Int, 0 ≤ c → c < N → rdOf false met c = decide (c ∈ q)

theorem flags_set {N : Nat} {met : List Bool} {q : List Int} (h : Flags N met q) (c : Int) (c0 : 0 ≤ c) (c1 : c < N) : Flags N (met.set c.toNat true) (q ++ [c]) := by
  refine ⟨by rw [List.length_set]; exact h.1, fun x x0 x1 => ?_⟩
  have hx := h.2 x x0 x1
  have hl := h.1
  unfold rdOf at hx ⊢
  simp only [List.getD_eq_getElem?_getD, List.getElem?_set] at hx ⊢
  by_cases e : c.toNat = x.toNat
  · obtain rfl : c = x := by omega
    rw [if_pos rfl, if_pos (by omega)]
    simp
  · rw [if_neg e, hx]
    have : ¬ x = c := fun e2 => e (by rw [e2])
    simp [this]

theorem implIn {a b : Int} {l : List Int} (kk cnt i nn kk2 c0 c1 c2 c3 : Int) : ∀ (cs dn q : List Int) (met : List Bool), Flags l.length met q → [c0, c1, c2, c3] = dn ++ cs → q.length + cs.length ≤ 400 → (∀ c ∈ cs, 0 ≤ c ∧ c < (l.length : Int)) → ∃ met', Flags l.length met' (pushes (fun c => decide (rd l c = kk)) q cs) ∧ ∀ (f k : Nat), f = k + cs.length + 1 →
    impl_ValidTiling.l2 f kk met q cnt i nn kk2 (dn.length : Int) c0 c1 c2 c3 a b l = impl_ValidTiling.l1 k kk met' (pushes (fun c => decide (rd l c = kk)) q cs) cnt (wrap64 (i + 1)) nn kk2 a b l := by
  intro cs
  induction cs with
  | nil =>
    intro dn q met hf hd hq hc
    refine ⟨met, hf, fun f k hfk => ?_⟩
    obtain rfl : f = k + 1 := by simpa using hfk
    have h4 : dn.length = 4 := by have := congrArg List.length hd; simpa using this.symm
    simp only [impl_ValidTiling.l2]
    rw [if_neg (by omega)]
    rfl
  | cons c cs ih =>
    intro dn q met hf hd hq hc
    rw [List.length_cons] at hq
    have h4 : dn.length + cs.length + 1 = 4 := by have := congrArg List.length hd; simp at this; omega
    obtain ⟨d0, d1⟩ := hc c (by simp)
    have hrd : rd [c0, c1, c2, c3] (dn.length : Int) = c := by rw [hd]; exact rd_mid dn c cs
    have hi := fun q' met' hf' (hq' : q'.length ≤ q.length + 1) => ih (dn ++ [c]) q' met' hf' (by rw [hd]; simp) (by omega) (fun x hx => hc x (List.mem_cons_of_mem _ hx))
    rw [List.length_append, List.length_singleton] at hi
    have step : ∀ f, impl_ValidTiling.l2 (f + 1) kk met q cnt i nn kk2 (dn.length : Int) c0 c1 c2 c3 a b l = (if rd l c = kk then (if decide (c ∈ q) = true then impl_ValidTiling.l2 f kk met q cnt i nn kk2 ((dn.length + 1 : Nat) : Int) c0 c1 c2 c3 a b l else impl_ValidTiling.l2 f kk (met.set c.toNat true) (q ++ [c]) cnt i nn kk2 ((dn.length + 1 : Nat) : Int) c0 c1 c2 c3 a b l) else impl_ValidTiling.l2 f kk met q cnt i nn kk2 ((dn.length + 1 : Nat) : Int) c0 c1 c2 c3 a b l) := by
      intro f
      have hl := hf.1
      simp only [impl_ValidTiling.l2, hrd]
      rw [if_pos (by omega), if_pos (by omega), if_pos d0, if_pos d1, wnat (by omega), if_pos (by omega : c < (met.length : Int)), hf.2 c d0 d1, if_pos (by omega : q.length < 17592186044416)]
    show ∃ met', Flags l.length met' (pushes (fun c => decide (rd l c = kk)) (push (fun c => decide (rd l c = kk)) q c) cs) ∧ _
    by_cases hp : rd l c = kk
    · by_cases hm : c ∈ q
      · have e : push (fun c => decide (rd l c = kk)) q c = q := by unfold push; rw [if_neg (by simp [hm])]
        rw [e]
        obtain ⟨met', g1, g2⟩ := hi q met hf (by omega)
        refine ⟨met', g1, fun f k hfk => ?_⟩
        rw [List.length_cons] at hfk
        obtain ⟨f, rfl⟩ : ∃ m, f = m + 1 := ⟨f - 1, by omega⟩
        rw [step f, if_pos hp, if_pos (by simp [hm]), g2 f k (by omega)]
        show _ = impl_ValidTiling.l1 k kk met' (pushes _ (push _ q c) cs) _ _ _ _ _ _ _
        rw [e]
      · have e : push (fun c => decide (rd l c = kk)) q c = q ++ [c] := by unfold push; rw [if_pos (by simp [hm, hp])]
        rw [e]
        obtain ⟨met', g1, g2⟩ := hi (q ++ [c]) (met.set c.toNat true) (flags_set hf c d0 d1) (by simp)
        refine ⟨met', g1, fun f k hfk => ?_⟩
        rw [List.length_cons] at hfk
        obtain ⟨f, rfl⟩ : ∃ m, f = m + 1 := ⟨f - 1, by omega⟩
        rw [step f, if_pos hp, if_neg (by simp [hm]), g2 f k (by omega)]
        show _ = impl_ValidTiling.l1 k kk met' (pushes _ (push _ q c) cs) _ _ _ _ _ _ _
        rw [e]
    · have e : push (fun c => decide (rd l c = kk)) q c = q := by unfold push; rw [if_neg (by simp [hp])]
      rw [e]
      obtain ⟨met', g1, g2⟩ := hi q met hf (by omega)
      refine ⟨met', g1, fun f k hfk => ?_⟩
      rw [List.length_cons] at hfk
      obtain ⟨f, rfl⟩ : ∃ m, f = m + 1 := ⟨f - 1, by omega⟩
      rw [step f, if_neg hp, g2 f k (by omega)]
      show _ = impl_ValidTiling.l1 k kk met' (pushes _ (push _ q c) cs) _ _ _ _ _ _ _
      rw [e]

theorem implOut {a b : Int} {l : List Int} (ha : 1 ≤ a ∧ a ≤ 12) (hb : 1 ≤ b ∧ b ≤ 12) (hm : (l.length : Int) = a * b) (kk nn kk2 first : Int) (R : Int → Option Bool) (K1 : Nat)
    (hR : ∀ k c, K1 < k → 0 ≤ c → c ≤ 400 → impl_ValidTiling.l3 k kk c nn kk2 l (l.length : Int) 0 a b l = R c) : ∀ (n : Nat) (q : List Int) (met : List Bool) (i : Nat), l.length ≤ i + n → Met (fun c => decide (rd l c = kk)) (nbI a b) first q i → Flags l.length met q → (∀ x ∈ q, 0 ≤ x ∧ x < (l.length : Int)) → ∀ k, 6 * n + K1 + 400 < k →
    impl_ValidTiling.l1 k kk met q (i : Int) (i : Int) nn kk2 a b l = R ((flood (fun c => decide (rd l c = kk)) (nbI a b) n q i).length : Int) := by
  have m12 := mul12 ha hb
  intro n
  induction n with
  | zero =>
    intro q met i hi m hf hq k hk
    have := m.few l.length hq
    have := m.hi
    obtain ⟨k, rfl⟩ : ∃ m, k = m + 1 := ⟨k - 1, by omega⟩
    simp only [impl_ValidTiling.l1]
    rw [if_neg (by omega), hR k _ (by omega) (by omega) (by omega)]
    obtain rfl : i = q.length := by omega
    rfl
  | succ n ih =>
    intro q met i hi m hf hq k hk
    have h1 := m.few l.length hq
    have h2 := m.hi
    obtain ⟨k, rfl⟩ : ∃ m, k = m + 6 := ⟨k - 6, by omega⟩
    by_cases h : i < q.length
    · have hx := hq _ (List.getElem_mem h)
      have hn : ∀ c ∈ nbI a b q[i], 0 ≤ c ∧ c < (l.length : Int) := fun c hc => by rw [hm]; exact nbS_in ha hb _ c ((nb_same a b _ c).2 hc)
      obtain ⟨met', g1, g2⟩ := implIn (a := a) (b := b) kk ((i + 1 : Nat) : Int) i nn kk2 _ _ _ _ (nbI a b q[i]) [] q met hf rfl (by show q.length + 4 ≤ 400; omega) hn
      rw [show impl_ValidTiling.l1 (k + 6) kk met q (i : Int) (i : Int) nn kk2 a b l = impl_ValidTiling.l2 (k + 5) kk met q ((i + 1 : Nat) : Int) (i : Int) nn kk2 ((([] : List Int).length : Nat) : Int) (idx a b (q[i] % a + 1) (q[i] / a)) (idx a b (q[i] % a - 1) (q[i] / a)) (idx a b (q[i] % a) (q[i] / a + 1)) (idx a b (q[i] % a) (q[i] / a - 1)) a b l by
        simp only [impl_ValidTiling.l1]
        rw [if_pos (by omega), if_pos (by omega), rdi q i h, implAround l ha hb _ (by omega)]
        simp only [Option.bind_some]
        rw [wnat (by omega)]
        rfl]
      rw [g2 (k + 5) k rfl, wnat (by omega)]
      rw [ih _ met' (i + 1) (by omega) (m.next h) g1 (pushes_in hq hn) k (by omega)]
      rw [show flood (fun c => decide (rd l c = kk)) (nbI a b) (n + 1) q i = flood (fun c => decide (rd l c = kk)) (nbI a b) n (pushes (fun c => decide (rd l c = kk)) q (nbI a b q[i])) (i + 1) by
        simp only [flood]; rw [dif_pos h]]
    · rw [show flood (fun c => decide (rd l c = kk)) (nbI a b) (n + 1) q i = q by simp only [flood]; rw [dif_neg h]]
      simp only [impl_ValidTiling.l1]
      rw [if_neg (by omega), hR _ _ (by omega) (by omega) (by omega)]
      obtain rfl : i = q.length := by omega
      rfl

theorem implCount {a b : Int} {l : List Int} (hl : l.length ≤ 1000) (kk nn kk2 : Int) (R : Option Bool) (K1 : Nat) (hR : ∀ k, K1 < k → impl_ValidTiling.l0 k nn (wrap64 (kk2 + 1)) a b l = R) : ∀ (n i : Nat) (c : Int) (k : Nat), i + n = l.length → K1 + n + 1 < k → -2000 ≤ c - n → c ≤ 2000 →
    impl_ValidTiling.l3 k kk c nn kk2 l (l.length : Int) (i : Int) a b l = if c = (many kk (l.drop i) : Int) then R else some false := by
  intro n
  induction n with
  | zero =>
    intro i c k hi hk h0 h1
    obtain ⟨k, rfl⟩ : ∃ m, k = m + 1 := ⟨k - 1, by omega⟩
    obtain rfl : i = l.length := by omega
    simp only [impl_ValidTiling.l3]
    rw [if_neg (by omega), hR k (by omega), List.drop_length]
    rfl
  | succ n ih =>
    intro i c k hi hk h0 h1
    obtain ⟨k, rfl⟩ : ∃ m, k = m + 1 := ⟨k - 1, by omega⟩
    have hlt : i < l.length := by omega
    simp only [impl_ValidTiling.l3]
    rw [if_pos (by omega), if_pos (by omega), if_pos (by omega), rdi l i hlt, wnat (by omega)]
    by_cases h : l[i] = kk
    · have e : many kk (l.drop i) = many kk (l.drop (i + 1)) + 1 := by
        rw [List.drop_eq_getElem_cons hlt]
        unfold many; rw [List.filter_cons_of_pos (by simp [h]), List.length_cons]
      rw [if_pos h, w64 (x := c - 1) (by omega) (by omega), ih (i + 1) (c - 1) k (by omega) (by omega) (by omega) (by omega), e]
      by_cases h2 : c - 1 = (many kk (l.drop (i + 1)) : Int)
      · rw [if_pos h2, if_pos (by omega)]
      · rw [if_neg h2, if_neg (by omega)]
    · have e : many kk (l.drop i) = many kk (l.drop (i + 1)) := by
        rw [List.drop_eq_getElem_cons hlt]
        unfold many; rw [List.filter_cons_of_neg (by simp [h])]
      rw [if_neg h, ih (i + 1) c k (by omega) (by omega) (by omega) (by omega), e]

theorem implTiles {a b : Int} {l : List Int} (ha : 1 ≤ a ∧ a ≤ 12) (hb : 1 ≤ b ∧ b ≤ 12) (hm : (l.length : Int) = a * b) (nn : Nat) (hnn : nn ≤ 36) : ∀ (m j k : Nat), j + m = nn → 2000 * m + 10 < k →
    impl_ValidTiling.l0 k (nn : Int) (j : Int) a b l = some ((List.range' j m).all (fun k => decide ((k : Int) ∈ l) && conn a b l k)) := by
  have m12 := mul12 ha hb
  intro m
  induction m with
  | zero =>
    intro j k hj hk
    obtain ⟨k, rfl⟩ : ∃ m, k = m + 1 := ⟨k - 1, by omega⟩
    simp only [impl_ValidTiling.l0]
    rw [if_neg (by omega)]
    rfl
  | succ m ih =>
    intro j k hj hk
    obtain ⟨k, rfl⟩ : ∃ m, k = m + 1 := ⟨k - 1, by omega⟩
    rw [List.range'_succ, List.all_cons]
    simp only [impl_ValidTiling.l0]
    rw [if_pos (by omega), implIndexOf l (by omega) j k (by omega)]
    simp only [Option.bind_some]
    have hf := fstOf_in (j : Int) l 0 (by omega)
    by_cases hk2 : (j : Int) ∈ l
    · rw [if_pos hk2] at hf
      rw [if_neg (by omega), if_pos (by omega), if_pos (by omega), if_pos hf.1, List.length_replicate, if_pos (by omega)]
      have hs : ∀ x ∈ [fstOf (j : Int) 0 l], 0 ≤ x ∧ x < (l.length : Int) := fun x hx => by rw [List.mem_singleton] at hx; subst hx; omega
      have hfl : Flags l.length ((List.replicate ((l.length : Int)).toNat false).set (fstOf (j : Int) 0 l).toNat true) [fstOf (j : Int) 0 l] := by
        have : Flags l.length (List.replicate ((l.length : Int)).toNat false) [] := ⟨by simp, fun c c0 c1 => by
          unfold rdOf
          simp [List.getD_eq_getElem?_getD, List.getElem?_replicate]
          split <;> rfl⟩
        exact flags_set this _ hf.1 (by omega)
      have ho := implOut ha hb hm (j : Int) (nn : Int) (j : Int) (fstOf (j : Int) 0 l) (fun c => if c = (many (j : Int) l : Int) then some ((List.range' (j + 1) m).all (fun k => decide ((k : Int) ∈ l) && conn a b l k)) else some false) (2000 * m + 170) (by
        intro k c hk c0 c1
        have := implCount (a := a) (b := b) (l := l) (by omega) (j : Int) (nn : Int) (j : Int) (some ((List.range' (j + 1) m).all (fun k => decide ((k : Int) ∈ l) && conn a b l k))) (2000 * m + 10) (fun k hk => by rw [wnat (by omega)]; exact ih (j + 1) k (by omega) hk) l.length 0 c k (by omega) (by omega) (by omega) (by omega)
        rw [show ((0 : Nat) : Int) = 0 from rfl, List.drop_zero] at this
        exact this) l.length [fstOf (j : Int) 0 l] _ 0 (by omega) (Met.start _ _ _) hfl hs k (by omega)
      rw [show ((0 : Nat) : Int) = 0 from rfl] at ho
      rw [ho, conn_I ha hb hm hk2]
      unfold conn
      simp only [hk2, decide_true, Bool.true_and]
      by_cases h : (flood (fun c => decide (rd l c = (j : Int))) (nbS a b) l.length [fstOf (j : Int) 0 l] 0).length = many (j : Int) l
      · rw [if_pos (by omega)]; simp [h]
      · rw [if_neg (by omega)]; simp [h]
    · rw [if_neg hk2] at hf
      rw [if_pos (by omega)]
      simp [hk2]

theorem implTiling {a b : Int} {l : List Int} (k : Nat) (hk : 90000 < k) : impl_ValidTiling.f k a b l = some (okT a b l) := by
  obtain ⟨k, rfl⟩ : ∃ m, k = m + 2 := ⟨k - 2, by omega⟩
  unfold impl_ValidTiling.f okT
  rw [within_eq, within_eq]
  simp only [Option.bind_some, impl_ValidTiling.j0]
  by_cases ha : 1 ≤ a ∧ a ≤ 12
  · by_cases hb : 1 ≤ b ∧ b ≤ 12
    · have m12 := mul12 ha hb
      rw [w64 (x := a * b) (by omega) (by omega)]
      by_cases hm : (l.length : Int) = a * b
      · have hp : 0 < l.length := by omega
        simp only [ha, hb, hm, and_self, decide_true, if_true, bne_self_eq_false, Bool.false_eq_true, if_false, Bool.true_and]
        rw [implMin l hp (by omega) (k + 1) (by omega), implMax l hp (by omega) (k + 1) (by omega)]
        simp only [Option.bind_some]
        show _ = some ((l.all inR) && _)
        obtain ⟨a1, a2, a3⟩ := foldmin (l.drop 1) l[0]
        obtain ⟨b1, b2, b3⟩ := foldmax (l.drop 1) l[0]
        have hc := cons_drop l hp
        by_cases h1 : (l.drop 1).foldl mn l[0] < 0
        · rw [if_pos h1]
          simp only [impl_ValidTiling.j1, if_true]
          rw [show l.all inR = false by
            rw [Bool.eq_false_iff]
            intro h
            have hx : (l.drop 1).foldl mn l[0] ∈ l := by
              rcases a3 with a3 | a3
              · rw [a3]; exact List.getElem_mem hp
              · exact List.mem_of_mem_drop a3
            have := List.all_eq_true.1 h _ hx
            unfold inR at this
            rw [decide_eq_true_eq] at this
            omega]
          rfl
        · rw [if_neg h1]
          have h0 : ∀ x ∈ l, 0 ≤ x := by
            intro x hx
            rw [hc] at hx
            rcases List.mem_cons.1 hx with rfl | hx
            · omega
            · have := a2 x hx; omega
          rw [max_top l hp h0]
          by_cases h2 : top l - 1 ≥ 36
          · simp only [h2, decide_true, impl_ValidTiling.j1, if_true]
            rw [show l.all inR = false by
              rw [Bool.eq_false_iff]
              intro h
              have hall : ∀ x ∈ l, 0 ≤ x ∧ x ≤ 35 := fun x hx => by simpa [inR] using List.all_eq_true.1 h x hx
              have := top_pos hp hall
              omega]
            rfl
          · have hin : l.all inR = true := by
              rw [List.all_eq_true]
              intro x hx
              have e := max_top l hp h0
              rw [foldmx] at e
              have h3 := h0 x hx
              have h4 : x ≤ (l.drop 1).foldl mxf l[0] := by
                rw [hc] at hx
                rcases List.mem_cons.1 hx with rfl | hx
                · exact b1
                · exact b2 x hx
              unfold inR
              rw [decide_eq_true_eq]
              omega
            have hall : ∀ x ∈ l, 0 ≤ x ∧ x ≤ 35 := fun x hx => by simpa [inR] using List.all_eq_true.1 hin x hx
            have htp := top_pos hp hall
            simp only [h2, decide_false, impl_ValidTiling.j1, Bool.false_eq_true, if_false, impl_tiles.f]
            rw [implMax l hp (by omega) k (by omega), max_top l hp h0]
            simp only [Option.bind_some]
            rw [w64 (by omega) (by omega), show top l - 1 + 1 = (((top l).toNat : Nat) : Int) by omega]
            have := implTiles ha hb hm (top l).toNat (by omega) (top l).toNat 0 k (by omega) (by omega)
            rw [show ((0 : Nat) : Int) = 0 from rfl] at this
            rw [this, hin, List.range_eq_range']
            rfl
      · simp [ha, hb, hm]
    · simp [ha, hb]
  · simp [ha]

theorem okT_spec {a b : Int} {l : List Int} (h : okT a b l = true) : (1 ≤ a ∧ a ≤ 12) ∧ (1 ≤ b ∧ b ≤ 12) ∧ (l.length : Int) = a * b ∧ (∀ x ∈ l, 0 ≤ x ∧ x ≤ 35) := by
  unfold okT at h
  simp only [Bool.and_eq_true, decide_eq_true_eq, List.all_eq_true] at h
  exact ⟨h.1, h.2.1, h.2.2.1, h.2.2.2.1⟩

theorem specTiling {a b : Int} {l : List Int} (k : Nat) (hk : 9000 < k) : spec_ValidTiling.f k a b l = some (okT a b l) := by
  unfold spec_ValidTiling.f
  rw [specOk k hk]; rfl

def okM (a b : Int) (l : List Int) (t x y : Int) : Bool := okT a b l && (decide (0 ≤ t ∧ t ≤ 7) && ((decide (t % 2 = 0) || decide (a = b)) && (decide (0 ≤ x ∧ x ≤ a - 1) && decide (0 ≤ y ∧ y ≤ b - 1))))

theorem rest_eq {x a : Int} (ha : 1 ≤ a ∧ a ≤ 12) : impl_rest.f x a = some (x % a) := by
  unfold impl_rest.f; rw [if_neg (by omega), rest_emod ha]

def upTo : Nat → Int → List Int
  | 0, _ => []
  | n + 1, m => m :: upTo n (m + 1)

theorem upTo_len : ∀ (n : Nat) (m : Int), (upTo n m).length = n
  | 0, _ => rfl
  | n + 1, m => by simp [upTo, upTo_len n]

theorem upTo_get : ∀ (n : Nat) (m : Int) (i : Nat) (h : i < (upTo n m).length), (upTo n m)[i] = m + i
  | 0, m, i, h => by simp [upTo] at h
  | n + 1, m, 0, h => by simp [upTo]
  | n + 1, m, i + 1, h => by
    have h' : i < (upTo n (m + 1)).length := by simpa [upTo] using h
    have := upTo_get n (m + 1) i h'
    simp only [upTo, List.getElem_cons_succ, this]; omega

theorem markInts_eq (l : List Int) (hl : l.length ≤ 1048576) (m : Int) (h0 : 0 ≤ m) (h1 : m ≤ 100000000) (k : Nat) (hk : l.length < k) : laws_markInt64S.f k l m = some (m + l.length, upTo l.length m) := by
  have key : ∀ (n i k : Nat) (s : List Int), i + n = l.length → n < k → s.length = l.length → s.take i = (upTo l.length m).take i →
      laws_markInt64S.l0 k s (m + i) (i : Int) = some (m + l.length, upTo l.length m) := by
    intro n
    induction n with
    | zero =>
      intro i k s hi hk hs ht
      obtain ⟨k, rfl⟩ : ∃ m, k = m + 1 := ⟨k - 1, by omega⟩
      obtain rfl : i = l.length := by omega
      simp only [laws_markInt64S.l0]
      have e : s = upTo l.length m := by
        rw [List.take_of_length_le (by omega), List.take_of_length_le (by rw [upTo_len]; omega)] at ht; exact ht
      rw [if_neg (by omega), e]
    | succ n ih =>
      intro i k s hi hk hs ht
      obtain ⟨k, rfl⟩ : ∃ m, k = m + 1 := ⟨k - 1, by omega⟩
      simp only [laws_markInt64S.l0]
      rw [if_pos (by omega), if_pos (by omega), w64 (x := m + i + 1) (by omega) (by omega), wnat (by omega)]
      have hh := ih (i + 1) k (s.set (i : Int).toNat (m + i)) (by omega) (by omega) (by rw [List.length_set]; exact hs) (by
        have hlt : i < (upTo l.length m).length := by rw [upTo_len]; omega
        rw [List.take_succ_eq_append_getElem (by rw [List.length_set]; omega), List.take_succ_eq_append_getElem hlt, List.take_set_of_le (by omega), ht, upTo_get _ _ _ hlt]
        simp)
      rw [show m + ((i + 1 : Nat) : Int) = m + i + 1 by omega] at hh
      exact hh
  have := key l.length 0 k l (by omega) hk rfl (by simp)
  unfold laws_markInt64S.f
  simpa using this

theorem mod_eq {x a : Int} (ha : 1 ≤ a ∧ a ≤ 12) : spec_l18Mod.f x a = some (x % a) := by
  unfold spec_l18Mod.f; rw [if_neg (by omega), rest_emod ha]

def rot : Nat → Int → Int → Int × Int
  | 0, x, y => (x, y)
  | n + 1, x, y => rot n (-y - 1) x

theorem rot_loop {β : Type} (L : Nat → Int → Int → Int → Option β) (E : Int → Int → Option β)
    (h1 : ∀ (k : Nat) (x y n : Int), 0 < n → n ≤ 4 → -2000000 ≤ x → x ≤ 2000000 → -2000000 ≤ y → y ≤ 2000000 → L (k + 1) x y n = L k (-y - 1) x (n - 1))
    (h0 : ∀ (k : Nat) (x y : Int), L (k + 1) x y 0 = E x y) : ∀ (n : Nat) (x y : Int) (k : Nat), n ≤ 4 → n < k → -(2000000 - n) ≤ x → x ≤ 2000000 - n → -(2000000 - n) ≤ y → y ≤ 2000000 - n → L k x y (n : Int) = E (rot n x y).1 (rot n x y).2 ∧ -2000000 ≤ (rot n x y).1 ∧ (rot n x y).1 ≤ 2000000 ∧ -2000000 ≤ (rot n x y).2 ∧ (rot n x y).2 ≤ 2000000 := by
  intro n
  induction n with
  | zero =>
    intro x y k hn hk x0 x1 y0 y1
    obtain ⟨k, rfl⟩ : ∃ m, k = m + 1 := ⟨k - 1, by omega⟩
    exact ⟨h0 k x y, by simp only [rot]; omega⟩
  | succ n ih =>
    intro x y k hn hk x0 x1 y0 y1
    obtain ⟨k, rfl⟩ : ∃ m, k = m + 1 := ⟨k - 1, by omega⟩
    have := ih (-y - 1) x k (by omega) (by omega) (by omega) (by omega) (by omega) (by omega)
    rw [h1 k x y _ (by omega) (by omega) (by omega) (by omega) (by omega) (by omega), show ((n + 1 : Nat) : Int) - 1 = (n : Int) by omega]
    exact this

def turnC (t x y : Int) : Int × Int := rot (t % 4).toNat (if t > 3 then -x - 1 else x) y
def moveC (a b t dx dy x y : Int) : Int × Int := (((turnC t x y).1 + dx) % a, ((turnC t x y).2 + dy) % b)

theorem specMove {a b : Int} {l : List Int} {t dx dy x y : Int} (ha : 1 ≤ a ∧ a ≤ 12) (hb : 1 ≤ b ∧ b ≤ 12) (ht : 0 ≤ t ∧ t ≤ 7) (hdx : -1000 ≤ dx ∧ dx ≤ 1000) (hdy : -1000 ≤ dy ∧ dy ≤ 1000) (hx : -1000 ≤ x ∧ x ≤ 1000) (hy : -1000 ≤ y ∧ y ≤ 1000) (k : Nat) (hk : 100 < k) :
    spec_l18Move.f k [(⟨a, b, l⟩ : S29)] [(⟨t, dx, dy⟩ : S31)] x y = some (moveC a b t dx dy x y) := by
  have r : rd_T29 [(⟨a, b, l⟩ : S29)] 0 = ⟨a, b, l⟩ := rfl
  have r2 : rd_T31 [(⟨t, dx, dy⟩ : S31)] 0 = ⟨t, dx, dy⟩ := rfl
  obtain ⟨k, rfl⟩ : ∃ m, k = m + 1 := ⟨k - 1, by omega⟩
  have key : ∀ x' : Int, -2000 ≤ x' → x' ≤ 2000 → spec_l18Move.j0 (k + 1) x' y [(⟨a, b, l⟩ : S29)] [(⟨t, dx, dy⟩ : S31)] = some (((rot (t % 4).toNat x' y).1 + dx) % a, ((rot (t % 4).toNat x' y).2 + dy) % b) := by
    intro x' x0 x1
    simp only [spec_l18Move.j0, r2]
    rw [if_pos (by simp), Int.tmod_eq_emod_of_nonneg ht.1]
    have hl := rot_loop (fun k x y n => spec_l18Move.l0 k x y n [(⟨a, b, l⟩ : S29)] [(⟨t, dx, dy⟩ : S31)]) (fun x y => (spec_l18Mod.f (wrap64 (x + dx)) a).bind fun t202 => (spec_l18Mod.f (wrap64 (y + dy)) b).bind fun t205 => some (t202, t205)) (by
      intro k x y n n0 n4 x0 x1 y0 y1
      simp only [spec_l18Move.l0]
      rw [if_pos (by omega), w64 (x := -y) (by omega) (by omega), w64 (x := -y - 1) (by omega) (by omega), w64 (x := n - 1) (by omega) (by omega)]) (by
      intro k x y
      simp only [spec_l18Move.l0, r, r2]
      rw [if_neg (by omega), if_pos (by simp), if_pos (by simp)]) (t % 4).toNat x' y k (by omega) (by omega) (by omega) (by omega) (by omega) (by omega)
    rw [show (((t % 4).toNat : Nat) : Int) = t % 4 by omega] at hl
    obtain ⟨hl, b0, b1, b2, b3⟩ := hl
    rw [hl, w64 (by omega) (by omega), w64 (by omega) (by omega), mod_eq ha, mod_eq hb]
    rfl
  unfold spec_l18Move.f moveC turnC
  rw [if_pos (by simp), r2]
  by_cases h : t ≥ 4
  · rw [if_pos h, if_pos (by omega), w64 (x := -x) (by omega) (by omega), w64 (x := -x - 1) (by omega) (by omega)]
    exact key _ (by omega) (by omega)
  · rw [if_neg h, if_neg (by omega)]
    exact key _ (by omega) (by omega)

theorem implTurn {t x y : Int} (ht : 0 ≤ t ∧ t ≤ 7) (hx : -1000 ≤ x ∧ x ≤ 1000) (hy : -1000 ≤ y ∧ y ≤ 1000) (k : Nat) (hk : 100 < k) : impl_turnCell.f k t x y = some (turnC t x y) ∧ -2000000 ≤ (turnC t x y).1 ∧ (turnC t x y).1 ≤ 2000000 ∧ -2000000 ≤ (turnC t x y).2 ∧ (turnC t x y).2 ≤ 2000000 := by
  obtain ⟨k, rfl⟩ : ∃ m, k = m + 1 := ⟨k - 1, by omega⟩
  have key : ∀ x' : Int, -2000 ≤ x' → x' ≤ 2000 → impl_turnCell.j0 (k + 1) t x' y = some (rot (t % 4).toNat x' y) ∧ -2000000 ≤ (rot (t % 4).toNat x' y).1 ∧ (rot (t % 4).toNat x' y).1 ≤ 2000000 ∧ -2000000 ≤ (rot (t % 4).toNat x' y).2 ∧ (rot (t % 4).toNat x' y).2 ≤ 2000000 := by
    intro x' x0 x1
    simp only [impl_turnCell.j0]
    rw [Int.tmod_eq_emod_of_nonneg ht.1]
    have hl := rot_loop (fun k x y n => impl_turnCell.l0 k x y n) (fun x y => some (x, y)) (by
      intro k x y n n0 n4 x0 x1 y0 y1
      simp only [impl_turnCell.l0]
      rw [if_pos (by omega), w64 (x := -y) (by omega) (by omega), w64 (x := -y - 1) (by omega) (by omega), w64 (x := n - 1) (by omega) (by omega)]) (by
      intro k x y
      simp only [impl_turnCell.l0]
      rw [if_neg (by omega)]) (t % 4).toNat x' y k (by omega) (by omega) (by omega) (by omega) (by omega) (by omega)
    rw [show (((t % 4).toNat : Nat) : Int) = t % 4 by omega] at hl
    exact hl
  unfold impl_turnCell.f turnC
  by_cases h : t > 3
  · rw [if_pos h, if_pos h, w64 (x := -x) (by omega) (by omega), w64 (x := -x - 1) (by omega) (by omega)]
    exact key _ (by omega) (by omega)
  · rw [if_neg h, if_neg h]
    exact key _ (by omega) (by omega)

theorem implMove {a b : Int} {l : List Int} {t dx dy x y : Int} (ha : 1 ≤ a ∧ a ≤ 12) (hb : 1 ≤ b ∧ b ≤ 12) (ht : 0 ≤ t ∧ t ≤ 7) (hdx : -1000 ≤ dx ∧ dx ≤ 1000) (hdy : -1000 ≤ dy ∧ dy ≤ 1000) (hx : -1000 ≤ x ∧ x ≤ 1000) (hy : -1000 ≤ y ∧ y ≤ 1000) (k : Nat) (hk : 100 < k) :
    impl_moveCell.f k a b l t dx dy x y = some (moveC a b t dx dy x y) := by
  obtain ⟨e, b0, b1, b2, b3⟩ := implTurn (t := t) (x := x) (y := y) ht hx hy k hk
  unfold impl_moveCell.f
  rw [e]
  simp only [Option.bind_some]
  rw [w64 (by omega) (by omega), w64 (by omega) (by omega), rest_eq ha, rest_eq hb]
  rfl

theorem moveC_in {a b t dx dy x y : Int} (ha : 1 ≤ a ∧ a ≤ 12) (hb : 1 ≤ b ∧ b ≤ 12) : (0 ≤ (moveC a b t dx dy x y).1 ∧ (moveC a b t dx dy x y).1 < a) ∧ (0 ≤ (moveC a b t dx dy x y).2 ∧ (moveC a b t dx dy x y).2 < b) :=
  ⟨⟨Int.emod_nonneg _ (by omega), Int.emod_lt_of_pos _ (by omega)⟩, ⟨Int.emod_nonneg _ (by omega), Int.emod_lt_of_pos _ (by omega)⟩⟩

theorem lin_cell {W : Nat} {x y : Int} (x0 : 0 ≤ x) (x1 : x < W) : (y * W + x) % W = x ∧ (y * W + x) / W = y := by
  refine ⟨?_, ?_⟩
  · rw [Int.add_comm, Int.add_mul_emod_self_right, Int.emod_eq_of_lt x0 x1]
  · rw [Int.add_comm, Int.add_mul_ediv_right _ _ (by omega), Int.ediv_eq_zero_of_lt x0 x1, Int.zero_add]

theorem implTileAt {a b : Int} {l : List Int} (ha : 1 ≤ a ∧ a ≤ 12) (hb : 1 ≤ b ∧ b ≤ 12) (hm : (l.length : Int) = a * b) (x y : Int) : impl_tileAt.f a b l x y = some (rd l (idx a b x y)) := by
  have h := idx_in ha hb x y
  unfold impl_tileAt.f
  rw [rest_eq ha, rest_eq hb]
  simp only [Option.bind_some]
  rw [(idx_fits ha hb x y).1, if_pos h.1, if_pos (by omega)]

abbrev Two := List Int × List Int
def rowI (f : Int → Int → Two → Option Two) (y : Int) : Nat → Int → Two → Option Two
  | 0, _, s => some s
  | n + 1, x, s => (f x y s).bind (rowI f y n (x + 1))
def gridI (f : Int → Int → Two → Option Two) (W : Nat) : Nat → Int → Two → Option Two
  | 0, _, s => some s
  | n + 1, y, s => (rowI f y W 0 s).bind (gridI f W n (y + 1))

def fin {β : Type} (F : β) (E : Two → β) : Option Two → β
  | none => F
  | some s => E s

theorem rowI_inv {f : Int → Int → Two → Option Two} {W H : Nat} {Inv : Two → Prop} (hi : ∀ (x y : Int) (s s' : Two), Inv s → 0 ≤ y → y < H → 0 ≤ x → x < W → f x y s = some s' → Inv s') {y : Int} (y0 : 0 ≤ y) (y1 : y < H) : ∀ (m : Nat) (x : Int) (s s' : Two), x + m = W → 0 ≤ x → Inv s → rowI f y m x s = some s' → Inv s' := by
  intro m
  induction m with
  | zero => intro x s s' _ _ h e; simp only [rowI, Option.some.injEq] at e; subst e; exact h
  | succ m ih =>
    intro x s s' hx x0 h e
    simp only [rowI] at e
    obtain ⟨s1, e1, e2⟩ := Option.bind_eq_some_iff.1 e
    exact ih (x + 1) s1 s' (by omega) (by omega) (hi x y s s1 h y0 y1 x0 (by omega) e1) e2

theorem gridI_inv {f : Int → Int → Two → Option Two} {W H : Nat} {Inv : Two → Prop} (hi : ∀ (x y : Int) (s s' : Two), Inv s → 0 ≤ y → y < H → 0 ≤ x → x < W → f x y s = some s' → Inv s') : ∀ (n : Nat) (y : Int) (s s' : Two), y + n = H → 0 ≤ y → Inv s → gridI f W n y s = some s' → Inv s' := by
  intro n
  induction n with
  | zero => intro y s s' _ _ h e; simp only [gridI, Option.some.injEq] at e; subst e; exact h
  | succ n ih =>
    intro y s s' hy y0 h e
    simp only [gridI] at e
    obtain ⟨s1, e1, e2⟩ := Option.bind_eq_some_iff.1 e
    exact ih (y + 1) s1 s' (by omega) (by omega) (rowI_inv hi y0 (by omega) W 0 s s1 (by omega) (by omega) h e1) e2

/-- a loop in a loop over a state that may end early -/
theorem gridI_loop {β : Type} (f : Int → Int → Two → Option Two) (W H K0 : Nat) (hW : W ≤ 12) (Inv : Two → Prop) (F : β) (E : Two → β) (L1 : Nat → Int → Two → Option β) (L2 : Nat → Int → Int → Two → Option β)
    (hi : ∀ (x y : Int) (s s' : Two), Inv s → 0 ≤ y → y < H → 0 ≤ x → x < W → f x y s = some s' → Inv s')
    (h2 : ∀ (k : Nat) (x y : Int) (s : Two), K0 ≤ k → Inv s → 0 ≤ y → y < H → 0 ≤ x → x < W → L2 (k + 1) y x s = (match f x y s with | none => some F | some s' => L2 k y (x + 1) s'))
    (h2e : ∀ (k : Nat) (y : Int) (s : Two), K0 ≤ k → 0 ≤ y → y < H → L2 (k + 1) y W s = L1 k (y + 1) s)
    (h1 : ∀ (k : Nat) (y : Int) (s : Two), K0 ≤ k → 0 ≤ y → y < H → L1 (k + 1) y s = L2 k y 0 s)
    (h1e : ∀ (k : Nat) (s : Two), K0 ≤ k → Inv s → L1 (k + 1) H s = some (E s)) :
    ∀ (n : Nat) (y : Int) (s : Two) (k : Nat), y + n = H → 0 ≤ y → Inv s → K0 + 20 * n + 20 < k → L1 k y s = some (fin F E (gridI f W n y s)) := by
  have row : ∀ (m : Nat) (x y : Int) (s : Two) (k g : Nat), 0 ≤ y → y < H → x + m = W → 0 ≤ x → Inv s → K0 ≤ k → g = k + m + 1 → L2 g y x s = (match rowI f y m x s with | none => some F | some s' => L1 k (y + 1) s') := by
    intro m
    induction m with
    | zero =>
      intro x y s k g y0 y1 hx x0 h hk hg
      obtain rfl : g = k + 1 := by omega
      obtain rfl : x = W := by omega
      rw [h2e k y s hk y0 y1]; rfl
    | succ m ih =>
      intro x y s k g y0 y1 hx x0 h hk hg
      obtain ⟨g, rfl⟩ : ∃ q, g = q + 1 := ⟨g - 1, by omega⟩
      rw [h2 g x y s (by omega) h y0 y1 x0 (by omega)]
      simp only [rowI]
      cases e : f x y s with
      | none => rfl
      | some s1 => exact ih (x + 1) y s1 k g y0 y1 (by omega) (by omega) (hi x y s s1 h y0 y1 x0 (by omega) e) hk (by omega)
  intro n
  induction n with
  | zero =>
    intro y s k hy y0 h hk
    obtain ⟨k, rfl⟩ : ∃ m, k = m + 1 := ⟨k - 1, by omega⟩
    obtain rfl : y = H := by omega
    rw [h1e k s (by omega) h]; rfl
  | succ n ih =>
    intro y s k hy y0 h hk
    obtain ⟨k, rfl⟩ : ∃ m, k = m + 1 := ⟨k - 1, by omega⟩
    rw [h1 k y s (by omega) y0 (by omega), row W 0 y s (k - W - 1) k y0 (by omega) (by omega) (by omega) h (by omega) (by omega)]
    simp only [gridI]
    cases e : rowI f y W 0 s with
    | none => rfl
    | some s1 => exact ih (y + 1) s1 (k - W - 1) (by omega) (by omega) (rowI_inv hi y0 (by omega) W 0 s s1 (by omega) (by omega) h e) (by omega)

/-- the same in one loop over the cells -/
theorem linI_loop {β : Type} (f : Int → Int → Two → Option Two) (W H K0 : Nat) (hW : W ≤ 12) (Inv : Two → Prop) (F : β) (E : Two → β) (L : Nat → Int → Two → Option β)
    (hi : ∀ (x y : Int) (s s' : Two), Inv s → 0 ≤ y → y < H → 0 ≤ x → x < W → f x y s = some s' → Inv s')
    (h2 : ∀ (k : Nat) (x y : Int) (s : Two), K0 ≤ k → Inv s → 0 ≤ y → y < H → 0 ≤ x → x < W → L (k + 1) (y * W + x) s = (match f x y s with | none => some F | some s' => L k (y * W + x + 1) s'))
    (h1e : ∀ (k : Nat) (s : Two), K0 ≤ k → Inv s → L (k + 1) (H * W) s = some (E s)) :
    ∀ (n : Nat) (y : Int) (s : Two) (k : Nat), y + n = H → 0 ≤ y → Inv s → K0 + 20 * n + 20 < k → L k (y * W) s = some (fin F E (gridI f W n y s)) := by
  have row : ∀ (m : Nat) (x y : Int) (s : Two) (k g : Nat), 0 ≤ y → y < H → x + m = W → 0 ≤ x → Inv s → K0 ≤ k → g = k + m → L g (y * W + x) s = (match rowI f y m x s with | none => some F | some s' => L k ((y + 1) * W) s') := by
    intro m
    induction m with
    | zero =>
      intro x y s k g y0 y1 hx x0 h hk hg
      obtain rfl : g = k := by omega
      obtain rfl : x = W := by omega
      rw [Int.add_mul, Int.one_mul]; rfl
    | succ m ih =>
      intro x y s k g y0 y1 hx x0 h hk hg
      obtain ⟨g, rfl⟩ : ∃ q, g = q + 1 := ⟨g - 1, by omega⟩
      rw [h2 g x y s (by omega) h y0 y1 x0 (by omega)]
      simp only [rowI]
      cases e : f x y s with
      | none => rfl
      | some s1 =>
        simp only [Option.bind_some]
        rw [Int.add_assoc]
        exact ih (x + 1) y s1 k g y0 y1 (by omega) (by omega) (hi x y s s1 h y0 y1 x0 (by omega) e) hk (by omega)
  intro n
  induction n with
  | zero =>
    intro y s k hy y0 h hk
    obtain ⟨k, rfl⟩ : ∃ m, k = m + 1 := ⟨k - 1, by omega⟩
    obtain rfl : y = H := by omega
    rw [h1e k s (by omega) h]; rfl
  | succ n ih =>
    intro y s k hy y0 h hk
    have := row W 0 y s (k - W) k y0 (by omega) (by omega) (by omega) h (by omega) (by omega)
    rw [Int.add_zero] at this
    rw [this]
    simp only [gridI]
    cases e : rowI f y W 0 s with
    | none => rfl
    | some s1 => exact ih (y + 1) s1 (k - W) (by omega) (by omega) (rowI_inv hi y0 (by omega) W 0 s s1 (by omega) (by omega) h e) (by omega)

/-- a cell of the tile p lies where a cell of the tile q lay -/
def pair (p q : Int) (s : Two) : Option Two := if (rd s.1 p ≥ 0 ∧ rd s.1 p ≠ q) ∨ (rd s.2 q ≥ 0 ∧ rd s.2 q ≠ p) then none else some (s.1.set p.toNat q, s.2.set q.toNat p)

def imgF (a b : Int) (l : List Int) (t dx dy : Int) (x y : Int) (s : Two) : Option Two := pair (rd l (y * a + x)) (rd l ((moveC a b t dx dy x y).2 * a + (moveC a b t dx dy x y).1)) s

def images (W H : Nat) (l : List Int) (t dx dy : Int) : List Int × Bool := fin ([], false) (fun s => (s.1, true)) (gridI (imgF W H l t dx dy) W H 0 (List.replicate (top l).toNat (-1), List.replicate (top l).toNat (-1)))

def InvI (n : Nat) (s : Two) : Prop := (s.1.length = n ∧ s.2.length = n) ∧ (∀ x ∈ s.1, -1 ≤ x ∧ x ≤ 35) ∧ (∀ x ∈ s.2, -1 ≤ x ∧ x ≤ 35)

theorem rd_mem {l : List Int} {i : Int} (h0 : 0 ≤ i) (h1 : i < l.length) : rd l i ∈ l := by
  obtain ⟨n, rfl⟩ := Int.eq_ofNat_of_zero_le h0
  have hn : n < l.length := by omega
  rw [rdi l n hn]; exact List.getElem_mem hn

theorem pair_inv {n : Nat} {p q : Int} {s s' : Two} (hp : 0 ≤ p ∧ p ≤ 35) (hq : 0 ≤ q ∧ q ≤ 35) (h : InvI n s) (e : pair p q s = some s') : InvI n s' := by
  unfold pair at e
  split at e
  · cases e
  · simp only [Option.some.injEq] at e
    subst e
    obtain ⟨⟨h1, h2⟩, h3, h4⟩ := h
    refine ⟨⟨by simp [h1], by simp [h2]⟩, fun x hx => ?_, fun x hx => ?_⟩
    · rcases List.mem_or_eq_of_mem_set hx with hx | rfl
      · exact h3 x hx
      · omega
    · rcases List.mem_or_eq_of_mem_set hx with hx | rfl
      · exact h4 x hx
      · omega

theorem moveIdx {a b t dx dy x y : Int} (ha : 1 ≤ a ∧ a ≤ 12) (hb : 1 ≤ b ∧ b ≤ 12) : idx a b (moveC a b t dx dy x y).1 (moveC a b t dx dy x y).2 = (moveC a b t dx dy x y).2 * a + (moveC a b t dx dy x y).1 := by
  obtain ⟨m0, m1⟩ := moveC_in (t := t) (dx := dx) (dy := dy) (x := x) (y := y) ha hb
  unfold idx
  rw [Int.emod_eq_of_lt m0.1 m0.2, Int.emod_eq_of_lt m1.1 m1.2]

theorem cell_in {a b x y : Int} (x0 : 0 ≤ x) (x1 : x < a) (y0 : 0 ≤ y) (y1 : y < b) : 0 ≤ y * a + x ∧ y * a + x < a * b ∧ 0 ≤ y * a := by
  have h0 : 0 ≤ y * a := Int.mul_nonneg y0 (by omega)
  have : y * a ≤ (b - 1) * a := Int.mul_le_mul_of_nonneg_right (by omega) (by omega)
  rw [Int.sub_mul, Int.one_mul, Int.mul_comm b] at this
  omega

/-- the tiles of a cell and of the one to which it is moved -/
theorem imgs_in {a b : Int} {l : List Int} (ha : 1 ≤ a ∧ a ≤ 12) (hb : 1 ≤ b ∧ b ≤ 12) (hm : (l.length : Int) = a * b) (hl : ∀ x ∈ l, 0 ≤ x ∧ x ≤ 35) {t dx dy x y : Int} (x0 : 0 ≤ x) (x1 : x < a) (y0 : 0 ≤ y) (y1 : y < b) :
    (0 ≤ rd l (y * a + x) ∧ rd l (y * a + x) ≤ 35 ∧ rd l (y * a + x) < top l) ∧ (0 ≤ rd l ((moveC a b t dx dy x y).2 * a + (moveC a b t dx dy x y).1) ∧ rd l ((moveC a b t dx dy x y).2 * a + (moveC a b t dx dy x y).1) ≤ 35 ∧ rd l ((moveC a b t dx dy x y).2 * a + (moveC a b t dx dy x y).1) < top l) := by
  have m12 := mul12 ha hb
  have ht := top_pos (l := l) (by omega) hl
  obtain ⟨m0, m1⟩ := moveC_in (t := t) (dx := dx) (dy := dy) (x := x) (y := y) ha hb
  obtain ⟨c0, c1, _⟩ := cell_in x0 x1 y0 y1
  obtain ⟨d0, d1, _⟩ := cell_in m0.1 m0.2 m1.1 m1.2
  have p := rd_mem (l := l) c0 (by omega)
  have q := rd_mem (l := l) d0 (by omega)
  have := hl _ p
  have := hl _ q
  have := ht.2.2 _ p
  have := ht.2.2 _ q
  omega

theorem rd_map (l : List Int) (i : Int) (h0 : 0 ≤ i) (h1 : i < l.length) : rd (l.map (· + 1)) i = rd l i + 1 := by
  obtain ⟨n, rfl⟩ := Int.eq_ofNat_of_zero_le h0
  have hn : n < l.length := by omega
  rw [rdi l n hn, rdi _ n (by rw [List.length_map]; exact hn), List.getElem_map]

theorem specImages {W H : Nat} {l : List Int} (ha : 1 ≤ (W : Int) ∧ (W : Int) ≤ 12) (hb : 1 ≤ (H : Int) ∧ (H : Int) ≤ 12) (hm : (l.length : Int) = W * H) (hl : ∀ x ∈ l, 0 ≤ x ∧ x ≤ 35) {t dx dy : Int} (ht : 0 ≤ t ∧ t ≤ 7) (hdx : -1000 ≤ dx ∧ dx ≤ 1000) (hdy : -1000 ≤ dy ∧ dy ≤ 1000) (k : Nat) (hk : 3000 < k) :
    spec_l18Images.f k [(⟨W, H, l⟩ : S29)] [(⟨t, dx, dy⟩ : S31)] (top l) = some (images W H l t dx dy) := by
  have r : rd_T29 [(⟨W, H, l⟩ : S29)] 0 = ⟨W, H, l⟩ := rfl
  have m12 := mul12 ha hb
  have htp := top_pos (l := l) (by omega) hl
  have body : ∀ k, 2000 < k → spec_l18Images.l1 k (List.replicate (top l).toNat (-1)) (List.replicate (top l).toNat (-1)) 0 [(⟨W, H, l⟩ : S29)] [(⟨t, dx, dy⟩ : S31)] = some (images W H l t dx dy) := by
    intro k hk
    refine gridI_loop (imgF W H l t dx dy) W H 1000 (by omega) (InvI (top l).toNat) ([], false) (fun s => (s.1, true)) (fun k y s => spec_l18Images.l1 k s.1 s.2 y [(⟨W, H, l⟩ : S29)] [(⟨t, dx, dy⟩ : S31)]) (fun k y x s => spec_l18Images.l2 k s.1 s.2 y x [(⟨W, H, l⟩ : S29)] [(⟨t, dx, dy⟩ : S31)]) ?_ ?_ ?_ ?_ ?_ H 0 (List.replicate (top l).toNat (-1), List.replicate (top l).toNat (-1)) k (by omega) (by omega) ?_ (by omega)
    · intro x y s s' hI y0 y1 x0 x1 e
      obtain ⟨p, q⟩ := imgs_in ha hb hm hl (t := t) (dx := dx) (dy := dy) x0 x1 y0 y1
      exact pair_inv (by omega) (by omega) hI e
    · intro k x y s hk hI y0 y1 x0 x1
      obtain ⟨p, q⟩ := imgs_in ha hb hm hl (t := t) (dx := dx) (dy := dy) x0 x1 y0 y1
      obtain ⟨m0, m1⟩ := moveC_in (t := t) (dx := dx) (dy := dy) (x := x) (y := y) ha hb
      obtain ⟨c0, c1, c2⟩ := cell_in x0 x1 y0 y1
      obtain ⟨d0, d1, d2⟩ := cell_in m0.1 m0.2 m1.1 m1.2
      obtain ⟨⟨h1, h2⟩, _, _⟩ := hI
      simp only [spec_l18Images.l2, r]
      rw [if_pos (by simp), if_pos x1, specMove ha hb ht hdx hdy (by omega) (by omega) k (by omega)]
      simp only [Option.bind_some]
      rw [w64 (x := y * W) (by omega) (by omega), w64 (x := y * W + x) (by omega) (by omega), w64 (x := (moveC W H t dx dy x y).2 * W) (by omega) (by omega), w64 (x := (moveC W H t dx dy x y).2 * W + (moveC W H t dx dy x y).1) (by omega) (by omega), w64 (x := x + 1) (by omega) (by omega)]
      rw [if_pos c0, if_pos (by omega : y * (W : Int) + x < l.length), if_pos d0, if_pos (by omega : (moveC W H t dx dy x y).2 * (W : Int) + (moveC W H t dx dy x y).1 < l.length), if_pos p.1]
      unfold imgF pair
      generalize rd l (y * W + x) = P at p ⊢
      generalize rd l ((moveC W H t dx dy x y).2 * W + (moveC W H t dx dy x y).1) = Q at q ⊢
      rw [if_pos (by omega : P < (s.1.length : Int)), if_pos q.1, if_pos (by omega : Q < (s.2.length : Int))]
      by_cases e1 : rd s.1 P ≥ 0
      · by_cases e2 : rd s.1 P = Q
        · by_cases e3 : rd s.2 Q ≥ 0
          · by_cases e4 : rd s.2 Q = P
            · rw [if_pos e1, if_pos e2, if_pos e3, if_pos e4, if_neg (by omega)]
            · rw [if_pos e1, if_pos e2, if_pos e3, if_neg e4, if_pos (by omega)]
          · rw [if_pos e1, if_pos e2, if_neg e3, if_neg (by omega)]
        · rw [if_pos e1, if_neg e2, if_pos (by omega)]
      · by_cases e3 : rd s.2 Q ≥ 0
        · by_cases e4 : rd s.2 Q = P
          · rw [if_neg e1, if_pos e3, if_pos e4, if_neg (by omega)]
          · rw [if_neg e1, if_pos e3, if_neg e4, if_pos (by omega)]
        · rw [if_neg e1, if_neg e3, if_neg (by omega)]
    · intro k y s hk y0 y1
      simp only [spec_l18Images.l2, r]
      rw [if_pos (by simp), if_neg (by omega), w64 (x := y + 1) (by omega) (by omega)]
    · intro k y s hk y0 y1
      simp only [spec_l18Images.l1, r]
      rw [if_pos (by simp), if_pos y1]
    · intro k s hk hI
      simp only [spec_l18Images.l1, r]
      rw [if_pos (by simp), if_neg (by omega)]
    · refine ⟨⟨by simp, by simp⟩, fun x hx => ?_, fun x hx => ?_⟩ <;> (rw [List.mem_replicate] at hx; omega)
  have start : ∀ (m i k : Nat), i + m = (top l).toNat → 2100 + m < k → spec_l18Images.l0 k (top l) (List.replicate i (-1)) (List.replicate i (-1)) (i : Int) [(⟨W, H, l⟩ : S29)] [(⟨t, dx, dy⟩ : S31)] = some (images W H l t dx dy) := by
    intro m
    induction m with
    | zero =>
      intro i k hi hk
      obtain ⟨k, rfl⟩ : ∃ m, k = m + 1 := ⟨k - 1, by omega⟩
      simp only [spec_l18Images.l0]
      rw [if_neg (by omega), show i = (top l).toNat by omega]
      exact body k (by omega)
    | succ m ih =>
      intro i k hi hk
      obtain ⟨k, rfl⟩ : ∃ m, k = m + 1 := ⟨k - 1, by omega⟩
      simp only [spec_l18Images.l0]
      rw [if_pos (by omega), if_pos (by rw [List.length_replicate]; omega), if_pos (by rw [List.length_replicate]; omega), wnat (by omega), ← List.replicate_succ']
      exact ih (i + 1) k (by omega) (by omega)
  exact start (top l).toNat 0 k (by omega) (by omega)

theorem dec_loop (k0 : Nat) (s : List Int) (hs : s.length ≤ 100) (hb : ∀ x ∈ s, -1 ≤ x ∧ x ≤ 35) (hk : 200 < k0) : impl_images.l1 k0 (s.map (· + 1)) (s.length : Int) 0 = some (s, true) := by
  have key : ∀ (n i k : Nat), i + n = s.length → n < k → impl_images.l1 k (s.take i ++ (s.drop i).map (· + 1)) (s.length : Int) (i : Int) = some (s, true) := by
    intro n
    induction n with
    | zero =>
      intro i k hi hk
      obtain ⟨k, rfl⟩ : ∃ m, k = m + 1 := ⟨k - 1, by omega⟩
      obtain rfl : i = s.length := by omega
      simp only [impl_images.l1]
      rw [if_neg (by omega)]
      simp
    | succ n ih =>
      intro i k hi hk
      obtain ⟨k, rfl⟩ : ∃ m, k = m + 1 := ⟨k - 1, by omega⟩
      have hlt : i < s.length := by omega
      have hx := hb _ (List.getElem_mem hlt)
      have hlen : (s.take i ++ (s.drop i).map (· + 1)).length = s.length := by simp; omega
      have hrd : rd (s.take i ++ (s.drop i).map (· + 1)) (i : Int) = s[i] + 1 := by
        rw [rdi _ i (by omega), List.getElem_append_right (by simp; omega)]
        simp [List.length_take, Nat.min_eq_left (by omega : i ≤ s.length)]
      simp only [impl_images.l1]
      rw [if_pos (by omega), if_pos (by omega), if_pos (by omega), hrd, wnat (by omega), w64 (by omega) (by omega)]
      have e : (s.take i ++ (s.drop i).map (· + 1)).set ((i : Int)).toNat (s[i] + 1 - 1) = s.take (i + 1) ++ (s.drop (i + 1)).map (· + 1) := by
        rw [List.drop_eq_getElem_cons hlt, List.map_cons, List.take_succ_eq_append_getElem hlt, List.set_append]
        rw [if_neg (by simp; omega), List.length_take, Nat.min_eq_left (by omega : i ≤ s.length), show ((i : Int)).toNat - i = 0 by omega, List.set_cons_zero, Int.add_sub_cancel, List.append_assoc]
        rfl
      rw [e]
      exact ih (i + 1) k (by omega) (by omega)
  have := key s.length 0 k0 (by omega) (by omega)
  simpa using this

theorem implImages {W H : Nat} {l : List Int} (ha : 1 ≤ (W : Int) ∧ (W : Int) ≤ 12) (hb : 1 ≤ (H : Int) ∧ (H : Int) ≤ 12) (hm : (l.length : Int) = W * H) (hl : ∀ x ∈ l, 0 ≤ x ∧ x ≤ 35) {t dx dy : Int} (ht : 0 ≤ t ∧ t ≤ 7) (hdx : -1000 ≤ dx ∧ dx ≤ 1000) (hdy : -1000 ≤ dy ∧ dy ≤ 1000) (k : Nat) (hk : 3000 < k) :
    impl_images.f k W H l t dx dy = some (images W H l t dx dy) := by
  have m12 := mul12 ha hb
  have hp : 0 < l.length := by omega
  have htp := top_pos (l := l) hp hl
  have hti : impl_tiles.f k W H l = some (top l) := by
    unfold impl_tiles.f
    rw [implMax l hp (by omega) k (by omega), max_top l hp (fun x hx => (hl x hx).1)]
    simp only [Option.bind_some]
    rw [w64 (by omega) (by omega), Int.sub_add_cancel]
  unfold impl_images.f
  rw [hti]
  simp only [Option.bind_some]
  rw [if_pos (by omega), if_pos (by omega), if_pos (by omega), if_pos (by omega)]
  have e0 : (-1 : Int) + 1 = 0 := rfl
  have key := linI_loop (imgF W H l t dx dy) W H 1000 (by omega) (InvI (top l).toNat) (([], false) : List Int × Bool) (fun s => (s.1, true)) (fun k i s => impl_images.l0 k (s.1.map (· + 1)) (s.2.map (· + 1)) l (l.length : Int) i W H l t dx dy) (by
    intro x y s s' hI y0 y1 x0 x1 e
    obtain ⟨p, q⟩ := imgs_in ha hb hm hl (t := t) (dx := dx) (dy := dy) x0 x1 y0 y1
    exact pair_inv (by omega) (by omega) hI e) (by
    intro k x y s hk hI y0 y1 x0 x1
    obtain ⟨p, q⟩ := imgs_in ha hb hm hl (t := t) (dx := dx) (dy := dy) x0 x1 y0 y1
    obtain ⟨c0, c1, c2⟩ := cell_in x0 x1 y0 y1
    obtain ⟨⟨h1, h2⟩, h3, h4⟩ := hI
    obtain ⟨e1, e2⟩ := lin_cell (W := W) (x := x) (y := y) x0 x1
    simp only [impl_images.l0]
    rw [if_pos (by omega), if_pos (by omega), if_pos (by omega), if_neg (by omega), Int.tmod_eq_emod_of_nonneg (by omega), Int.tdiv_eq_ediv_of_nonneg (by omega), e1, e2, w64 (x := y) (by omega) (by omega), implMove ha hb ht hdx hdy (by omega) (by omega) k (by omega)]
    simp only [Option.bind_some]
    rw [implTileAt ha hb hm, moveIdx ha hb]
    simp only [Option.bind_some]
    unfold imgF pair
    generalize rd l (y * W + x) = P at p ⊢
    generalize rd l ((moveC W H t dx dy x y).2 * W + (moveC W H t dx dy x y).1) = Q at q ⊢
    have hP := h3 _ (rd_mem (l := s.1) (i := P) (by omega) (by omega))
    have hQ := h4 _ (rd_mem (l := s.2) (i := Q) (by omega) (by omega))
    rw [List.length_map, List.length_map, rd_map s.1 P (by omega) (by omega), rd_map s.2 Q (by omega) (by omega), if_pos p.1, if_pos (by omega : P < (s.1.length : Int)), if_pos q.1, if_pos (by omega : Q < (s.2.length : Int)), w64 (x := Q + 1) (by omega) (by omega), w64 (x := P + 1) (by omega) (by omega), w64 (x := y * W + x + 1) (by omega) (by omega)]
    have em : ∀ (z : List Int) (i : Nat) (v : Int), (z.map (· + 1)).set i (v + 1) = (z.set i v).map (· + 1) := fun z i v => by rw [List.map_set]
    rw [em, em]
    by_cases f1 : rd s.1 P ≥ 0
    · by_cases f2 : rd s.1 P = Q
      · by_cases f3 : rd s.2 Q ≥ 0
        · by_cases f4 : rd s.2 Q = P
          · rw [if_neg (by omega), if_pos (by omega), if_neg (by omega), if_pos (by omega), if_neg (by omega)]
          · rw [if_neg (by omega), if_pos (by omega), if_neg (by omega), if_neg (by omega), if_pos (by omega)]
        · rw [if_neg (by omega), if_pos (by omega), if_pos (by omega), if_neg (by omega)]
      · rw [if_neg (by omega), if_neg (by omega), if_pos (by omega)]
    · by_cases f3 : rd s.2 Q ≥ 0
      · by_cases f4 : rd s.2 Q = P
        · rw [if_pos (by omega), if_neg (by omega), if_pos (by omega), if_neg (by omega)]
        · rw [if_pos (by omega), if_neg (by omega), if_neg (by omega), if_pos (by omega)]
      · rw [if_pos (by omega), if_pos (by omega), if_neg (by omega)]) (by
    intro k s hk hI
    obtain ⟨⟨h1, h2⟩, h3, h4⟩ := hI
    simp only [impl_images.l0]
    rw [if_neg (by rw [hm, Int.mul_comm]; omega), List.length_map]
    exact dec_loop k s.1 (by omega) h3 (by omega)) H 0 (List.replicate (top l).toNat (-1), List.replicate (top l).toNat (-1)) k (by omega) (by omega) ⟨⟨by simp, by simp⟩, fun x hx => by rw [List.mem_replicate] at hx; omega, fun x hx => by rw [List.mem_replicate] at hx; omega⟩ (by omega)
  simp only [List.map_replicate, e0, Int.zero_mul] at key
  exact key

theorem specTiles {W H : Nat} {l : List Int} (hp : 0 < l.length) (hlen : l.length ≤ 1000) (hl : ∀ x ∈ l, 0 ≤ x ∧ x ≤ 35) (k0 : Nat) (hk : 1100 < k0) : spec_l18Tiles.f k0 [(⟨W, H, l⟩ : S29)] = some (top l) := by
  have r : rd_T29 [(⟨W, H, l⟩ : S29)] 0 = ⟨W, H, l⟩ := rfl
  have htp := top_pos (l := l) hp hl
  unfold spec_l18Tiles.f
  have key : ∀ (n i : Nat) (t : Int) (k : Nat), i + n = l.length → n < k → t = (l.take i).foldl mxf (-1) + 1 → t ≤ 36 → spec_l18Tiles.l0 k t (i : Int) [(⟨W, H, l⟩ : S29)] = some (top l) := by
    intro n
    induction n with
    | zero =>
      intro i t k hi hk ht h36
      obtain ⟨k, rfl⟩ : ∃ m, k = m + 1 := ⟨k - 1, by omega⟩
      obtain rfl : i = l.length := by omega
      rw [List.take_length] at ht
      simp only [spec_l18Tiles.l0, r]
      rw [if_pos (by simp), if_neg (by omega), ht]; rfl
    | succ n ih =>
      intro i t k hi hk ht h36
      obtain ⟨k, rfl⟩ : ∃ m, k = m + 1 := ⟨k - 1, by omega⟩
      have hlt : i < l.length := by omega
      have hx := hl _ (List.getElem_mem hlt)
      have m := mxf_eq t (l[i] + 1)
      simp only [spec_l18Tiles.l0, r]
      rw [if_pos (by simp), if_pos (by omega), if_pos (by omega), rdi l i hlt, w64 (x := l[i] + 1) (by omega) (by omega), l00Max_eq, wnat (by omega)]
      simp only [Option.bind_some]
      refine ih (i + 1) _ k (by omega) (by omega) ?_ (by omega)
      rw [List.take_succ_eq_append_getElem hlt, List.foldl_append, ht]
      show mxf _ _ = mxf _ _ + 1
      generalize (l.take i).foldl mxf (-1) = q
      unfold mxf
      by_cases h : q > l[i]
      · rw [if_pos h, if_pos (by omega)]
      · rw [if_neg h, if_neg (by omega)]
  exact key l.length 0 0 k0 (by omega) (by omega) (by simp) (by omega)

/-- the motions of a tiling, in order -/
def colM (t x : Int) : Nat → Int → List S31
  | 0, _ => []
  | n + 1, y => ⟨t, x, y⟩ :: colM t x n (y + 1)
def rowM (H : Nat) (t : Int) : Nat → Int → List S31
  | 0, _ => []
  | n + 1, x => colM t x H 0 ++ rowM H t n (x + 1)
def motM (W H : Nat) : Nat → Int → List S31
  | 0, _ => []
  | n + 1, t => (if Int.tmod t 2 = 1 ∧ W ≠ H then [] else rowM H t W 0) ++ motM W H n (t + 1)

theorem mots_loop (W H K0 : Nat) (hW : W ≤ 12) (hH : H ≤ 12) (g : S31 → Bool) (L0 : Nat → List S31 → Int → Option (List S31)) (L1 : Nat → List S31 → Int → Int → Option (List S31)) (L2 : Nat → List S31 → Int → Int → Int → Option (List S31))
    (h2 : ∀ (k : Nat) (acc : List S31) (t x y : Int), K0 ≤ k → acc.length ≤ 2000 → 0 ≤ t → t < 8 → 0 ≤ x → x < W → 0 ≤ y → y < H → L2 (k + 1) acc t x y = L2 k (if g ⟨t, x, y⟩ then acc ++ [⟨t, x, y⟩] else acc) t x (y + 1))
    (h2e : ∀ (k : Nat) (acc : List S31) (t x : Int), K0 ≤ k → 0 ≤ t → t < 8 → 0 ≤ x → x < W → L2 (k + 1) acc t x H = L1 k acc t (x + 1))
    (h1 : ∀ (k : Nat) (acc : List S31) (t x : Int), K0 ≤ k → 0 ≤ t → t < 8 → 0 ≤ x → x < W → L1 (k + 1) acc t x = L2 k acc t x 0)
    (h1e : ∀ (k : Nat) (acc : List S31) (t : Int), K0 ≤ k → 0 ≤ t → t < 8 → L1 (k + 1) acc t W = L0 k acc (t + 1))
    (h0 : ∀ (k : Nat) (acc : List S31) (t : Int), K0 ≤ k → 0 ≤ t → t < 8 → L0 (k + 2) acc t = if Int.tmod t 2 = 1 ∧ W ≠ H then L0 k acc (t + 1) else L1 k acc t 0)
    (h0e : ∀ (k : Nat) (acc : List S31), K0 ≤ k → L0 (k + 1) acc 8 = some acc) :
    ∀ (n : Nat) (t : Int) (acc : List S31) (k : Nat), t + n = 8 → 0 ≤ t → (acc.length : Int) ≤ 144 * t → K0 + 200 * n + 200 < k → L0 k acc t = some (acc ++ (motM W H n t).filter g) := by
  have col : ∀ (t x : Int), 0 ≤ t → t < 8 → 0 ≤ x → x < W → ∀ (m : Nat) (y : Int) (acc : List S31) (k f : Nat), f = k + m + 1 → y + m = H → 0 ≤ y → (acc.length : Int) ≤ 144 * t + 12 * x + y → K0 ≤ k → L2 f acc t x y = L1 k (acc ++ (colM t x m y).filter g) t (x + 1) := by
    intro t x t0 t1 x0 x1 m
    induction m with
    | zero =>
      intro y acc k f hf hy y0 hl hk
      obtain rfl : f = k + 1 := by omega
      obtain rfl : y = H := by omega
      rw [h2e k acc t x hk t0 t1 x0 x1]
      simp [colM]
    | succ m ih =>
      intro y acc k f hf hy y0 hl hk
      obtain ⟨f, rfl⟩ : ∃ q, f = q + 1 := ⟨f - 1, by omega⟩
      rw [h2 f acc t x y (by omega) (by omega) t0 t1 x0 x1 y0 (by omega)]
      cases hg : g ⟨t, x, y⟩ with
      | false =>
        rw [if_neg (by simp), ih (y + 1) acc k f (by omega) (by omega) (by omega) (by omega) hk]
        simp only [colM, List.filter_cons, hg]; rfl
      | true =>
        rw [if_pos rfl, ih (y + 1) _ k f (by omega) (by omega) (by omega) (by rw [List.length_append, List.length_singleton]; omega) hk]
        simp only [colM, List.filter_cons, hg, List.append_assoc]; rfl
  have clen : ∀ (t x : Int) (m : Nat) (y : Int), (colM t x m y).length = m := by
    intro t x m
    induction m with
    | zero => intro y; rfl
    | succ m ih => intro y; simp only [colM, List.length_cons, ih]
  have row : ∀ (t : Int), 0 ≤ t → t < 8 → ∀ (m : Nat) (x : Int) (acc : List S31) (k f : Nat), f = k + m * (H + 2) + 1 → x + m = W → 0 ≤ x → (acc.length : Int) ≤ 144 * t + 12 * x → K0 ≤ k → L1 f acc t x = L0 k (acc ++ (rowM H t m x).filter g) (t + 1) := by
    intro t t0 t1 m
    induction m with
    | zero =>
      intro x acc k f hf hx x0 hl hk
      obtain rfl : f = k + 1 := by omega
      obtain rfl : x = W := by omega
      rw [h1e k acc t hk t0 t1]
      simp [rowM]
    | succ m ih =>
      intro x acc k f hf hx x0 hl hk
      rw [Nat.succ_mul] at hf
      obtain ⟨f, rfl⟩ : ∃ q, f = q + 1 := ⟨f - 1, by omega⟩
      rw [h1 f acc t x (by omega) t0 t1 x0 (by omega), col t x t0 t1 x0 (by omega) H 0 acc (k + m * (H + 2) + 1) f (by omega) (by omega) (by omega) (by omega) (by omega)]
      have := List.length_filter_le g (colM t x H 0)
      rw [clen] at this
      rw [ih (x + 1) _ k _ rfl (by omega) (by omega) (by rw [List.length_append]; omega) hk]
      simp only [rowM, List.filter_append, List.append_assoc]
  have rlen : ∀ (t : Int) (m : Nat) (x : Int), (rowM H t m x).length = m * H := by
    intro t m
    induction m with
    | zero => intro x; simp [rowM]
    | succ m ih => intro x; simp only [rowM, List.length_append, ih, clen, Nat.succ_mul]; omega
  intro n
  induction n with
  | zero =>
    intro t acc k ht t0 hl hk
    obtain ⟨k, rfl⟩ : ∃ m, k = m + 1 := ⟨k - 1, by omega⟩
    obtain rfl : t = 8 := by omega
    rw [h0e k acc (by omega)]
    simp [motM]
  | succ n ih =>
    intro t acc k ht t0 hl hk
    obtain ⟨k, rfl⟩ : ∃ m, k = m + 2 := ⟨k - 2, by omega⟩
    rw [h0 k acc t (by omega) t0 (by omega)]
    simp only [motM]
    by_cases hc : Int.tmod t 2 = 1 ∧ W ≠ H
    · rw [if_pos hc, if_pos hc, ih (t + 1) acc k (by omega) (by omega) (by omega) (by omega)]
      rfl
    · rw [if_neg hc, if_neg hc]
      have q1 : W * (H + 2) ≤ 12 * 14 := Nat.mul_le_mul hW (by omega)
      have q2 : W * H ≤ 12 * 12 := Nat.mul_le_mul hW hH
      have q3 := List.length_filter_le g (rowM H t W 0)
      rw [rlen] at q3
      rw [row t t0 (by omega) W 0 acc (k - W * (H + 2) - 1) k (by omega) (by omega) (by omega) (by omega) (by omega)]
      rw [ih (t + 1) _ _ (by omega) (by omega) (by rw [List.length_append]; omega) (by omega)]
      rw [List.filter_append, List.append_assoc]

theorem motM_in (W H : Nat) : ∀ (n : Nat) (t : Int), t + n = 8 → 0 ≤ t → ∀ m ∈ motM W H n t, (0 ≤ m.f0 ∧ m.f0 ≤ 7) ∧ (0 ≤ m.f1 ∧ m.f1 < W) ∧ (0 ≤ m.f2 ∧ m.f2 < H) := by
  have col : ∀ (t x : Int) (n : Nat) (y : Int), y + n = H → 0 ≤ y → ∀ m ∈ colM t x n y, m.f0 = t ∧ m.f1 = x ∧ 0 ≤ m.f2 ∧ m.f2 < H := by
    intro t x n
    induction n with
    | zero => intro y _ _ m hm; cases hm
    | succ n ih =>
      intro y hy y0 m hm
      rcases List.mem_cons.1 hm with rfl | hm
      · exact ⟨rfl, rfl, y0, by show y < (H : Int); omega⟩
      · exact ih (y + 1) (by omega) (by omega) m hm
  have row : ∀ (t : Int) (n : Nat) (x : Int), x + n = W → 0 ≤ x → ∀ m ∈ rowM H t n x, m.f0 = t ∧ (0 ≤ m.f1 ∧ m.f1 < W) ∧ 0 ≤ m.f2 ∧ m.f2 < H := by
    intro t n
    induction n with
    | zero => intro x _ _ m hm; cases hm
    | succ n ih =>
      intro x hx x0 m hm
      rcases List.mem_append.1 hm with hm | hm
      · obtain ⟨a, b, c⟩ := col t x H 0 (by omega) (by omega) m hm
        exact ⟨a, by omega, c⟩
      · exact ih (x + 1) (by omega) (by omega) m hm
  intro n
  induction n with
  | zero => intro t _ _ m hm; cases hm
  | succ n ih =>
    intro t ht t0 m hm
    rcases List.mem_append.1 hm with hm | hm
    · split at hm
      · cases hm
      · obtain ⟨a, b, c⟩ := row t W 0 (by omega) (by omega) m hm
        exact ⟨by omega, b, c⟩
    · exact ih (t + 1) (by omega) (by omega) m hm

theorem implMotions {W H : Nat} {l : List Int} (hW : W ≤ 12) (hH : H ≤ 12) (k : Nat) (hk : 2000 < k) : impl_motions.f k W H l = some (motM W H 8 0) := by
  unfold impl_motions.f
  have := mots_loop W H 100 hW hH (fun _ => true) (fun k acc t => impl_motions.l0 k acc t W H l) (fun k acc t x => impl_motions.l1 k acc t t W x W H l) (fun k acc t x y => impl_motions.l2 k acc t x t W x H y W H l) (by
    intro k acc t x y hk hl t0 t1 x0 x1 y0 y1
    simp only [impl_motions.l2]
    rw [if_pos y1, if_pos (by omega), if_pos trivial, w64 (x := y + 1) (by omega) (by omega)]) (by
    intro k acc t x hk t0 t1 x0 x1
    simp only [impl_motions.l2]
    rw [if_neg (by omega), w64 (x := x + 1) (by omega) (by omega)]) (by
    intro k acc t x hk t0 t1 x0 x1
    simp only [impl_motions.l1]
    rw [if_pos x1]) (by
    intro k acc t hk t0 t1
    simp only [impl_motions.l1]
    rw [if_neg (by omega), w64 (x := t + 1) (by omega) (by omega)]) (by
    intro k acc t hk t0 t1
    simp only [impl_motions.l0]
    rw [if_pos t1]
    by_cases h : Int.tmod t 2 = 1
    · rw [if_pos h]
      simp only [impl_motions.j1]
      by_cases e : W = H
      · rw [if_neg (by simp [e]), if_neg (by simp [e])]
      · rw [if_pos (by simp; omega), if_pos ⟨h, e⟩, w64 (x := t + 1) (by omega) (by omega)]
    · rw [if_neg h]
      simp only [impl_motions.j1]
      rw [if_neg (by simp), if_neg (fun q => h q.1)]) (by
    intro k acc hk
    simp only [impl_motions.l0]
    rw [if_neg (by omega)]) 8 0 [] k (by omega) (by omega) (by simp) (by omega)
  rw [List.filter_eq_self.2 (fun _ _ => rfl)] at this
  simpa using this

def symg (W H : Nat) (l : List Int) (m : S31) : Bool := (images W H l m.f0 m.f1 m.f2).2
def syms (W H : Nat) (l : List Int) : List S31 := (motM W H 8 0).filter (symg W H l)

theorem specAll {W H : Nat} {l : List Int} (ha : 1 ≤ (W : Int) ∧ (W : Int) ≤ 12) (hb : 1 ≤ (H : Int) ∧ (H : Int) ≤ 12) (hm : (l.length : Int) = W * H) (hl : ∀ x ∈ l, 0 ≤ x ∧ x ≤ 35) (k : Nat) (hk : 6000 < k) : spec_l18All.f k [(⟨W, H, l⟩ : S29)] = some (syms W H l) := by
  have r : rd_T29 [(⟨W, H, l⟩ : S29)] 0 = ⟨W, H, l⟩ := rfl
  have m12 := mul12 ha hb
  unfold spec_l18All.f
  rw [specTiles (by omega) (by omega) hl k (by omega)]
  simp only [Option.bind_some]
  have := mots_loop W H 3001 (by omega) (by omega) (symg W H l) (fun k acc t => spec_l18All.l0 k acc (top l) t [(⟨W, H, l⟩ : S29)]) (fun k acc t x => spec_l18All.l1 k acc (top l) t x [(⟨W, H, l⟩ : S29)]) (fun k acc t x y => spec_l18All.l2 k acc (top l) t x y [(⟨W, H, l⟩ : S29)]) (by
    intro k acc t x y hk hlen t0 t1 x0 x1 y0 y1
    simp only [spec_l18All.l2, r]
    rw [if_pos (by simp), if_pos y1, specImages ha hb hm hl (by omega) (by omega) (by omega) k (by omega)]
    simp only [Option.bind_some]
    show (if (symg W H l ⟨t, x, y⟩) = true then _ else _) = _
    rw [w64 (x := y + 1) (by omega) (by omega), if_pos (by omega : acc.length < _)]
    cases symg W H l ⟨t, x, y⟩ <;> rfl) (by
    intro k acc t x hk t0 t1 x0 x1
    simp only [spec_l18All.l2, r]
    rw [if_pos (by simp), if_neg (by omega), w64 (x := x + 1) (by omega) (by omega)]) (by
    intro k acc t x hk t0 t1 x0 x1
    simp only [spec_l18All.l1, r]
    rw [if_pos (by simp), if_pos x1]) (by
    intro k acc t hk t0 t1
    simp only [spec_l18All.l1, r]
    rw [if_pos (by simp), if_neg (by omega), w64 (x := t + 1) (by omega) (by omega)]) (by
    intro k acc t hk t0 t1
    simp only [spec_l18All.l0, r]
    rw [if_pos t1]
    by_cases h : Int.tmod t 2 = 1
    · rw [if_pos h, if_pos (by simp)]
      simp only [spec_l18All.j1]
      by_cases e : W = H
      · rw [if_neg (by simp [e]), if_neg (by simp [e])]
      · rw [if_pos (by simp; omega), if_pos ⟨h, e⟩, w64 (x := t + 1) (by omega) (by omega)]
    · rw [if_neg h]
      simp only [spec_l18All.j1]
      rw [if_neg (by simp), if_neg (fun q => h q.1)]) (by
    intro k acc hk
    simp only [spec_l18All.l0]
    rw [if_neg (by omega)]) 8 0 [] k (by omega) (by omega) (by simp) (by omega)
  simpa [syms] using this

theorem rd_mot (xs : List S31) (i : Nat) (h : i < xs.length) : rd_T31 xs (i : Int) = xs[i] := by
  unfold rd_T31
  rw [show ((i : Int)).toNat = i by omega, List.getD_eq_getElem?_getD, List.getElem?_eq_getElem h]; rfl

/-- all that the predicate does not strike -/
theorem implDelete (L : List S29) (xs : List S31) (g : S31 → Bool) (hl : xs.length ≤ 2000) (K : Nat) (hd : ∀ (k : Nat) (m : S31), K ≤ k → m ∈ xs → impl_symmetries_1.f k m.f0 m.f1 m.f2 L = some (!g m)) (k0 : Nat) (hk : K + 5000 < k0) : fi94_96.f k0 xs L = some (xs.filter g) := by
  have find : ∀ (n i k : Nat), i + n = xs.length → K + n < k → (∀ m ∈ xs.take i, g m = true) → (fi102_96.l0 k xs (xs.length : Int) (i : Int) L = some (-1) ∧ ∀ m ∈ xs, g m = true) ∨ ∃ j : Nat, j < xs.length ∧ fi102_96.l0 k xs (xs.length : Int) (i : Int) L = some (j : Int) ∧ (∀ m ∈ xs.take j, g m = true) ∧ ∀ h : j < xs.length, g xs[j] = false := by
    intro n
    induction n with
    | zero =>
      intro i k hi hk hg
      obtain ⟨k, rfl⟩ : ∃ m, k = m + 1 := ⟨k - 1, by omega⟩
      refine .inl ⟨?_, fun m hm => hg m (by rw [List.take_of_length_le (by omega)]; exact hm)⟩
      simp only [fi102_96.l0]
      rw [if_neg (by omega)]
    | succ n ih =>
      intro i k hi hk hg
      obtain ⟨k, rfl⟩ : ∃ m, k = m + 1 := ⟨k - 1, by omega⟩
      have hlt : i < xs.length := by omega
      simp only [fi102_96.l0]
      rw [if_pos (by omega), if_pos (by omega), if_pos (by omega), rd_mot xs i hlt, hd k _ (by omega) (List.getElem_mem hlt)]
      simp only [Option.bind_some]
      cases e : g xs[i] with
      | false => exact .inr ⟨i, hlt, by rw [if_pos (show (!false) = true from rfl)], hg, fun _ => e⟩
      | true =>
        rw [if_neg (by simp), wnat (by omega)]
        refine ih (i + 1) k (by omega) (by omega) fun m hm => ?_
        rw [List.take_succ_eq_append_getElem hlt] at hm
        rcases List.mem_append.1 hm with hm | hm
        · exact hg m hm
        · rw [List.mem_singleton.1 hm]; exact e
  have move : ∀ (n j i k : Nat) (ys : List S31), j + n = xs.length → K + n < k → i ≤ j → ys.length = xs.length → ys.drop j = xs.drop j → ys.take i = (xs.take j).filter g → fi94_96.l0 k ys (i : Int) (j : Int) L = some (xs.filter g) := by
    intro n
    induction n with
    | zero =>
      intro j i k ys hj hk hij hy hd' ht
      obtain ⟨k, rfl⟩ : ∃ m, k = m + 1 := ⟨k - 1, by omega⟩
      simp only [fi94_96.l0]
      rw [if_neg (by omega), if_pos (by omega), if_pos (by omega), show ((i : Int)).toNat = i by omega, ht, List.take_of_length_le (by omega)]
    | succ n ih =>
      intro j i k ys hj hk hij hy hd' ht
      obtain ⟨k, rfl⟩ : ∃ m, k = m + 1 := ⟨k - 1, by omega⟩
      have hlt : j < xs.length := by omega
      have hlt2 : j < ys.length := by omega
      have e1 := hd'
      rw [List.drop_eq_getElem_cons hlt, List.drop_eq_getElem_cons hlt2] at e1
      injection e1 with e1 e2
      simp only [fi94_96.l0]
      rw [if_pos (by omega), if_pos (by omega), rd_mot ys j hlt2, e1, hd k _ (by omega) (List.getElem_mem hlt)]
      simp only [Option.bind_some]
      have ft : (xs.take (j + 1)).filter g = (xs.take j).filter g ++ [xs[j]].filter g := by
        rw [List.take_succ_eq_append_getElem hlt, List.filter_append]
      cases e : g xs[j] with
      | false =>
        rw [if_pos (show (!false) = true from rfl), wnat (by omega)]
        exact ih (j + 1) i k ys (by omega) (by omega) (by omega) hy e2 (by rw [ft, ht]; simp [e])
      | true =>
        rw [if_neg (by simp), if_pos (by omega), if_pos (by omega), wnat (by omega), wnat (by omega), show ((i : Int)).toNat = i by omega]
        refine ih (j + 1) (i + 1) k _ (by omega) (by omega) (by omega) (by rw [List.length_set]; exact hy) ?_ ?_
        · rw [List.drop_set_of_lt (by omega)]; exact e2
        · rw [ft, ← ht]
          have hi : i < ys.length := by omega
          rw [List.take_succ_eq_append_getElem (by rw [List.length_set]; exact hi), List.take_set_of_le (Nat.le_refl _), List.getElem_set_self]
          simp [e]
  unfold fi94_96.f fi102_96.f
  rcases find xs.length 0 k0 (by omega) (by omega) (fun m hm => by simp at hm) with ⟨h, hg⟩ | ⟨j, hj, h, hg, hb⟩
  · rw [show ((0 : Int)) = ((0 : Nat) : Int) from rfl, h]
    simp only [Option.bind_some]
    rw [if_pos trivial, List.filter_eq_self.2 hg]
  · rw [show ((0 : Int)) = ((0 : Nat) : Int) from rfl, h]
    simp only [Option.bind_some]
    rw [if_neg (by omega), wnat (by omega)]
    refine move (xs.length - (j + 1)) (j + 1) j k0 xs (by omega) (by omega) (by omega) rfl rfl ?_
    rw [List.take_succ_eq_append_getElem hj, List.filter_append, List.filter_eq_self.2 hg]
    simp [hb hj]

theorem motM_len (W H : Nat) (hW : W ≤ 12) (hH : H ≤ 12) : (motM W H 8 0).length ≤ 2000 := by
  have clen : ∀ (t x : Int) (m : Nat) (y : Int), (colM t x m y).length = m := by
    intro t x m
    induction m with
    | zero => intro y; rfl
    | succ m ih => intro y; simp only [colM, List.length_cons, ih]
  have rlen : ∀ (t : Int) (m : Nat) (x : Int), (rowM H t m x).length = m * H := by
    intro t m
    induction m with
    | zero => intro x; simp [rowM]
    | succ m ih => intro x; simp only [rowM, List.length_append, ih, clen, Nat.succ_mul]; omega
  have q2 : W * H ≤ 12 * 12 := Nat.mul_le_mul hW hH
  have : ∀ (n : Nat) (t : Int), (motM W H n t).length ≤ 144 * n := by
    intro n
    induction n with
    | zero => intro t; simp [motM]
    | succ n ih =>
      intro t
      have := ih (t + 1)
      simp only [motM, List.length_append]
      split
      · simp only [List.length_nil]; omega
      · rw [rlen]; omega
  have := this 8 0
  omega

theorem implSyms {W H : Nat} {l : List Int} (ha : 1 ≤ (W : Int) ∧ (W : Int) ≤ 12) (hb : 1 ≤ (H : Int) ∧ (H : Int) ≤ 12) (hm : (l.length : Int) = W * H) (hl : ∀ x ∈ l, 0 ≤ x ∧ x ≤ 35) (k : Nat) (hk : 9000 < k) : impl_symmetries.f k W H l = some (syms W H l) := by
  unfold impl_symmetries.f
  rw [implMotions (by omega) (by omega) k (by omega)]
  simp only [Option.bind_some]
  rw [implDelete [(⟨W, H, l⟩ : S29)] (motM W H 8 0) (symg W H l) (motM_len W H (by omega) (by omega)) 3001 (by
    intro k m hk hmem
    obtain ⟨m0, m1, m2⟩ := motM_in W H 8 0 (by omega) (by omega) m hmem
    unfold impl_symmetries_1.f
    rw [if_pos (by simp)]
    show (impl_images.f k W H l _ _ _).bind _ = _
    rw [implImages ha hb hm hl m0 (by omega) (by omega) k (by omega)]
    rfl) k (by omega)]
  rfl

def upM : Nat → Int → List S31
  | 0, _ => []
  | n + 1, m => ⟨m, m + 1, m + 2⟩ :: upM n (m + 3)
theorem upM_len : ∀ (n : Nat) (m : Int), (upM n m).length = n
  | 0, _ => rfl
  | n + 1, m => by simp [upM, upM_len n]
theorem upM_get : ∀ (n : Nat) (m : Int) (i : Nat) (h : i < (upM n m).length), (upM n m)[i] = ⟨m + 3 * i, m + 3 * i + 1, m + 3 * i + 2⟩
  | 0, m, i, h => by simp [upM] at h
  | n + 1, m, 0, h => by simp [upM]
  | n + 1, m, i + 1, h => by
    have h' : i < (upM n (m + 3)).length := by simpa [upM] using h
    have := upM_get n (m + 3) i h'
    simp only [upM, List.getElem_cons_succ, this]
    rw [show m + 3 + 3 * (i : Int) = m + 3 * ((i + 1 : Nat) : Int) by omega]

theorem eqMots_eq (l : List S31) (hl : l.length ≤ 1048576) (k : Nat) (hk : l.length < k) : laws_eqMotionS.f k l l = some true := by
  have key : ∀ (n i k : Nat), i + n = l.length → n < k → laws_eqMotionS.l0 k l l (i : Int) = some true := by
    intro n
    induction n with
    | zero =>
      intro i k hi hk
      obtain ⟨k, rfl⟩ : ∃ m, k = m + 1 := ⟨k - 1, by omega⟩
      simp only [laws_eqMotionS.l0]
      rw [if_neg (by omega)]
    | succ n ih =>
      intro i k hi hk
      obtain ⟨k, rfl⟩ : ∃ m, k = m + 1 := ⟨k - 1, by omega⟩
      simp only [laws_eqMotionS.l0]
      rw [if_pos (by omega), if_pos (by omega), if_pos (by omega), wnat (by omega)]
      unfold laws_eqMotion.f
      rw [if_pos rfl, if_pos rfl, if_pos rfl]
      simp only [Option.bind_some, if_true]
      exact ih (i + 1) k (by omega) (by omega)
  unfold laws_eqMotionS.f
  rw [if_pos rfl]
  exact key l.length 0 k (by omega) hk

theorem markMots_eq (l : List S31) (hl : l.length ≤ 1048576) (m : Int) (h0 : 0 ≤ m) (h1 : m ≤ 100000000) (k : Nat) (hk : l.length < k) : laws_markMotionS.f k l m = some (m + 3 * l.length, upM l.length m) := by
  have key : ∀ (n i k : Nat) (s : List S31), i + n = l.length → n < k → s.length = l.length → s.take i = (upM l.length m).take i →
      laws_markMotionS.l0 k s (m + 3 * i) (i : Int) = some (m + 3 * l.length, upM l.length m) := by
    intro n
    induction n with
    | zero =>
      intro i k s hi hk hs ht
      obtain ⟨k, rfl⟩ : ∃ m, k = m + 1 := ⟨k - 1, by omega⟩
      obtain rfl : i = l.length := by omega
      simp only [laws_markMotionS.l0]
      have e : s = upM l.length m := by
        rw [List.take_of_length_le (by omega), List.take_of_length_le (by rw [upM_len]; omega)] at ht; exact ht
      rw [if_neg (by omega), e]
    | succ n ih =>
      intro i k s hi hk hs ht
      obtain ⟨k, rfl⟩ : ∃ m, k = m + 1 := ⟨k - 1, by omega⟩
      have hlt : i < s.length := by omega
      simp only [laws_markMotionS.l0, Option.bind_some]
      rw [if_pos (by omega), if_pos (by omega), w64 (x := m + 3 * (i : Int) + 1) (by omega) (by omega), w64 (x := m + 3 * (i : Int) + 1 + 1) (by omega) (by omega), w64 (x := m + 3 * (i : Int) + 1 + 1 + 1) (by omega) (by omega), wnat (by omega), show ((i : Int)).toNat = i by omega]
      have e1 : ∀ v : S31, rd_T31 (s.set i v) (i : Int) = v := by
        intro v
        rw [rd_mot _ i (by rw [List.length_set]; omega), List.getElem_set_self]
      simp only [e1, List.set_set]
      have hh := ih (i + 1) k (s.set i (⟨m + 3 * (i : Int), m + 3 * (i : Int) + 1, m + 3 * (i : Int) + 1 + 1⟩ : S31)) (by omega) (by omega) (by rw [List.length_set]; exact hs) (by
        have hlt2 : i < (upM l.length m).length := by rw [upM_len]; omega
        rw [List.take_succ_eq_append_getElem (by rw [List.length_set]; omega), List.take_succ_eq_append_getElem hlt2, List.take_set_of_le (by omega), ht, upM_get _ _ _ hlt2, List.getElem_set_self, show m + 3 * (i : Int) + 1 + 1 = m + 3 * (i : Int) + 2 by omega])
      rw [show m + 3 * ((i + 1 : Nat) : Int) = m + 3 * (i : Int) + 1 + 1 + 1 by omega] at hh
      exact hh
  have := key l.length 0 k l (by omega) hk rfl (by simp)
  unfold laws_markMotionS.f
  simpa using this

theorem heldMots_eq (n : Nat) (hn : n ≤ 1048576) (m : Int) (h0 : 0 ≤ m) (h1 : m ≤ 100000000) (k : Nat) (hk : n < k) : laws_heldMotionS.f k (upM n m) m = some (m + 3 * n) := by
  have key : ∀ (d i k : Nat), i + d = n → d < k → laws_heldMotionS.l0 k (upM n m) (m + 3 * i) (i : Int) = some (m + 3 * n) := by
    intro d
    induction d with
    | zero =>
      intro i k hi hk
      obtain ⟨k, rfl⟩ : ∃ m, k = m + 1 := ⟨k - 1, by omega⟩
      obtain rfl : i = n := by omega
      simp only [laws_heldMotionS.l0]
      rw [if_neg (by rw [upM_len]; omega)]
    | succ d ih =>
      intro i k hi hk
      obtain ⟨k, rfl⟩ : ∃ m, k = m + 1 := ⟨k - 1, by omega⟩
      have hlt : i < (upM n m).length := by rw [upM_len]; omega
      simp only [laws_heldMotionS.l0]
      rw [if_pos (by omega), if_pos (by omega), rd_mot _ i hlt, upM_get _ _ _ hlt]
      simp only [if_true]
      rw [w64 (x := m + 3 * (i : Int) + 1) (by omega) (by omega), if_pos rfl, w64 (x := m + 3 * (i : Int) + 1 + 1) (by omega) (by omega), if_pos (by omega), w64 (x := m + 3 * (i : Int) + 1 + 1 + 1) (by omega) (by omega), wnat (by omega)]
      have hh := ih (i + 1) k (by omega) (by omega)
      rw [show m + 3 * ((i + 1 : Nat) : Int) = m + 3 * (i : Int) + 1 + 1 + 1 by omega] at hh
      exact hh
  have := key n 0 k (by omega) hk
  unfold laws_heldMotionS.f
  simpa using this

theorem syms_law (a b : Int) (l : List Int) (r : List S31 × Int) (hr : r.1.length ≤ 2000) (hl : l.length ≤ 1048576) (hs : ∀ k, 1000000 ≤ k → spec_SymmetriesOf.f k a b l = some r ∧ impl_SymmetriesOf.f k a b l = some r) :
    laws_FnExactSymmetriesOf.f 1049300 a b l = some true := by
  obtain ⟨k, hk⟩ : ∃ k : Nat, k = 1049297 := ⟨_, rfl⟩
  rw [show 1049300 = k + 1 + 1 + 1 by omega]
  obtain ⟨out, c⟩ := r
  simp only at hr
  have ho : ∀ k, 3000 ≤ k → laws_eqMotionS.f k out out = some true := fun k hk => eqMots_eq out (by omega) k (by omega)
  have hm := markMots_eq out (by omega) 1 (by omega) (by omega)
  have hh := heldMots_eq out.length (by omega) 1 (by omega) (by omega)
  have hml := markInts_eq l (by omega) 1 (by omega) (by omega)
  unfold laws_FnExactSymmetriesOf.f
  rw [szTiling_eq a b l (by unfold maxLen; omega)]
  simp only [Option.bind_some]
  have hbig : ¬ (1048576 : Int) < l.length := by omega
  rw [if_neg hbig, if_neg (by omega), toTiling_eq a b l hl (k + 1 + 1 + 1) (by omega)]
  simp only [Option.bind_some]
  rw [(hs (k + 1 + 1 + 1) (by omega)).1, (hs (k + 1 + 1 + 1) (by omega)).2]
  simp only [Option.bind_some, ho (k + 1 + 1 + 1) (by omega), if_true, bne_self_eq_false, laws_FnExactSymmetriesOf.j0, Bool.false_eq_true, if_false]
  rw [toTiling_eq a b l hl (k + 1 + 1) (by omega)]
  simp only [Option.bind_some, eqTiling_eq a b l hl (k + 1 + 1) (by omega), if_true]
  unfold laws_markTiling.f
  rw [hml (k + 1 + 1) (by omega)]
  simp only [Option.bind_some]
  rw [if_neg (by omega)]
  simp only [ho (k + 1 + 1) (by omega), Option.bind_some, if_true, laws_FnExactSymmetriesOf.j1, Bool.false_eq_true, if_false]
  rw [hm (k + 1) (by omega)]
  simp only [Option.bind_some, hh (k + 1) (by omega)]
  rw [if_neg (by omega)]
  simp only [if_true]
  rw [toTiling_eq a b l hl (k + 1) (by omega)]
  simp only [Option.bind_some]
  rw [(hs (k + 1) (by omega)).2]
  simp only [Option.bind_some, ho (k + 1) (by omega), if_true, bne_self_eq_false, laws_FnExactSymmetriesOf.j2, Bool.false_eq_true, if_false, hh k (by omega)]
  rw [if_neg (by omega)]

theorem FnExactSymmetriesOf : laws_FnExactSymmetriesOf.Pure := by
  intro a b l ⟨_, _, hl, _⟩
  refine ⟨1049300, ?_⟩
  by_cases hb : (1048576 : Int) < l.length
  · unfold laws_FnExactSymmetriesOf.f
    rw [szTiling_eq a b l hl]
    simp only [Option.bind_some]
    rw [if_pos hb, if_pos (by omega)]
  replace hb : l.length ≤ 1048576 := by omega
  cases ho : okT a b l with
  | false =>
    refine syms_law a b l ([], 1) (by simp) hb (fun k hk => ?_)
    unfold spec_SymmetriesOf.f impl_SymmetriesOf.f
    rw [specTiling k (by omega), implTiling k (by omega), ho]
    exact ⟨rfl, rfl⟩
  | true =>
    obtain ⟨ha, hbb, hm, hin⟩ := okT_spec ho
    obtain ⟨W, rfl⟩ := Int.eq_ofNat_of_zero_le (show 0 ≤ a by omega)
    obtain ⟨H, rfl⟩ := Int.eq_ofNat_of_zero_le (show 0 ≤ b by omega)
    have hlen : (syms W H l).length ≤ 2000 := Nat.le_trans (List.length_filter_le _ _) (motM_len W H (by omega) (by omega))
    refine syms_law W H l (syms W H l, 0) hlen hb (fun k hk => ?_)
    unfold spec_SymmetriesOf.f impl_SymmetriesOf.f
    rw [specTiling k (by omega), implTiling k (by omega), ho]
    simp only [Option.bind_some, if_true]
    rw [specAll ha hbb hm hin k (by omega), implSyms ha hbb hm hin k (by omega)]
    exact ⟨rfl, rfl⟩

end Go.Proofs.Ytnidibnhojedoaa.Pure

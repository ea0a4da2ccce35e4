/- FnExactTilingText: the program's TilingText returns what the reference's returns, for all arguments; no condition but that the listed tables read as the card ties them. -/
import Derived.Test.YtopopjkoanpjiaaDoorGFnExactTilingTextx
import Derived.Lib.ItoaLen
import Derived.Lib.Join
import Derived.Lib.SplitLaws
import Derived.Lib.IndexBytes
namespace Go.Proofs.YtopopjkoanpjiaaDoor.Pure
open Go.RowKit Go.Proofs.YtopopjkoanpjiaaDoor.GFnExactTilingText Go.Proofs.YtopopjkoanpjiaaDoorW.PrintWords Go.Proofs.YtopopjkoanpjiaaDoorW.PrintLast
set_option linter.unusedSimpArgs false
set_option linter.unusedVariables false

theorem w64 {x : Int} (h0 : -9223372036854775808 ≤ x) (h1 : x ≤ 9223372036854775807) : wrap64 x = x := by
  unfold wrap64; omega

theorem within_eq (a b c : Int) : impl_within.f a b c = some (decide (b ≤ a ∧ a ≤ c)) := by
  unfold impl_within.f
  by_cases h : a ≥ b
  · rw [if_pos h]; simp [h]
  · rw [if_neg h]; simp; omega

theorem l00In_eq (a b c : Int) : spec_l00In.f a b c = some (decide (b ≤ a ∧ a ≤ c)) := by
  unfold spec_l00In.f
  by_cases h : a ≥ b
  · rw [if_pos h]; simp [h]
  · rw [if_neg h]; simp; omega

/-- a loop over a list: from one state to the next, or out of it -/
def run {α σ β : Type} (st : σ → α → Nat → σ ⊕ β) (en : σ → β) : List α → σ → Nat → β
  | [], s, _ => en s
  | x :: xs, s, i => match st s x i with
    | .inl s' => run st en xs s' (i + 1)
    | .inr r => r

theorem loop_run {α σ β : Type} (xs : List α) (K0 : Nat) (Inv : σ → Nat → Prop) (L : Nat → σ → Int → Option β) (st : σ → α → Nat → σ ⊕ β) (en : σ → β)
    (hs : ∀ (k : Nat) (s : σ) (i : Nat) (h : i < xs.length), K0 ≤ k → Inv s i →
      (∃ s', st s xs[i] i = .inl s' ∧ Inv s' (i + 1) ∧ L (k + 1) s (i : Int) = L k s' ((i + 1 : Nat) : Int)) ∨ (∃ r, st s xs[i] i = .inr r ∧ L (k + 1) s (i : Int) = some r))
    (he : ∀ (k : Nat) (s : σ), K0 ≤ k → Inv s xs.length → L (k + 1) s (xs.length : Int) = some (en s)) :
    ∀ (n i k : Nat) (s : σ), i + n = xs.length → K0 + n < k → Inv s i → L k s (i : Int) = some (run st en (xs.drop i) s i) := by
  intro n
  induction n with
  | zero =>
    intro i k s hi hk hI
    obtain ⟨k, rfl⟩ : ∃ m, k = m + 1 := ⟨k - 1, by omega⟩
    obtain rfl : i = xs.length := by omega
    rw [he k s (by omega) hI, List.drop_length]; rfl
  | succ n ih =>
    intro i k s hi hk hI
    obtain ⟨k, rfl⟩ : ∃ m, k = m + 1 := ⟨k - 1, by omega⟩
    have hlt : i < xs.length := by omega
    rw [List.drop_eq_getElem_cons hlt]
    rcases hs k s i hlt (by omega) hI with ⟨s', h1, h2, h3⟩ | ⟨r, h1, h3⟩
    · rw [h3, ih (i + 1) k s' (by omega) (by omega) h2]
      simp only [run, h1]
    · rw [h3]
      simp only [run, h1]

theorem loop_run0 {α σ β : Type} (xs : List α) (K0 : Nat) (Inv : σ → Nat → Prop) (L : Nat → σ → Int → Option β) (st : σ → α → Nat → σ ⊕ β) (en : σ → β)
    (hs : ∀ (k : Nat) (s : σ) (i : Nat) (h : i < xs.length), K0 ≤ k → Inv s i →
      (∃ s', st s xs[i] i = .inl s' ∧ Inv s' (i + 1) ∧ L (k + 1) s (i : Int) = L k s' ((i + 1 : Nat) : Int)) ∨ (∃ r, st s xs[i] i = .inr r ∧ L (k + 1) s (i : Int) = some r))
    (he : ∀ (k : Nat) (s : σ), K0 ≤ k → Inv s xs.length → L (k + 1) s (xs.length : Int) = some (en s)) (k : Nat) (s : σ) (hk : K0 + xs.length < k) (hI : Inv s 0) :
    L k s 0 = some (run st en xs s 0) := by
  have := loop_run xs K0 Inv L st en hs he xs.length 0 k s (by omega) hk hI
  simpa using this

/-- a row that is made and then filled, element by element -/
theorem loop_map {α β : Type} (xs : List α) (z : β) (c : α → β) (L : Nat → List β → Int → Option (List β))
    (hs : ∀ (k : Nat) (s : List β) (i : Nat) (h : i < xs.length), s.length = xs.length → L (k + 1) s (i : Int) = L k (s.set i (c xs[i])) ((i + 1 : Nat) : Int))
    (he : ∀ (k : Nat) (s : List β), L (k + 1) s (xs.length : Int) = some s) (k : Nat) (hk : xs.length < k) :
    L k (List.replicate xs.length z) 0 = some (xs.map c) := by
  have key : ∀ (n i k : Nat) (s : List β), i + n = xs.length → n < k → s.length = xs.length → s.take i = (xs.map c).take i → L k s (i : Int) = some (xs.map c) := by
    intro n
    induction n with
    | zero =>
      intro i k s hi hk hl ht
      obtain ⟨k, rfl⟩ : ∃ m, k = m + 1 := ⟨k - 1, by omega⟩
      obtain rfl : i = xs.length := by omega
      have h1 : s.take xs.length = s := List.take_of_length_le (by omega)
      rw [he, ← h1, ht, List.take_of_length_le (by simp)]
    | succ n ih =>
      intro i k s hi hk hl ht
      obtain ⟨k, rfl⟩ : ∃ m, k = m + 1 := ⟨k - 1, by omega⟩
      have hlt : i < xs.length := by omega
      rw [hs k s i hlt hl]
      refine ih (i + 1) k _ (by omega) (by omega) (by rw [List.length_set]; exact hl) ?_
      rw [List.take_succ_eq_append_getElem (by rw [List.length_set]; omega), List.take_succ_eq_append_getElem (by rw [List.length_map]; omega), List.take_set_of_le (by omega), ht]
      simp
  have := key xs.length 0 k (List.replicate xs.length z) (by omega) hk (by simp) (by simp)
  simpa using this

theorem wnat {n : Nat} (h : n < 9223372036854775807) : wrap64 ((n : Int) + 1) = ((n + 1 : Nat) : Int) := by
  unfold wrap64; omega

theorem loop_all {β : Type} (n K0 : Nat) (L : Nat → Int → Option β) (r : β) (hs : ∀ (k i : Nat), K0 ≤ k → i < n → L (k + 1) (i : Int) = L k ((i + 1 : Nat) : Int)) (he : ∀ k : Nat, L (k + 1) (n : Int) = some r)
    (k : Nat) (hk : K0 + n < k) : L k 0 = some r := by
  have key : ∀ (m i k : Nat), i + m = n → K0 + m < k → L k (i : Int) = some r := by
    intro m
    induction m with
    | zero =>
      intro i k hi hk
      obtain ⟨k, rfl⟩ : ∃ m, k = m + 1 := ⟨k - 1, by omega⟩
      obtain rfl : i = n := by omega
      exact he k
    | succ m ih =>
      intro i k hi hk
      obtain ⟨k, rfl⟩ : ∃ m, k = m + 1 := ⟨k - 1, by omega⟩
      rw [hs k i (by omega) (by omega)]
      exact ih (i + 1) k (by omega) (by omega)
  simpa using key n 0 k (by omega) hk

theorem all_from {α β : Type} (xs : List α) (K0 : Nat) (p : α → Bool) (r0 r1 : β) (L : Nat → Int → Option β)
    (hs : ∀ (k i : Nat) (h : i < xs.length), K0 ≤ k → L (k + 1) (i : Int) = if p xs[i] = true then L k ((i + 1 : Nat) : Int) else some r0)
    (he : ∀ k : Nat, K0 ≤ k → L (k + 1) (xs.length : Int) = some r1) : ∀ (n i k : Nat), i + n = xs.length → K0 + n < k → L k (i : Int) = some (if (xs.drop i).all p = true then r1 else r0) := by
  intro n
  induction n with
  | zero =>
    intro i k hi hk
    obtain ⟨k, rfl⟩ : ∃ m, k = m + 1 := ⟨k - 1, by omega⟩
    obtain rfl : i = xs.length := by omega
    rw [he k (by omega), List.drop_length]; rfl
  | succ n ih =>
    intro i k hi hk
    obtain ⟨k, rfl⟩ : ∃ m, k = m + 1 := ⟨k - 1, by omega⟩
    have hlt : i < xs.length := by omega
    rw [hs k i hlt (by omega), List.drop_eq_getElem_cons hlt, List.all_cons]
    cases hp : p xs[i] with
    | true => rw [if_pos rfl, ih (i + 1) k (by omega) (by omega), Bool.true_and]
    | false => simp

theorem all_loop {α β : Type} (xs : List α) (K0 : Nat) (p : α → Bool) (r0 r1 : β) (L : Nat → Int → Option β)
    (hs : ∀ (k i : Nat) (h : i < xs.length), K0 ≤ k → L (k + 1) (i : Int) = if p xs[i] = true then L k ((i + 1 : Nat) : Int) else some r0)
    (he : ∀ k : Nat, K0 ≤ k → L (k + 1) (xs.length : Int) = some r1) (k : Nat) (hk : K0 + xs.length < k) : L k 0 = some (if xs.all p = true then r1 else r0) := by
  simpa using all_from xs K0 p r0 r1 L hs he xs.length 0 k (by omega) hk

theorem idx_from {α : Type} (xs : List α) (K0 : Nat) (q : α → Bool) (L : Nat → Int → Option Int)
    (hs : ∀ (k i : Nat) (h : i < xs.length), K0 ≤ k → L (k + 1) (i : Int) = if q xs[i] = true then some (i : Int) else L k ((i + 1 : Nat) : Int))
    (he : ∀ k : Nat, K0 ≤ k → L (k + 1) (xs.length : Int) = some (-1)) : ∀ (n i k : Nat), i + n = xs.length → K0 + n < k → ∃ r, L k (i : Int) = some r ∧ decide (r ≥ 0) = (xs.drop i).any q := by
  intro n
  induction n with
  | zero =>
    intro i k hi hk
    obtain ⟨k, rfl⟩ : ∃ m, k = m + 1 := ⟨k - 1, by omega⟩
    obtain rfl : i = xs.length := by omega
    exact ⟨-1, he k (by omega), by rw [List.drop_length]; rfl⟩
  | succ n ih =>
    intro i k hi hk
    obtain ⟨k, rfl⟩ : ∃ m, k = m + 1 := ⟨k - 1, by omega⟩
    have hlt : i < xs.length := by omega
    rw [hs k i hlt (by omega), List.drop_eq_getElem_cons hlt, List.any_cons]
    cases hp : q xs[i] with
    | true => exact ⟨i, by rw [if_pos rfl], by simp⟩
    | false =>
      obtain ⟨r, h1, h2⟩ := ih (i + 1) k (by omega) (by omega)
      exact ⟨r, by rw [if_neg (by simp)]; exact h1, by rw [h2]; simp⟩

theorem idx_loop {α : Type} (xs : List α) (K0 : Nat) (q : α → Bool) (L : Nat → Int → Option Int)
    (hs : ∀ (k i : Nat) (h : i < xs.length), K0 ≤ k → L (k + 1) (i : Int) = if q xs[i] = true then some (i : Int) else L k ((i + 1 : Nat) : Int))
    (he : ∀ k : Nat, K0 ≤ k → L (k + 1) (xs.length : Int) = some (-1)) (k : Nat) (hk : K0 + xs.length < k) : ∃ r, L k 0 = some r ∧ decide (r ≥ 0) = xs.any q := by
  simpa using idx_from xs K0 q L hs he xs.length 0 k (by omega) hk

theorem any_not {α : Type} (l : List α) (p : α → Bool) : l.any (fun x => !p x) = !l.all p := by
  induction l with
  | nil => rfl
  | cons x l ih => rw [List.any_cons, List.all_cons, ih]; cases p x <;> simp

theorem rdi (xs : List Int) (i : Nat) (h : i < xs.length) : rd xs (i : Int) = xs[i] := by
  unfold rd; simp [List.getD, h]

theorem eqInt64S_eq (l : List Int) (hl : l.length ≤ 1048576) (k : Nat) (hk : l.length < k) : laws_eqInt64S.f k l l = some true := by
  unfold laws_eqInt64S.f
  rw [if_pos rfl]
  refine loop_all l.length 0 (fun k i => laws_eqInt64S.l0 k l l i) true ?_ ?_ k (by omega)
  · intro k i _ h
    simp only [laws_eqInt64S.l0]
    rw [if_pos (by omega), if_pos (by omega), if_pos (by omega), wnat (by omega)]; simp
  · intro k
    simp only [laws_eqInt64S.l0]
    rw [if_neg (by omega)]

theorem toInt64S_eq (l : List Int) (hl : l.length ≤ 1048576) (k : Nat) (hk : l.length < k) : laws_toInt64S.f k l = some l := by
  unfold laws_toInt64S.f
  rw [if_pos (by omega), if_pos (by omega), show ((l.length : Int)).toNat = l.length by omega]
  have := loop_map l (0 : Int) (fun x => x) (fun k s i => laws_toInt64S.l0 k l s i) (by
    intro k s i h hs
    simp only [laws_toInt64S.l0]
    rw [if_pos (by omega), if_pos (by omega), if_pos (by omega), rdi l i h, wnat (by omega)]
    rfl) (by
    intro k s
    simp only [laws_toInt64S.l0]
    rw [if_neg (by omega)]) k hk
  simpa using this

theorem szTiling_eq (a b : Int) (l : List Int) (hl : l.length ≤ maxLen) : laws_szTiling.f a b l 1048576 = some (if (1048576 : Int) < l.length then (-1 : Int) else 1048576 - (l.length : Int)) := by
  unfold maxLen at hl
  unfold laws_szTiling.f laws_szInt64S.f
  rw [w64 (x := 1048576 - (l.length : Int)) (by omega) (by omega)]
  by_cases h : (1048576 : Int) < l.length
  · rw [if_pos h, if_pos (by omega)]; rfl
  · rw [if_neg h, if_neg (by omega)]
    simp only [Option.bind_some]
    rw [if_neg (by omega)]
theorem toTiling_eq (a b : Int) (l : List Int) (hl : l.length ≤ 1048576) (k : Nat) (hk : l.length < k) : laws_toTiling.f k a b l = some (a, b, l) := by
  unfold laws_toTiling.f
  rw [toInt64S_eq l hl k hk]; rfl
theorem eqTiling_eq (a b : Int) (l : List Int) (hl : l.length ≤ 1048576) (k : Nat) (hk : l.length < k) : laws_eqTiling.f k a b l a b l = some true := by
  unfold laws_eqTiling.f
  simp [eqInt64S_eq l hl k hk]

/-- a cell is put behind the others, if it is of the tile and not among them -/
def push (p : Int → Bool) (q : List Int) (c : Int) : List Int := if p c = true ∧ c ∉ q then q ++ [c] else q

theorem push_mem (p : Int → Bool) (q : List Int) (c x : Int) : x ∈ push p q c ↔ x ∈ q ∨ (x = c ∧ p x = true) := by
  unfold push
  split
  · rename_i h
    rw [List.mem_append, List.mem_singleton]
    constructor
    · rintro (h1 | rfl)
      · exact Or.inl h1
      · exact Or.inr ⟨rfl, h.1⟩
    · rintro (h1 | ⟨rfl, _⟩)
      · exact Or.inl h1
      · exact Or.inr rfl
  · rename_i h
    constructor
    · exact Or.inl
    · rintro (h1 | ⟨rfl, h2⟩)
      · exact h1
      · exact Decidable.byContradiction fun h3 => h ⟨h2, h3⟩

theorem push_nodup (p : Int → Bool) (q : List Int) (c : Int) (h : q.Nodup) : (push p q c).Nodup := by
  unfold push
  split
  · rename_i hc
    rw [List.nodup_append]
    refine ⟨h, by simp, ?_⟩
    intro a ha b hb
    rw [List.mem_singleton] at hb
    subst hb
    intro he
    subst he
    exact hc.2 ha
  · exact h

theorem push_prefix (p : Int → Bool) (q : List Int) (c : Int) : ∃ t, push p q c = q ++ t := by
  unfold push
  split
  · exact ⟨_, rfl⟩
  · exact ⟨[], by simp⟩

def pushes (p : Int → Bool) (q cs : List Int) : List Int := cs.foldl (push p) q

theorem pushes_mem (p : Int → Bool) (cs : List Int) : ∀ (q : List Int) (x : Int), x ∈ pushes p q cs ↔ x ∈ q ∨ (x ∈ cs ∧ p x = true) := by
  induction cs with
  | nil => intro q x; simp [pushes]
  | cons c cs ih =>
    intro q x
    show x ∈ pushes p (push p q c) cs ↔ _
    rw [ih, push_mem, List.mem_cons]
    constructor
    · rintro ((h | h) | h)
      · exact Or.inl h
      · exact Or.inr ⟨Or.inl h.1, h.2⟩
      · exact Or.inr ⟨Or.inr h.1, h.2⟩
    · rintro (h | ⟨h | h, h2⟩)
      · exact Or.inl (Or.inl h)
      · exact Or.inl (Or.inr ⟨h, h2⟩)
      · exact Or.inr ⟨h, h2⟩

theorem pushes_nodup (p : Int → Bool) (cs : List Int) : ∀ (q : List Int), q.Nodup → (pushes p q cs).Nodup := by
  induction cs with
  | nil => intro q h; exact h
  | cons c cs ih => intro q h; exact ih _ (push_nodup p q c h)

theorem pushes_prefix (p : Int → Bool) (cs : List Int) : ∀ (q : List Int), ∃ t, pushes p q cs = q ++ t := by
  induction cs with
  | nil => intro q; exact ⟨[], by simp [pushes]⟩
  | cons c cs ih =>
    intro q
    obtain ⟨t, ht⟩ := push_prefix p q c
    obtain ⟨u, hu⟩ := ih (push p q c)
    exact ⟨t ++ u, by show pushes p (push p q c) cs = _; rw [hu, ht, List.append_assoc]⟩

/-- the cells that hang together with the first -/
inductive Reach (p : Int → Bool) (nb : Int → List Int) (first : Int) : Int → Prop
  | base : Reach p nb first first
  | step {x c : Int} : Reach p nb first x → c ∈ nb x → p c = true → Reach p nb first c

theorem Reach.other {p : Int → Bool} {nb nb2 : Int → List Int} {first : Int} (h : ∀ x c, c ∈ nb x → c ∈ nb2 x) {x : Int} (hr : Reach p nb first x) : Reach p nb2 first x := by
  induction hr with
  | base => exact Reach.base
  | step _ hc hp ih => exact Reach.step ih (h _ _ hc) hp

/-- what holds of the cells that were met, of which i have been looked at -/
structure Met (p : Int → Bool) (nb : Int → List Int) (first : Int) (q : List Int) (i : Nat) : Prop where
  nd : q.Nodup
  hf : first ∈ q
  hr : ∀ x ∈ q, Reach p nb first x
  hc : ∀ (j : Nat) (h : j < q.length), j < i → ∀ c ∈ nb q[j], p c = true → c ∈ q
  hi : i ≤ q.length

theorem Met.start (p : Int → Bool) (nb : Int → List Int) (first : Int) : Met p nb first [first] 0 :=
  ⟨by simp, by simp, fun x hx => by rw [List.mem_singleton] at hx; subst hx; exact Reach.base, fun j h hj => by omega, by simp⟩

theorem Met.next {p : Int → Bool} {nb : Int → List Int} {first : Int} {q : List Int} {i : Nat} (m : Met p nb first q i) (h : i < q.length) : Met p nb first (pushes p q (nb q[i])) (i + 1) := by
  obtain ⟨t, ht⟩ := pushes_prefix p (nb q[i]) q
  have hl : q.length ≤ (pushes p q (nb q[i])).length := by rw [ht, List.length_append]; omega
  refine ⟨pushes_nodup p _ q m.nd, (pushes_mem p _ q first).2 (Or.inl m.hf), ?_, ?_, by omega⟩
  · intro x hx
    rcases (pushes_mem p _ q x).1 hx with h1 | ⟨h1, h2⟩
    · exact m.hr x h1
    · exact Reach.step (m.hr _ (List.getElem_mem h)) h1 h2
  · intro j hj hji c hc hp
    have hjq : j < q.length := by omega
    have e : (pushes p q (nb q[i]))[j] = q[j] := by
      simp only [ht]
      exact List.getElem_append_left hjq
    rw [e] at hc
    by_cases hji2 : j < i
    · exact (pushes_mem p _ q c).2 (Or.inl (m.hc j hjq hji2 c hc hp))
    · obtain rfl : j = i := by omega
      exact (pushes_mem p _ q c).2 (Or.inr ⟨hc, hp⟩)

theorem Met.last {p : Int → Bool} {nb : Int → List Int} {first : Int} {q : List Int} (m : Met p nb first q q.length) (x : Int) : x ∈ q ↔ Reach p nb first x := by
  refine ⟨m.hr x, fun h => ?_⟩
  induction h with
  | base => exact m.hf
  | step _ hc hp ih =>
    obtain ⟨j, hj, e⟩ := List.getElem_of_mem ih
    exact m.hc j hj hj _ (by rw [e]; exact hc) hp

theorem Met.same {p : Int → Bool} {nb nb2 : Int → List Int} {first : Int} {q q2 : List Int} (m : Met p nb first q q.length) (m2 : Met p nb2 first q2 q2.length) (h : ∀ x c, c ∈ nb x ↔ c ∈ nb2 x) : q.length = q2.length := by
  refine ((List.perm_ext_iff_of_nodup m.nd m2.nd).2 fun x => ?_).length_eq
  rw [m.last, m2.last]
  exact ⟨Reach.other fun x c => (h x c).1, Reach.other fun x c => (h x c).2⟩

/-- no more cells are met than there are -/
theorem Met.few {p : Int → Bool} {nb : Int → List Int} {first : Int} {q : List Int} {i : Nat} (m : Met p nb first q i) (N : Nat) (hin : ∀ x ∈ q, 0 ≤ x ∧ x < (N : Int)) : q.length ≤ N := by
  have := List.Nodup.length_le_of_subset m.nd (l₂ := (List.range N).map fun (n : Nat) => (n : Int)) (fun x hx => by
    obtain ⟨h0, h1⟩ := hin x hx
    exact List.mem_map.2 ⟨x.toNat, List.mem_range.2 (by omega), by omega⟩)
  simpa using this

theorem mul12 {a b : Int} (ha : 1 ≤ a ∧ a ≤ 12) (hb : 1 ≤ b ∧ b ≤ 12) : 1 ≤ a * b ∧ a * b ≤ 144 := by
  have h1 : (1 : Int) * 1 ≤ a * b := Int.mul_le_mul ha.1 hb.1 (by omega) (by omega)
  have h2 : a * b ≤ (12 : Int) * 12 := Int.mul_le_mul ha.2 hb.2 (by omega) (by omega)
  omega

/-- the rest of a division, from 0 on, as the program and the reference both reckon it -/
theorem rest_emod {x a : Int} (ha : 1 ≤ a ∧ a ≤ 12) : Int.tmod (wrap64 (Int.tmod x a + a)) a = x % a := by
  have h1 := Int.tmod_lt_of_pos x (b := a) (by omega)
  have h2 := Int.lt_tmod_of_pos x (b := a) (by omega)
  rw [w64 (by omega) (by omega), Int.tmod_eq_emod_of_nonneg (by omega), Int.add_emod_right, Int.tmod_def, Int.sub_mul_emod_self_left]

def idx (a b x y : Int) : Int := (y % b) * a + x % a

theorem idx_in {a b : Int} (ha : 1 ≤ a ∧ a ≤ 12) (hb : 1 ≤ b ∧ b ≤ 12) (x y : Int) : 0 ≤ idx a b x y ∧ idx a b x y < a * b := by
  unfold idx
  have x0 := Int.emod_nonneg x (b := a) (by omega)
  have x1 := Int.emod_lt_of_pos x (b := a) (by omega)
  have y0 := Int.emod_nonneg y (b := b) (by omega)
  have y1 := Int.emod_lt_of_pos y (b := b) (by omega)
  have h0 : 0 ≤ (y % b) * a := Int.mul_nonneg y0 (by omega)
  have h1 : (y % b) * a ≤ (b - 1) * a := Int.mul_le_mul_of_nonneg_right (by omega) (by omega)
  have h2 : (b - 1) * a = a * b - a := by rw [Int.sub_mul, Int.one_mul, Int.mul_comm]
  omega

theorem idx_fits {a b : Int} (ha : 1 ≤ a ∧ a ≤ 12) (hb : 1 ≤ b ∧ b ≤ 12) (x y : Int) : wrap64 (wrap64 ((y % b) * a) + x % a) = idx a b x y ∧ 0 ≤ (y % b) * a ∧ (y % b) * a ≤ 144 := by
  have x0 := Int.emod_nonneg x (b := a) (by omega)
  have x1 := Int.emod_lt_of_pos x (b := a) (by omega)
  have h := idx_in ha hb x y
  have m := mul12 ha hb
  unfold idx at h ⊢
  have y0 := Int.emod_nonneg y (b := b) (by omega)
  have h0 : 0 ≤ (y % b) * a := Int.mul_nonneg y0 (by omega)
  rw [w64 (x := y % b * a) (by omega) (by omega), w64 (by omega) (by omega)]
  exact ⟨rfl, h0, by omega⟩

def nbS (a b i : Int) : List Int := [idx a b (i % a + 1) (i / a), idx a b (i % a) (i / a + 1), idx a b (i % a - 1) (i / a), idx a b (i % a) (i / a - 1)]
def nbI (a b i : Int) : List Int := [idx a b (i % a + 1) (i / a), idx a b (i % a - 1) (i / a), idx a b (i % a) (i / a + 1), idx a b (i % a) (i / a - 1)]

theorem nb_same (a b x c : Int) : c ∈ nbS a b x ↔ c ∈ nbI a b x := by
  unfold nbS nbI
  simp only [List.mem_cons, List.not_mem_nil, or_false]
  constructor
  · rintro (h | h | h | h)
    · exact Or.inl h
    · exact Or.inr (Or.inr (Or.inl h))
    · exact Or.inr (Or.inl h)
    · exact Or.inr (Or.inr (Or.inr h))
  · rintro (h | h | h | h)
    · exact Or.inl h
    · exact Or.inr (Or.inr (Or.inl h))
    · exact Or.inr (Or.inl h)
    · exact Or.inr (Or.inr (Or.inr h))

theorem nbS_in {a b : Int} (ha : 1 ≤ a ∧ a ≤ 12) (hb : 1 ≤ b ∧ b ≤ 12) (x c : Int) (h : c ∈ nbS a b x) : 0 ≤ c ∧ c < a * b := by
  unfold nbS at h
  simp only [List.mem_cons, List.not_mem_nil, or_false] at h
  rcases h with rfl | rfl | rfl | rfl <;> exact idx_in ha hb _ _

/-- the cells that are met from the first on -/
def flood (p : Int → Bool) (nb : Int → List Int) : Nat → List Int → Nat → List Int
  | 0, q, _ => q
  | n + 1, q, i => if h : i < q.length then flood p nb n (pushes p q (nb q[i])) (i + 1) else q

theorem pushes_in {p : Int → Bool} {q cs : List Int} {N : Int} (hq : ∀ x ∈ q, 0 ≤ x ∧ x < N) (hc : ∀ x ∈ cs, 0 ≤ x ∧ x < N) : ∀ x ∈ pushes p q cs, 0 ≤ x ∧ x < N := by
  intro x hx
  rcases (pushes_mem p cs q x).1 hx with h | h
  · exact hq x h
  · exact hc x h.1

theorem flood_met (p : Int → Bool) (nb : Int → List Int) (first : Int) (N : Nat) (hn : ∀ x c, c ∈ nb x → 0 ≤ c ∧ c < (N : Int)) : ∀ (n : Nat) (q : List Int) (i : Nat), N ≤ i + n → Met p nb first q i → (∀ x ∈ q, 0 ≤ x ∧ x < (N : Int)) → Met p nb first (flood p nb n q i) (flood p nb n q i).length := by
  intro n
  induction n with
  | zero =>
    intro q i hi m hq
    have := m.few N hq
    have := m.hi
    obtain rfl : i = q.length := by omega
    exact m
  | succ n ih =>
    intro q i hi m hq
    unfold flood
    split
    · rename_i h
      exact ih _ _ (by omega) (m.next h) (pushes_in hq (fun x hx => hn _ x hx))
    · rename_i h
      have := m.hi
      obtain rfl : i = q.length := by omega
      exact m

/-- the place of the first cell of a tile, or -1 -/
def fstOf (k : Int) : Int → List Int → Int
  | _, [] => -1
  | i, x :: xs => if x = k then i else fstOf k (i + 1) xs

theorem fstOf_in (k : Int) : ∀ (l : List Int) (i : Int), 0 ≤ i → if k ∈ l then i ≤ fstOf k i l ∧ fstOf k i l < i + l.length else fstOf k i l = -1 := by
  intro l
  induction l with
  | nil => intro i _; simp [fstOf]
  | cons x xs ih =>
    intro i hi
    have := ih (i + 1) (by omega)
    unfold fstOf
    by_cases h : x = k
    · subst h; simp; omega
    · have h2 : ¬ k = x := fun e => h e.symm
      simp only [h, if_false, List.mem_cons, h2, false_or, List.length_cons]
      split at this
      · rename_i h3; rw [if_pos h3]; omega
      · rename_i h3; rw [if_neg h3]; exact this

def many (k : Int) (l : List Int) : Nat := (l.filter (fun x => decide (x = k))).length

/-- whether the cells of a tile hang together -/
def conn (a b : Int) (l : List Int) (k : Int) : Bool := decide ((flood (fun c => decide (rd l c = k)) (nbS a b) l.length [fstOf k 0 l] 0).length = many k l)

theorem conn_I {a b : Int} {l : List Int} {k : Int} (ha : 1 ≤ a ∧ a ≤ 12) (hb : 1 ≤ b ∧ b ≤ 12) (hm : (l.length : Int) = a * b) (hk : k ∈ l) :
    (flood (fun c => decide (rd l c = k)) (nbI a b) l.length [fstOf k 0 l] 0).length = (flood (fun c => decide (rd l c = k)) (nbS a b) l.length [fstOf k 0 l] 0).length := by
  have hf := fstOf_in k l 0 (by omega)
  rw [if_pos hk] at hf
  have hs : ∀ x ∈ [fstOf k 0 l], 0 ≤ x ∧ x < (l.length : Int) := fun x hx => by rw [List.mem_singleton] at hx; subst hx; omega
  have m1 := flood_met (fun c => decide (rd l c = k)) (nbI a b) (fstOf k 0 l) l.length (fun x c h => by rw [hm]; exact nbS_in ha hb x c ((nb_same a b x c).2 h)) l.length [fstOf k 0 l] 0 (by omega) (Met.start _ _ _) hs
  have m2 := flood_met (fun c => decide (rd l c = k)) (nbS a b) (fstOf k 0 l) l.length (fun x c h => by rw [hm]; exact nbS_in ha hb x c h) l.length [fstOf k 0 l] 0 (by omega) (Met.start _ _ _) hs
  exact m1.same m2 (fun x c => (nb_same a b x c).symm)

def mxf (t x : Int) : Int := if t > x then t else x

/-- the number of tiles -/
def top (l : List Int) : Int := l.foldl mxf (-1) + 1

def okT (a b : Int) (l : List Int) : Bool := decide (1 ≤ a ∧ a ≤ 12) && (decide (1 ≤ b ∧ b ≤ 12) && (decide ((l.length : Int) = a * b) && (l.all (fun x => decide (0 ≤ x ∧ x ≤ 35)) &&
  (List.range (top l).toNat).all (fun k => decide ((k : Int) ∈ l) && conn a b l k))))

theorem mxf_eq (t x : Int) : (t ≤ mxf t x ∧ x ≤ mxf t x) ∧ (mxf t x = t ∨ mxf t x = x) := by
  unfold mxf
  by_cases h : t > x
  · rw [if_pos h]; exact ⟨⟨Int.le_refl _, by omega⟩, Or.inl rfl⟩
  · rw [if_neg h]; exact ⟨⟨by omega, Int.le_refl _⟩, Or.inr rfl⟩

theorem foldmax (l : List Int) : ∀ t : Int, t ≤ l.foldl mxf t ∧ (∀ x ∈ l, x ≤ l.foldl mxf t) ∧ (l.foldl mxf t = t ∨ l.foldl mxf t ∈ l) := by
  induction l with
  | nil => intro t; simp
  | cons x l ih =>
    intro t
    rw [List.foldl_cons]
    obtain ⟨h1, h2, h3⟩ := ih (mxf t x)
    obtain ⟨⟨m1, m2⟩, m3⟩ := mxf_eq t x
    refine ⟨by omega, ?_, ?_⟩
    · intro y hy
      rcases List.mem_cons.1 hy with rfl | hy
      · omega
      · exact h2 y hy
    · rcases h3 with h3 | h3
      · rw [h3]
        rcases m3 with m3 | m3
        · exact Or.inl m3
        · exact Or.inr (by rw [m3]; simp)
      · exact Or.inr (List.mem_cons_of_mem _ h3)

theorem has_eq (q : List Int) (c : Int) (hq : q.length ≤ 1048576) (k : Nat) (hk : q.length < k) : spec_l00Has.f k q c = some (decide (c ∈ q)) := by
  unfold spec_l00Has.f
  rw [all_loop q 0 (fun x => !decide (x = c)) true false (fun k i => spec_l00Has.l0 k q c i) (by
    intro k i hi _
    simp only [spec_l00Has.l0]
    rw [if_pos (by omega), if_pos (by omega), rdi q i hi, wnat (by omega)]
    by_cases h : q[i] = c
    · rw [if_pos h, if_neg (by simp [h])]
    · rw [if_neg h, if_pos (by simp [h])]) (by
    intro k _
    simp only [spec_l00Has.l0]
    rw [if_neg (by omega)]) k (by omega)]
  congr 1
  by_cases h : c ∈ q
  · rw [if_neg (by intro h2; have := List.all_eq_true.1 h2 c h; simp at this)]; simp [h]
  · rw [if_pos (List.all_eq_true.2 fun x hx => by
      have : x ≠ c := fun e => h (e ▸ hx)
      simp [this])]
    simp [h]

theorem specIndex {a b : Int} (l : List Int) (ha : 1 ≤ a ∧ a ≤ 12) (hb : 1 ≤ b ∧ b ≤ 12) (x y : Int) : spec_l17Index.f [(⟨a, b, l⟩ : S27)] x y = some (idx a b x y) := by
  have r : rd_T27 [(⟨a, b, l⟩ : S27)] 0 = ⟨a, b, l⟩ := rfl
  simp only [spec_l17Index.f, r]
  rw [if_pos (by simp), if_neg (by omega), if_neg (by omega), rest_emod hb, rest_emod ha, (idx_fits ha hb x y).1]

theorem implIndex {a b : Int} (l : List Int) (ha : 1 ≤ a ∧ a ≤ 12) (hb : 1 ≤ b ∧ b ≤ 12) (x y : Int) : impl_touchingCells_1.f x y [(⟨a, b, l⟩ : S27)] = some (idx a b x y) := by
  have r : rd_T27 [(⟨a, b, l⟩ : S27)] 0 = ⟨a, b, l⟩ := rfl
  simp only [impl_touchingCells_1.f, impl_rest.f, r]
  rw [if_pos (by simp), if_neg (by omega), if_neg (by omega), rest_emod hb, rest_emod ha]
  simp only [Option.bind_some]
  rw [(idx_fits ha hb x y).1]

theorem cellOf {a b i : Int} (ha : 1 ≤ a ∧ a ≤ 12) (hb : 1 ≤ b ∧ b ≤ 12) (hi : 0 ≤ i ∧ i < a * b) : (Int.tmod i a = i % a ∧ Int.tdiv i a = i / a) ∧ (0 ≤ i % a ∧ i % a < a) ∧ (0 ≤ i / a ∧ i / a ≤ 144) := by
  have m := mul12 ha hb
  have h1 := Int.emod_nonneg i (b := a) (by omega)
  have h2 := Int.emod_lt_of_pos i (b := a) (by omega)
  have h3 : 0 ≤ i / a := Int.ediv_nonneg hi.1 (by omega)
  have h4 := Int.ediv_le_self a hi.1
  exact ⟨⟨Int.tmod_eq_emod_of_nonneg hi.1, Int.tdiv_eq_ediv_of_nonneg hi.1⟩, ⟨h1, h2⟩, h3, by omega⟩

theorem specAround {a b : Int} (l : List Int) (ha : 1 ≤ a ∧ a ≤ 12) (hb : 1 ≤ b ∧ b ≤ 12) (i : Int) (hi : 0 ≤ i ∧ i < a * b) : spec_l17Around.f [(⟨a, b, l⟩ : S27)] i = some (nbS a b i) := by
  have r : rd_T27 [(⟨a, b, l⟩ : S27)] 0 = ⟨a, b, l⟩ := rfl
  obtain ⟨⟨e1, e2⟩, x0, y0⟩ := cellOf ha hb hi
  simp only [spec_l17Around.f, r]
  rw [if_pos (by simp), if_neg (by omega), e1, e2, w64 (x := i / a) (by omega) (by omega), w64 (x := i % a + 1) (by omega) (by omega), w64 (x := i / a + 1) (by omega) (by omega), w64 (x := i % a - 1) (by omega) (by omega), w64 (x := i / a - 1) (by omega) (by omega)]
  simp only [specIndex l ha hb, Option.bind_some]
  rfl

theorem implAround {a b : Int} (l : List Int) (ha : 1 ≤ a ∧ a ≤ 12) (hb : 1 ≤ b ∧ b ≤ 12) (i : Int) (hi : 0 ≤ i ∧ i < a * b) :
    impl_touchingCells.f a b l i = some (idx a b (i % a + 1) (i / a), idx a b (i % a - 1) (i / a), idx a b (i % a) (i / a + 1), idx a b (i % a) (i / a - 1)) := by
  obtain ⟨⟨e1, e2⟩, x0, y0⟩ := cellOf ha hb hi
  simp only [impl_touchingCells.f]
  rw [if_neg (by omega), e1, e2, w64 (x := i / a) (by omega) (by omega), w64 (x := i % a + 1) (by omega) (by omega), w64 (x := i / a + 1) (by omega) (by omega), w64 (x := i % a - 1) (by omega) (by omega), w64 (x := i / a - 1) (by omega) (by omega)]
  simp only [implIndex l ha hb, Option.bind_some]

theorem rd_mid (dn : List Int) (c : Int) (cs : List Int) : rd (dn ++ c :: cs) (dn.length : Int) = c := by
  unfold rd; simp [List.getD]

/-- the reference's step from a cell -/
theorem specIn (a b : Int) (l : List Int) (kk all i : Int) : ∀ (cs dn q : List Int) (f k : Nat), f = k + cs.length + 1 → q.length + cs.length ≤ 400 → 400 < k → dn.length + cs.length ≤ 10 → (∀ c ∈ cs, 0 ≤ c ∧ c < (l.length : Int)) →
    spec_l17Joined.l2 f kk all q i (dn ++ cs) (dn.length : Int) [(⟨a, b, l⟩ : S27)] = spec_l17Joined.l1 k kk all (pushes (fun c => decide (rd l c = kk)) q cs) (wrap64 (i + 1)) [(⟨a, b, l⟩ : S27)] := by
  have r : rd_T27 [(⟨a, b, l⟩ : S27)] 0 = ⟨a, b, l⟩ := rfl
  intro cs
  induction cs with
  | nil =>
    intro dn q f k hf hq hk hd hc
    obtain rfl : f = k + 1 := by simpa using hf
    simp only [spec_l17Joined.l2, r]
    rw [if_neg (by simp)]
    rfl
  | cons c cs ih =>
    intro dn q f k hf hq hk hd hc
    rw [List.length_cons] at hf hq hd
    obtain ⟨f, rfl⟩ : ∃ m, f = m + 1 := ⟨f - 1, by omega⟩
    obtain ⟨c0, c1⟩ := hc c (by simp)
    have hi := fun q' (hq' : q'.length ≤ q.length + 1) => ih (dn ++ [c]) q' f k (by omega) (by omega) hk (by rw [List.length_append, List.length_singleton]; omega) (fun x hx => hc x (List.mem_cons_of_mem _ hx))
    rw [List.append_assoc, List.singleton_append, List.length_append, List.length_singleton] at hi
    simp only [spec_l17Joined.l2, r, rd_mid]
    rw [if_pos (by rw [List.length_append, List.length_cons]; omega), if_pos (by simp), if_pos (by omega), if_pos c0, if_pos c1, wnat (by omega), has_eq q c (by omega) f (by omega)]
    simp only [Option.bind_some]
    show _ = spec_l17Joined.l1 k kk all (pushes (fun c => decide (rd l c = kk)) (push (fun c => decide (rd l c = kk)) q c) cs) (wrap64 (i + 1)) _
    by_cases hp : rd l c = kk
    · by_cases hm : c ∈ q
      · have e : push (fun c => decide (rd l c = kk)) q c = q := by unfold push; rw [if_neg (by simp [hm])]
        rw [if_pos hp, if_pos (by simp [hm]), e]
        exact hi q (by omega)
      · have e : push (fun c => decide (rd l c = kk)) q c = q ++ [c] := by unfold push; rw [if_pos (by simp [hm, hp])]
        rw [if_pos hp, if_neg (by simp [hm]), if_pos (by omega), e]
        exact hi (q ++ [c]) (by simp)
    · have e : push (fun c => decide (rd l c = kk)) q c = q := by unfold push; rw [if_neg (by simp [hp])]
      rw [if_neg hp, e]
      exact hi q (by omega)

theorem specOut {a b : Int} {l : List Int} (ha : 1 ≤ a ∧ a ≤ 12) (hb : 1 ≤ b ∧ b ≤ 12) (hm : (l.length : Int) = a * b) (kk all first : Int) : ∀ (n : Nat) (q : List Int) (i : Nat), l.length ≤ i + n → Met (fun c => decide (rd l c = kk)) (nbS a b) first q i → (∀ x ∈ q, 0 ≤ x ∧ x < (l.length : Int)) → ∀ k, 6 * n + 400 < k →
    spec_l17Joined.l1 k kk all q (i : Int) [(⟨a, b, l⟩ : S27)] = some (((flood (fun c => decide (rd l c = kk)) (nbS a b) n q i).length : Int) == all) := by
  have m12 := mul12 ha hb
  intro n
  induction n with
  | zero =>
    intro q i hi m hq k hk
    have := m.few l.length hq
    have := m.hi
    obtain ⟨k, rfl⟩ : ∃ m, k = m + 1 := ⟨k - 1, by omega⟩
    simp only [spec_l17Joined.l1]
    rw [if_neg (by omega)]
    rfl
  | succ n ih =>
    intro q i hi m hq k hk
    have h1 := m.few l.length hq
    have h2 := m.hi
    obtain ⟨k, rfl⟩ : ∃ m, k = m + 6 := ⟨k - 6, by omega⟩
    by_cases h : i < q.length
    · have hx := hq _ (List.getElem_mem h)
      have hn : ∀ c ∈ nbS a b q[i], 0 ≤ c ∧ c < (l.length : Int) := fun c hc => by rw [hm]; exact nbS_in ha hb _ c hc
      rw [show spec_l17Joined.l1 (k + 6) kk all q (i : Int) [(⟨a, b, l⟩ : S27)] = spec_l17Joined.l2 (k + 5) kk all q (i : Int) ([] ++ nbS a b q[i]) ((([] : List Int).length : Nat) : Int) [(⟨a, b, l⟩ : S27)] by
        simp only [spec_l17Joined.l1]
        rw [if_pos (by omega), if_pos (by omega), rdi q i h, specAround l ha hb _ (by omega)]
        rfl]
      rw [specIn a b l kk all i (nbS a b q[i]) [] q (k + 5) k rfl (by show q.length + 4 ≤ 400; omega) (by omega) (by show 0 + 4 ≤ 10; omega) hn, wnat (by omega)]
      rw [ih _ (i + 1) (by omega) (m.next h) (pushes_in hq hn) k (by omega)]
      rw [show flood (fun c => decide (rd l c = kk)) (nbS a b) (n + 1) q i = flood (fun c => decide (rd l c = kk)) (nbS a b) n (pushes (fun c => decide (rd l c = kk)) q (nbS a b q[i])) (i + 1) by
        simp only [flood]; rw [dif_pos h]]
    · rw [show flood (fun c => decide (rd l c = kk)) (nbS a b) (n + 1) q i = q by simp only [flood]; rw [dif_neg h]]
      simp only [spec_l17Joined.l1]
      rw [if_neg (by omega)]

theorem specFst (a b : Int) (l : List Int) (kk : Int) (hl : l.length ≤ 1000) (all : Int → Int → Int) (R : Int → Int → Option Bool) (K1 : Nat)
    (hR : ∀ k x5 x6, K1 < k → x5 = fstOf kk 0 l → x6 = (many kk l : Int) → spec_l17Joined.l1 k kk x6 [x5] 0 [(⟨a, b, l⟩ : S27)] = R x5 x6) : ∀ (n i : Nat) (x5 x6 : Int) (k : Nat), i + n = l.length → K1 + n + 1 < k → 0 ≤ x6 → x6 ≤ i → (if x5 < 0 then fstOf kk i (l.drop i) else x5) = fstOf kk 0 l → x6 + (many kk (l.drop i) : Int) = many kk l → (x5 = -1 ∨ 0 ≤ x5) →
    spec_l17Joined.l0 k kk x5 x6 (i : Int) [(⟨a, b, l⟩ : S27)] = R (fstOf kk 0 l) (many kk l) := by
  have r : rd_T27 [(⟨a, b, l⟩ : S27)] 0 = ⟨a, b, l⟩ := rfl
  intro n
  induction n with
  | zero =>
    intro i x5 x6 k hi hk h0 h1 hf hmm h5
    obtain ⟨k, rfl⟩ : ∃ m, k = m + 1 := ⟨k - 1, by omega⟩
    obtain rfl : i = l.length := by omega
    simp only [spec_l17Joined.l0, r]
    rw [if_pos (by simp), if_neg (by omega)]
    rw [List.drop_length] at hf hmm
    have e5 : x5 = fstOf kk 0 l := by
      rw [← hf]
      split
      · rename_i h; rcases h5 with rfl | h5
        · rfl
        · omega
      · rfl
    have e6 : x6 = (many kk l : Int) := by rw [← hmm]; simp [many]
    rw [hR k x5 x6 (by omega) e5 e6, e5, e6]
  | succ n ih =>
    intro i x5 x6 k hi hk h0 h1 hf hmm h5
    obtain ⟨k, rfl⟩ : ∃ m, k = m + 1 := ⟨k - 1, by omega⟩
    have hlt : i < l.length := by omega
    rw [List.drop_eq_getElem_cons hlt] at hf hmm
    simp only [spec_l17Joined.l0, r]
    rw [if_pos (by simp), if_pos (by omega), if_pos (by omega), rdi l i hlt, wnat (by omega)]
    by_cases hk2 : l[i] = kk
    · rw [if_pos hk2, w64 (x := x6 + 1) (by omega) (by omega)]
      have e : many kk (l[i] :: l.drop (i + 1)) = many kk (l.drop (i + 1)) + 1 := by simp [many, hk2]
      rw [e] at hmm
      by_cases h : x5 < 0
      · rw [if_pos h]
        refine ih (i + 1) i (x6 + 1) k (by omega) (by omega) (by omega) (by omega) ?_ (by omega) (Or.inr (by omega))
        rw [if_neg (by omega), ← hf, if_pos h]
        simp [fstOf, hk2]
      · rw [if_neg h]
        refine ih (i + 1) x5 (x6 + 1) k (by omega) (by omega) (by omega) (by omega) ?_ (by omega) (Or.inr (by omega))
        rw [if_neg h, ← hf, if_neg h]
    · rw [if_neg hk2]
      have e : many kk (l[i] :: l.drop (i + 1)) = many kk (l.drop (i + 1)) := by unfold many; rw [List.filter_cons_of_neg (by simp [hk2])]
      rw [e] at hmm
      refine ih (i + 1) x5 x6 k (by omega) (by omega) (by omega) (by omega) ?_ (by omega) h5
      rw [← hf]
      by_cases h : x5 < 0
      · rw [if_pos h, if_pos h]
        simp [fstOf, hk2]
      · rw [if_neg h, if_neg h]

theorem specJoined {a b : Int} {l : List Int} (ha : 1 ≤ a ∧ a ≤ 12) (hb : 1 ≤ b ∧ b ≤ 12) (hm : (l.length : Int) = a * b) (kk : Int) (hk2 : kk ∈ l) (k : Nat) (hk : 3000 < k) : spec_l17Joined.f k [(⟨a, b, l⟩ : S27)] kk = some (conn a b l kk) := by
  have m12 := mul12 ha hb
  have hf := fstOf_in kk l 0 (by omega)
  rw [if_pos hk2] at hf
  unfold spec_l17Joined.f
  have := specFst a b l kk (by omega) (fun x _ => x) (fun _ _ => some (conn a b l kk)) 2000 (by
    intro k x5 x6 hk e5 e6
    subst e5
    subst e6
    have := specOut ha hb hm kk (many kk l : Int) (fstOf kk 0 l) l.length [fstOf kk 0 l] 0 (by omega) (Met.start _ _ _) (fun x hx => by rw [List.mem_singleton] at hx; subst hx; omega) k (by omega)
    rw [show ((0 : Nat) : Int) = 0 from rfl] at this
    rw [this]
    unfold conn
    congr 1
    rw [Bool.eq_iff_iff, beq_iff_eq, decide_eq_true_iff]
    omega) l.length 0 (-1) 0 k (by omega) (by omega) (by omega) (by omega) (by rw [if_pos (by omega)]; rfl) (by simp) (Or.inl rfl)
  exact this

/-- the greatest number of a list whose numbers are all from -1 on -/
theorem top_of {l : List Int} {m : Int} (h1 : ∀ x ∈ l, x ≤ m) (h2 : m ∈ l) (h0 : ∀ x ∈ l, 0 ≤ x) : top l = m + 1 := by
  unfold top
  obtain ⟨a1, a2, a3⟩ := foldmax l (-1)
  have := a2 m h2
  have := h0 m h2
  rcases a3 with a3 | a3
  · omega
  · have := h1 _ a3
    omega

theorem top_pos {l : List Int} (hl : 0 < l.length) (h0 : ∀ x ∈ l, 0 ≤ x ∧ x ≤ 35) : 1 ≤ top l ∧ top l ≤ 36 ∧ ∀ x ∈ l, x < top l := by
  unfold top
  obtain ⟨a1, a2, a3⟩ := foldmax l (-1)
  have hx := h0 _ (List.getElem_mem hl)
  have hy := a2 _ (List.getElem_mem hl)
  refine ⟨by omega, ?_, fun x hx => by have := a2 x hx; omega⟩
  rcases a3 with a3 | a3
  · omega
  · have := h0 _ a3; omega

def inR (x : Int) : Bool := decide (0 ≤ x ∧ x ≤ 35)

theorem l00Max_eq (a b : Int) : spec_l00Max.f a b = some (mxf a b) := by
  unfold spec_l00Max.f mxf
  by_cases h : a > b
  · rw [if_pos h, if_pos h]
  · rw [if_neg h, if_neg h]

theorem most1 (a b : Int) (l : List Int) (hl : l.length ≤ 1000) (n : Nat) (hn : n ≤ 36) (k0 : Nat) (hk0 : 2000 < k0) :
    spec_l17Most.l1 k0 ((n : Int) - 1) 0 [(⟨a, b, l⟩ : S27)] = some (if (List.range n).all (fun k => decide ((k : Int) ∈ l)) = true then (n : Int) else -1) := by
  have r : rd_T27 [(⟨a, b, l⟩ : S27)] 0 = ⟨a, b, l⟩ := rfl
  refine all_loop (List.range n) 1001 (fun k => decide ((k : Int) ∈ l)) (-1) (n : Int) (fun k i => spec_l17Most.l1 k ((n : Int) - 1) i [(⟨a, b, l⟩ : S27)]) ?_ ?_ k0 (by rw [List.length_range]; omega)
  · intro k i hi hk
    rw [List.length_range] at hi
    simp only [spec_l17Most.l1, r]
    rw [if_pos (by omega), if_pos (by simp), has_eq l i (by omega) k (by omega), wnat (by omega), List.getElem_range]
    rfl
  · intro k hk
    rw [List.length_range]
    simp only [spec_l17Most.l1, r]
    rw [if_neg (by omega), w64 (by omega) (by omega)]
    congr 1
    omega

theorem most0 (a b : Int) (l : List Int) (hl : l.length ≤ 1000) (hp : 0 < l.length) : ∀ (n i : Nat) (t : Int) (k : Nat), i + n = l.length → 2100 + n < k → -1 ≤ t → t ≤ 35 → (l.take i).all inR = true → t = (l.take i).foldl mxf (-1) →
    spec_l17Most.l0 k t (i : Int) [(⟨a, b, l⟩ : S27)] = some (if l.all inR = true ∧ (List.range (top l).toNat).all (fun k => decide ((k : Int) ∈ l)) = true then top l else -1) := by
  have r : rd_T27 [(⟨a, b, l⟩ : S27)] 0 = ⟨a, b, l⟩ := rfl
  intro n
  induction n with
  | zero =>
    intro i t k hi hk h0 h1 ha ht
    obtain ⟨k, rfl⟩ : ∃ m, k = m + 1 := ⟨k - 1, by omega⟩
    obtain rfl : i = l.length := by omega
    rw [List.take_length] at ha ht
    have htop : top l = t + 1 := by rw [ht]; rfl
    have hall : ∀ x ∈ l, 0 ≤ x ∧ x ≤ 35 := fun x hx => by simpa [inR] using List.all_eq_true.1 ha x hx
    have hpos := top_pos hp hall
    simp only [spec_l17Most.l0, r]
    rw [if_pos (by simp), if_neg (by omega)]
    have := most1 a b l hl (top l).toNat (by omega) k (by omega)
    rw [show (((top l).toNat : Nat) : Int) = top l by omega, show top l - 1 = t by omega] at this
    rw [this]
    simp only [ha, true_and]
  | succ n ih =>
    intro i t k hi hk h0 h1 ha ht
    obtain ⟨k, rfl⟩ : ∃ m, k = m + 1 := ⟨k - 1, by omega⟩
    have hlt : i < l.length := by omega
    simp only [spec_l17Most.l0, r]
    rw [if_pos (by simp), if_pos (by omega), if_pos (by omega), rdi l i hlt, l00In_eq, l00Max_eq, wnat (by omega)]
    simp only [Option.bind_some, decide_eq_true_eq]
    by_cases h : 0 ≤ l[i] ∧ l[i] ≤ 35
    · rw [if_pos h]
      have m := mxf_eq t l[i]
      refine ih (i + 1) (mxf t l[i]) k (by omega) (by omega) (by omega) (by omega) ?_ ?_
      · rw [List.take_succ_eq_append_getElem hlt, List.all_append, ha, Bool.true_and]
        simp [inR, h]
      · rw [List.take_succ_eq_append_getElem hlt, List.foldl_append, ← ht]; rfl
    · rw [if_neg h, if_neg]
      rintro ⟨h2, _⟩
      have := List.all_eq_true.1 h2 _ (List.getElem_mem hlt)
      exact h (by simpa [inR] using this)

theorem specOk {a b : Int} {l : List Int} (k : Nat) (hk : 9000 < k) : spec_l17Ok.f k [(⟨a, b, l⟩ : S27)] = some (okT a b l) := by
  have r : rd_T27 [(⟨a, b, l⟩ : S27)] 0 = ⟨a, b, l⟩ := rfl
  obtain ⟨k, rfl⟩ : ∃ m, k = m + 1 := ⟨k - 1, by omega⟩
  unfold spec_l17Ok.f okT
  rw [if_pos (by simp), r, l00In_eq, l00In_eq]
  simp only [Option.bind_some, spec_l17Ok.j0]
  by_cases ha : 1 ≤ a ∧ a ≤ 12
  · by_cases hb : 1 ≤ b ∧ b ≤ 12
    · have m12 := mul12 ha hb
      rw [w64 (x := a * b) (by omega) (by omega)]
      by_cases hm : (l.length : Int) = a * b
      · have hp : 0 < l.length := by omega
        simp only [ha, hb, hm, and_self, decide_true, if_true, bne_self_eq_false, Bool.false_eq_true, if_false, Bool.true_and]
        have hmost := most0 a b l (by omega) hp l.length 0 (-1) k (by omega) (by omega) (by omega) (by omega) (by simp) (by simp)
        rw [show ((0 : Nat) : Int) = 0 from rfl] at hmost
        rw [show spec_l17Most.f k [(⟨a, b, l⟩ : S27)] = spec_l17Most.l0 k (-1) 0 [(⟨a, b, l⟩ : S27)] from rfl, hmost]
        simp only [Option.bind_some]
        show spec_l17Ok.l0 k _ 0 _ = some ((l.all inR) && _)
        by_cases hin : l.all inR = true
        · have hall : ∀ x ∈ l, 0 ≤ x ∧ x ≤ 35 := fun x hx => by simpa [inR] using List.all_eq_true.1 hin x hx
          have hpos := top_pos hp hall
          by_cases hocc : (List.range (top l).toNat).all (fun k => decide ((k : Int) ∈ l)) = true
          · rw [if_pos ⟨hin, hocc⟩]
            have hl0 := all_loop (List.range (top l).toNat) 3500 (fun k => conn a b l k) false true (fun k i => spec_l17Ok.l0 k (top l) i [(⟨a, b, l⟩ : S27)]) (by
              intro k i hi hk
              have hi2 := hi
              rw [List.length_range] at hi2
              have hmem : (i : Int) ∈ l := by
                have := List.all_eq_true.1 hocc i (List.mem_range.2 hi2)
                simpa using this
              simp only [spec_l17Ok.l0]
              rw [if_pos (by omega), specJoined ha hb hm i hmem k (by omega), wnat (by omega), List.getElem_range]
              rfl) (by
              intro k hk
              rw [List.length_range]
              simp only [spec_l17Ok.l0]
              rw [if_neg (by omega)]
              simp; omega) k (by rw [List.length_range]; omega)
            rw [hl0]
            simp only [Option.bind_some, hin, Bool.true_and]
            congr 1
            rw [Bool.eq_iff_iff]
            simp only [List.all_eq_true, Bool.and_eq_true] at hocc ⊢
            constructor
            · intro h
              split at h
              · rename_i h2; exact fun x hx => ⟨hocc x hx, h2 x hx⟩
              · cases h
            · intro h
              rw [if_pos (fun x hx => (h x hx).2)]
          · rw [if_neg (fun h => hocc h.2)]
            obtain ⟨k, rfl⟩ : ∃ m, k = m + 1 := ⟨k - 1, by omega⟩
            simp only [spec_l17Ok.l0]
            rw [if_neg (by omega)]
            simp only [Option.bind_some, hin, Bool.true_and]
            congr 1
            symm
            rw [show decide ((-1 : Int) > 0) = false from rfl, Bool.eq_false_iff]
            intro h
            refine hocc (List.all_eq_true.2 fun x hx => ?_)
            have := List.all_eq_true.1 h x hx
            rw [Bool.and_eq_true] at this
            exact this.1
        · rw [if_neg (fun h => hin h.1)]
          obtain ⟨k, rfl⟩ : ∃ m, k = m + 1 := ⟨k - 1, by omega⟩
          simp only [spec_l17Ok.l0]
          rw [if_neg (by omega)]
          simp [hin]
      · simp [ha, hb, hm]
    · simp [ha, hb]
  · simp [ha]

theorem foldmx (l : List Int) : ∀ (t : Int), l.foldl mx t = l.foldl mxf t := by
  induction l with
  | nil => intro t; rfl
  | cons x l ih =>
    intro t
    rw [List.foldl_cons, List.foldl_cons, ih]
    congr 1
    unfold mx mxf
    by_cases h : t > x
    · rw [if_neg (by omega), if_pos h]
    · rw [if_neg h]
      by_cases h2 : t < x
      · rw [if_pos h2]
      · rw [if_neg h2]; omega

theorem implMax (l : List Int) (hp : 0 < l.length) (hl : l.length ≤ 1000) (k : Nat) (hk : 1100 < k) : slices_Max_int64_int64.f k l = some ((l.drop 1).foldl mx l[0]) := by
  unfold slices_Max_int64_int64.f
  rw [if_neg (by omega), if_pos (by omega)]
  have : ∀ (n i : Nat) (t : Int) (k : Nat), i + n = l.length → n < k → slices_Max_int64_int64.l0 k l t (i : Int) = some ((l.drop i).foldl mx t) := by
    intro n
    induction n with
    | zero =>
      intro i t k hi hk
      obtain ⟨k, rfl⟩ : ∃ m, k = m + 1 := ⟨k - 1, by omega⟩
      obtain rfl : i = l.length := by omega
      simp only [slices_Max_int64_int64.l0]
      rw [if_neg (by omega), List.drop_length]; rfl
    | succ n ih =>
      intro i t k hi hk
      obtain ⟨k, rfl⟩ : ∃ m, k = m + 1 := ⟨k - 1, by omega⟩
      have hlt : i < l.length := by omega
      simp only [slices_Max_int64_int64.l0]
      rw [if_pos (by omega), if_pos (by omega), rdi l i hlt, wnat (by omega), ih (i + 1) _ k (by omega) (by omega), List.drop_eq_getElem_cons hlt, List.foldl_cons]
  rw [show rd l 0 = l[0] from rdi l 0 hp]
  exact this (l.length - 1) 1 _ k (by omega) (by omega)

theorem foldmin (l : List Int) : ∀ t : Int, l.foldl mn t ≤ t ∧ (∀ x ∈ l, l.foldl mn t ≤ x) ∧ (l.foldl mn t = t ∨ l.foldl mn t ∈ l) := by
  induction l with
  | nil => intro t; simp
  | cons x l ih =>
    intro t
    rw [List.foldl_cons]
    obtain ⟨h1, h2, h3⟩ := ih (mn t x)
    have m : (mn t x ≤ t ∧ mn t x ≤ x) ∧ (mn t x = t ∨ mn t x = x) := by
      unfold mn
      by_cases h : x < t
      · rw [if_pos h]; exact ⟨⟨by omega, Int.le_refl _⟩, Or.inr rfl⟩
      · rw [if_neg h]; exact ⟨⟨Int.le_refl _, by omega⟩, Or.inl rfl⟩
    obtain ⟨⟨m1, m2⟩, m3⟩ := m
    refine ⟨by omega, ?_, ?_⟩
    · intro y hy
      rcases List.mem_cons.1 hy with rfl | hy
      · omega
      · exact h2 y hy
    · rcases h3 with h3 | h3
      · rw [h3]
        rcases m3 with m3 | m3
        · exact Or.inl m3
        · exact Or.inr (by rw [m3]; simp)
      · exact Or.inr (List.mem_cons_of_mem _ h3)

theorem implMin (l : List Int) (hp : 0 < l.length) (hl : l.length ≤ 1000) (k : Nat) (hk : 1100 < k) : slices_Min_int64_int64.f k l = some ((l.drop 1).foldl mn l[0]) := by
  unfold slices_Min_int64_int64.f
  rw [if_neg (by omega), if_pos (by omega)]
  have : ∀ (n i : Nat) (t : Int) (k : Nat), i + n = l.length → n < k → slices_Min_int64_int64.l0 k l t (i : Int) = some ((l.drop i).foldl mn t) := by
    intro n
    induction n with
    | zero =>
      intro i t k hi hk
      obtain ⟨k, rfl⟩ : ∃ m, k = m + 1 := ⟨k - 1, by omega⟩
      obtain rfl : i = l.length := by omega
      simp only [slices_Min_int64_int64.l0]
      rw [if_neg (by omega), List.drop_length]; rfl
    | succ n ih =>
      intro i t k hi hk
      obtain ⟨k, rfl⟩ : ∃ m, k = m + 1 := ⟨k - 1, by omega⟩
      have hlt : i < l.length := by omega
      simp only [slices_Min_int64_int64.l0]
      rw [if_pos (by omega), if_pos (by omega), rdi l i hlt, wnat (by omega), ih (i + 1) _ k (by omega) (by omega), List.drop_eq_getElem_cons hlt, List.foldl_cons]
  rw [show rd l 0 = l[0] from rdi l 0 hp]
  exact this (l.length - 1) 1 _ k (by omega) (by omega)

theorem cons_drop (l : List Int) (hp : 0 < l.length) : l = l[0] :: l.drop 1 := by
  have := List.drop_eq_getElem_cons hp
  rwa [List.drop_zero] at this

theorem max_top (l : List Int) (hp : 0 < l.length) (h0 : ∀ x ∈ l, 0 ≤ x) : (l.drop 1).foldl mx l[0] = top l - 1 := by
  rw [foldmx]
  obtain ⟨a1, a2, a3⟩ := foldmax (l.drop 1) l[0]
  have hc := cons_drop l hp
  have e := top_of (l := l) (m := (l.drop 1).foldl mxf l[0]) (fun x hx => by
    rw [hc] at hx
    rcases List.mem_cons.1 hx with rfl | hx
    · exact a1
    · exact a2 x hx) (by
    rcases a3 with a3 | a3
    · rw [a3]; exact List.getElem_mem hp
    · exact List.mem_of_mem_drop a3) h0
  omega

theorem implIndexOf (l : List Int) (hl : l.length ≤ 1000) (kk : Int) (k : Nat) (hk : 1100 < k) : slices_Index_int64_int64.f k l kk = some (fstOf kk 0 l) := by
  unfold slices_Index_int64_int64.f
  have : ∀ (n i : Nat) (k : Nat), i + n = l.length → n < k → slices_Index_int64_int64.l0 k l kk (l.length : Int) (i : Int) = some (fstOf kk i (l.drop i)) := by
    intro n
    induction n with
    | zero =>
      intro i k hi hk
      obtain ⟨k, rfl⟩ : ∃ m, k = m + 1 := ⟨k - 1, by omega⟩
      obtain rfl : i = l.length := by omega
      simp only [slices_Index_int64_int64.l0]
      rw [if_neg (by omega), List.drop_length]; rfl
    | succ n ih =>
      intro i k hi hk
      obtain ⟨k, rfl⟩ : ∃ m, k = m + 1 := ⟨k - 1, by omega⟩
      have hlt : i < l.length := by omega
      simp only [slices_Index_int64_int64.l0]
      rw [if_pos (by omega), if_pos (by omega), if_pos (by omega), rdi l i hlt, wnat (by omega), ih (i + 1) k (by omega) (by omega), List.drop_eq_getElem_cons hlt]
      show _ = some (if l[i] = kk then (i : Int) else fstOf kk ((i : Int) + 1) (l.drop (i + 1)))
      by_cases h : kk = l[i]
      · rw [if_pos h, if_pos h.symm]
      · rw [if_neg h, if_neg (fun e => h e.symm)]; rfl
  exact this l.length 0 k (by omega) (by omega)

/-- what the list of flags tells -/
def Flags (N : Nat) (met : List Bool) (q : List Int) : Prop := met.length = N ∧ ∀ c : Int, 0 ≤ c → c < N → rdOf false met c = decide (c ∈ q)

theorem flags_set {N : Nat} {met : List Bool} {q : List Int} (h : Flags N met q) (c : Int) (c0 : 0 ≤ c) (c1 : c < N) : Flags N (met.set c.toNat true) (q ++ [c]) := by
  refine ⟨by rw [List.length_set]; exact h.1, fun x x0 x1 => ?_⟩
  have hx := h.2 x x0 x1
  have hl := h.1
  unfold rdOf at hx ⊢
  simp only [List.getD_eq_getElem?_getD, List.getElem?_set] at hx ⊢
  by_cases e : c.toNat = x.toNat
  · obtain rfl : c = x := by omega
    rw [if_pos rfl, if_pos (by omega)]
    simp
  · rw [if_neg e, hx]
    have : ¬ x = c := fun e2 => e (by rw [e2])
    simp [this]

theorem implIn {a b : Int} {l : List Int} (kk cnt i nn kk2 c0 c1 c2 c3 : Int) : ∀ (cs dn q : List Int) (met : List Bool), Flags l.length met q → [c0, c1, c2, c3] = dn ++ cs → q.length + cs.length ≤ 400 → (∀ c ∈ cs, 0 ≤ c ∧ c < (l.length : Int)) → ∃ met', Flags l.length met' (pushes (fun c => decide (rd l c = kk)) q cs) ∧ ∀ (f k : Nat), f = k + cs.length + 1 →
    impl_ValidTiling.l2 f kk met q cnt i nn kk2 (dn.length : Int) c0 c1 c2 c3 a b l = impl_ValidTiling.l1 k kk met' (pushes (fun c => decide (rd l c = kk)) q cs) cnt (wrap64 (i + 1)) nn kk2 a b l := by
  intro cs
  induction cs with
  | nil =>
    intro dn q met hf hd hq hc
    refine ⟨met, hf, fun f k hfk => ?_⟩
    obtain rfl : f = k + 1 := by simpa using hfk
    have h4 : dn.length = 4 := by have := congrArg List.length hd; simpa using this.symm
    simp only [impl_ValidTiling.l2]
    rw [if_neg (by omega)]
    rfl
  | cons c cs ih =>
    intro dn q met hf hd hq hc
    rw [List.length_cons] at hq
    have h4 : dn.length + cs.length + 1 = 4 := by have := congrArg List.length hd; simp at this; omega
    obtain ⟨d0, d1⟩ := hc c (by simp)
    have hrd : rd [c0, c1, c2, c3] (dn.length : Int) = c := by rw [hd]; exact rd_mid dn c cs
    have hi := fun q' met' hf' (hq' : q'.length ≤ q.length + 1) => ih (dn ++ [c]) q' met' hf' (by rw [hd]; simp) (by omega) (fun x hx => hc x (List.mem_cons_of_mem _ hx))
    rw [List.length_append, List.length_singleton] at hi
    have step : ∀ f, impl_ValidTiling.l2 (f + 1) kk met q cnt i nn kk2 (dn.length : Int) c0 c1 c2 c3 a b l = (if rd l c = kk then (if decide (c ∈ q) = true then impl_ValidTiling.l2 f kk met q cnt i nn kk2 ((dn.length + 1 : Nat) : Int) c0 c1 c2 c3 a b l else impl_ValidTiling.l2 f kk (met.set c.toNat true) (q ++ [c]) cnt i nn kk2 ((dn.length + 1 : Nat) : Int) c0 c1 c2 c3 a b l) else impl_ValidTiling.l2 f kk met q cnt i nn kk2 ((dn.length + 1 : Nat) : Int) c0 c1 c2 c3 a b l) := by
      intro f
      have hl := hf.1
      simp only [impl_ValidTiling.l2, hrd]
      rw [if_pos (by omega), if_pos (by omega), if_pos d0, if_pos d1, wnat (by omega), if_pos (by omega : c < (met.length : Int)), hf.2 c d0 d1, if_pos (by omega : q.length < 17592186044416)]
    show ∃ met', Flags l.length met' (pushes (fun c => decide (rd l c = kk)) (push (fun c => decide (rd l c = kk)) q c) cs) ∧ _
    by_cases hp : rd l c = kk
    · by_cases hm : c ∈ q
      · have e : push (fun c => decide (rd l c = kk)) q c = q := by unfold push; rw [if_neg (by simp [hm])]
        rw [e]
        obtain ⟨met', g1, g2⟩ := hi q met hf (by omega)
        refine ⟨met', g1, fun f k hfk => ?_⟩
        rw [List.length_cons] at hfk
        obtain ⟨f, rfl⟩ : ∃ m, f = m + 1 := ⟨f - 1, by omega⟩
        rw [step f, if_pos hp, if_pos (by simp [hm]), g2 f k (by omega)]
        show _ = impl_ValidTiling.l1 k kk met' (pushes _ (push _ q c) cs) _ _ _ _ _ _ _
        rw [e]
      · have e : push (fun c => decide (rd l c = kk)) q c = q ++ [c] := by unfold push; rw [if_pos (by simp [hm, hp])]
        rw [e]
        obtain ⟨met', g1, g2⟩ := hi (q ++ [c]) (met.set c.toNat true) (flags_set hf c d0 d1) (by simp)
        refine ⟨met', g1, fun f k hfk => ?_⟩
        rw [List.length_cons] at hfk
        obtain ⟨f, rfl⟩ : ∃ m, f = m + 1 := ⟨f - 1, by omega⟩
        rw [step f, if_pos hp, if_neg (by simp [hm]), g2 f k (by omega)]
        show _ = impl_ValidTiling.l1 k kk met' (pushes _ (push _ q c) cs) _ _ _ _ _ _ _
        rw [e]
    · have e : push (fun c => decide (rd l c = kk)) q c = q := by unfold push; rw [if_neg (by simp [hp])]
      rw [e]
      obtain ⟨met', g1, g2⟩ := hi q met hf (by omega)
      refine ⟨met', g1, fun f k hfk => ?_⟩
      rw [List.length_cons] at hfk
      obtain ⟨f, rfl⟩ : ∃ m, f = m + 1 := ⟨f - 1, by omega⟩
      rw [step f, if_neg hp, g2 f k (by omega)]
      show _ = impl_ValidTiling.l1 k kk met' (pushes _ (push _ q c) cs) _ _ _ _ _ _ _
      rw [e]

theorem implOut {a b : Int} {l : List Int} (ha : 1 ≤ a ∧ a ≤ 12) (hb : 1 ≤ b ∧ b ≤ 12) (hm : (l.length : Int) = a * b) (kk nn kk2 first : Int) (R : Int → Option Bool) (K1 : Nat)
    (hR : ∀ k c, K1 < k → 0 ≤ c → c ≤ 400 → impl_ValidTiling.l3 k kk c nn kk2 l (l.length : Int) 0 a b l = R c) : ∀ (n : Nat) (q : List Int) (met : List Bool) (i : Nat), l.length ≤ i + n → Met (fun c => decide (rd l c = kk)) (nbI a b) first q i → Flags l.length met q → (∀ x ∈ q, 0 ≤ x ∧ x < (l.length : Int)) → ∀ k, 6 * n + K1 + 400 < k →
    impl_ValidTiling.l1 k kk met q (i : Int) (i : Int) nn kk2 a b l = R ((flood (fun c => decide (rd l c = kk)) (nbI a b) n q i).length : Int) := by
  have m12 := mul12 ha hb
  intro n
  induction n with
  | zero =>
    intro q met i hi m hf hq k hk
    have := m.few l.length hq
    have := m.hi
    obtain ⟨k, rfl⟩ : ∃ m, k = m + 1 := ⟨k - 1, by omega⟩
    simp only [impl_ValidTiling.l1]
    rw [if_neg (by omega), hR k _ (by omega) (by omega) (by omega)]
    obtain rfl : i = q.length := by omega
    rfl
  | succ n ih =>
    intro q met i hi m hf hq k hk
    have h1 := m.few l.length hq
    have h2 := m.hi
    obtain ⟨k, rfl⟩ : ∃ m, k = m + 6 := ⟨k - 6, by omega⟩
    by_cases h : i < q.length
    · have hx := hq _ (List.getElem_mem h)
      have hn : ∀ c ∈ nbI a b q[i], 0 ≤ c ∧ c < (l.length : Int) := fun c hc => by rw [hm]; exact nbS_in ha hb _ c ((nb_same a b _ c).2 hc)
      obtain ⟨met', g1, g2⟩ := implIn (a := a) (b := b) kk ((i + 1 : Nat) : Int) i nn kk2 _ _ _ _ (nbI a b q[i]) [] q met hf rfl (by show q.length + 4 ≤ 400; omega) hn
      rw [show impl_ValidTiling.l1 (k + 6) kk met q (i : Int) (i : Int) nn kk2 a b l = impl_ValidTiling.l2 (k + 5) kk met q ((i + 1 : Nat) : Int) (i : Int) nn kk2 ((([] : List Int).length : Nat) : Int) (idx a b (q[i] % a + 1) (q[i] / a)) (idx a b (q[i] % a - 1) (q[i] / a)) (idx a b (q[i] % a) (q[i] / a + 1)) (idx a b (q[i] % a) (q[i] / a - 1)) a b l by
        simp only [impl_ValidTiling.l1]
        rw [if_pos (by omega), if_pos (by omega), rdi q i h, implAround l ha hb _ (by omega)]
        simp only [Option.bind_some]
        rw [wnat (by omega)]
        rfl]
      rw [g2 (k + 5) k rfl, wnat (by omega)]
      rw [ih _ met' (i + 1) (by omega) (m.next h) g1 (pushes_in hq hn) k (by omega)]
      rw [show flood (fun c => decide (rd l c = kk)) (nbI a b) (n + 1) q i = flood (fun c => decide (rd l c = kk)) (nbI a b) n (pushes (fun c => decide (rd l c = kk)) q (nbI a b q[i])) (i + 1) by
        simp only [flood]; rw [dif_pos h]]
    · rw [show flood (fun c => decide (rd l c = kk)) (nbI a b) (n + 1) q i = q by simp only [flood]; rw [dif_neg h]]
      simp only [impl_ValidTiling.l1]
      rw [if_neg (by omega), hR _ _ (by omega) (by omega) (by omega)]
      obtain rfl : i = q.length := by omega
      rfl

theorem implCount {a b : Int} {l : List Int} (hl : l.length ≤ 1000) (kk nn kk2 : Int) (R : Option Bool) (K1 : Nat) (hR : ∀ k, K1 < k → impl_ValidTiling.l0 k nn (wrap64 (kk2 + 1)) a b l = R) : ∀ (n i : Nat) (c : Int) (k : Nat), i + n = l.length → K1 + n + 1 < k → -2000 ≤ c - n → c ≤ 2000 →
    impl_ValidTiling.l3 k kk c nn kk2 l (l.length : Int) (i : Int) a b l = if c = (many kk (l.drop i) : Int) then R else some false := by
  intro n
  induction n with
  | zero =>
    intro i c k hi hk h0 h1
    obtain ⟨k, rfl⟩ : ∃ m, k = m + 1 := ⟨k - 1, by omega⟩
    obtain rfl : i = l.length := by omega
    simp only [impl_ValidTiling.l3]
    rw [if_neg (by omega), hR k (by omega), List.drop_length]
    rfl
  | succ n ih =>
    intro i c k hi hk h0 h1
    obtain ⟨k, rfl⟩ : ∃ m, k = m + 1 := ⟨k - 1, by omega⟩
    have hlt : i < l.length := by omega
    simp only [impl_ValidTiling.l3]
    rw [if_pos (by omega), if_pos (by omega), if_pos (by omega), rdi l i hlt, wnat (by omega)]
    by_cases h : l[i] = kk
    · have e : many kk (l.drop i) = many kk (l.drop (i + 1)) + 1 := by
        rw [List.drop_eq_getElem_cons hlt]
        unfold many; rw [List.filter_cons_of_pos (by simp [h]), List.length_cons]
      rw [if_pos h, w64 (x := c - 1) (by omega) (by omega), ih (i + 1) (c - 1) k (by omega) (by omega) (by omega) (by omega), e]
      by_cases h2 : c - 1 = (many kk (l.drop (i + 1)) : Int)
      · rw [if_pos h2, if_pos (by omega)]
      · rw [if_neg h2, if_neg (by omega)]
    · have e : many kk (l.drop i) = many kk (l.drop (i + 1)) := by
        rw [List.drop_eq_getElem_cons hlt]
        unfold many; rw [List.filter_cons_of_neg (by simp [h])]
      rw [if_neg h, ih (i + 1) c k (by omega) (by omega) (by omega) (by omega), e]

theorem implTiles {a b : Int} {l : List Int} (ha : 1 ≤ a ∧ a ≤ 12) (hb : 1 ≤ b ∧ b ≤ 12) (hm : (l.length : Int) = a * b) (nn : Nat) (hnn : nn ≤ 36) : ∀ (m j k : Nat), j + m = nn → 2000 * m + 10 < k →
    impl_ValidTiling.l0 k (nn : Int) (j : Int) a b l = some ((List.range' j m).all (fun k => decide ((k : Int) ∈ l) && conn a b l k)) := by
  have m12 := mul12 ha hb
  intro m
  induction m with
  | zero =>
    intro j k hj hk
    obtain ⟨k, rfl⟩ : ∃ m, k = m + 1 := ⟨k - 1, by omega⟩
    simp only [impl_ValidTiling.l0]
    rw [if_neg (by omega)]
    rfl
  | succ m ih =>
    intro j k hj hk
    obtain ⟨k, rfl⟩ : ∃ m, k = m + 1 := ⟨k - 1, by omega⟩
    rw [List.range'_succ, List.all_cons]
    simp only [impl_ValidTiling.l0]
    rw [if_pos (by omega), implIndexOf l (by omega) j k (by omega)]
    simp only [Option.bind_some]
    have hf := fstOf_in (j : Int) l 0 (by omega)
    by_cases hk2 : (j : Int) ∈ l
    · rw [if_pos hk2] at hf
      rw [if_neg (by omega), if_pos (by omega), if_pos (by omega), if_pos hf.1, List.length_replicate, if_pos (by omega)]
      have hs : ∀ x ∈ [fstOf (j : Int) 0 l], 0 ≤ x ∧ x < (l.length : Int) := fun x hx => by rw [List.mem_singleton] at hx; subst hx; omega
      have hfl : Flags l.length ((List.replicate ((l.length : Int)).toNat false).set (fstOf (j : Int) 0 l).toNat true) [fstOf (j : Int) 0 l] := by
        have : Flags l.length (List.replicate ((l.length : Int)).toNat false) [] := ⟨by simp, fun c c0 c1 => by
          unfold rdOf
          simp [List.getD_eq_getElem?_getD, List.getElem?_replicate]
          split <;> rfl⟩
        exact flags_set this _ hf.1 (by omega)
      have ho := implOut ha hb hm (j : Int) (nn : Int) (j : Int) (fstOf (j : Int) 0 l) (fun c => if c = (many (j : Int) l : Int) then some ((List.range' (j + 1) m).all (fun k => decide ((k : Int) ∈ l) && conn a b l k)) else some false) (2000 * m + 170) (by
        intro k c hk c0 c1
        have := implCount (a := a) (b := b) (l := l) (by omega) (j : Int) (nn : Int) (j : Int) (some ((List.range' (j + 1) m).all (fun k => decide ((k : Int) ∈ l) && conn a b l k))) (2000 * m + 10) (fun k hk => by rw [wnat (by omega)]; exact ih (j + 1) k (by omega) hk) l.length 0 c k (by omega) (by omega) (by omega) (by omega)
        rw [show ((0 : Nat) : Int) = 0 from rfl, List.drop_zero] at this
        exact this) l.length [fstOf (j : Int) 0 l] _ 0 (by omega) (Met.start _ _ _) hfl hs k (by omega)
      rw [show ((0 : Nat) : Int) = 0 from rfl] at ho
      rw [ho, conn_I ha hb hm hk2]
      unfold conn
      simp only [hk2, decide_true, Bool.true_and]
      by_cases h : (flood (fun c => decide (rd l c = (j : Int))) (nbS a b) l.length [fstOf (j : Int) 0 l] 0).length = many (j : Int) l
      · rw [if_pos (by omega)]; simp [h]
      · rw [if_neg (by omega)]; simp [h]
    · rw [if_neg hk2] at hf
      rw [if_pos (by omega)]
      simp [hk2]

theorem implTiling {a b : Int} {l : List Int} (k : Nat) (hk : 90000 < k) : impl_ValidTiling.f k a b l = some (okT a b l) := by
  obtain ⟨k, rfl⟩ : ∃ m, k = m + 2 := ⟨k - 2, by omega⟩
  unfold impl_ValidTiling.f okT
  rw [within_eq, within_eq]
  simp only [Option.bind_some, impl_ValidTiling.j0]
  by_cases ha : 1 ≤ a ∧ a ≤ 12
  · by_cases hb : 1 ≤ b ∧ b ≤ 12
    · have m12 := mul12 ha hb
      rw [w64 (x := a * b) (by omega) (by omega)]
      by_cases hm : (l.length : Int) = a * b
      · have hp : 0 < l.length := by omega
        simp only [ha, hb, hm, and_self, decide_true, if_true, bne_self_eq_false, Bool.false_eq_true, if_false, Bool.true_and]
        rw [implMin l hp (by omega) (k + 1) (by omega), implMax l hp (by omega) (k + 1) (by omega)]
        simp only [Option.bind_some]
        show _ = some ((l.all inR) && _)
        obtain ⟨a1, a2, a3⟩ := foldmin (l.drop 1) l[0]
        obtain ⟨b1, b2, b3⟩ := foldmax (l.drop 1) l[0]
        have hc := cons_drop l hp
        by_cases h1 : (l.drop 1).foldl mn l[0] < 0
        · rw [if_pos h1]
          simp only [impl_ValidTiling.j1, if_true]
          rw [show l.all inR = false by
            rw [Bool.eq_false_iff]
            intro h
            have hx : (l.drop 1).foldl mn l[0] ∈ l := by
              rcases a3 with a3 | a3
              · rw [a3]; exact List.getElem_mem hp
              · exact List.mem_of_mem_drop a3
            have := List.all_eq_true.1 h _ hx
            unfold inR at this
            rw [decide_eq_true_eq] at this
            omega]
          rfl
        · rw [if_neg h1]
          have h0 : ∀ x ∈ l, 0 ≤ x := by
            intro x hx
            rw [hc] at hx
            rcases List.mem_cons.1 hx with rfl | hx
            · omega
            · have := a2 x hx; omega
          rw [max_top l hp h0]
          by_cases h2 : top l - 1 ≥ 36
          · simp only [h2, decide_true, impl_ValidTiling.j1, if_true]
            rw [show l.all inR = false by
              rw [Bool.eq_false_iff]
              intro h
              have hall : ∀ x ∈ l, 0 ≤ x ∧ x ≤ 35 := fun x hx => by simpa [inR] using List.all_eq_true.1 h x hx
              have := top_pos hp hall
              omega]
            rfl
          · have hin : l.all inR = true := by
              rw [List.all_eq_true]
              intro x hx
              have e := max_top l hp h0
              rw [foldmx] at e
              have h3 := h0 x hx
              have h4 : x ≤ (l.drop 1).foldl mxf l[0] := by
                rw [hc] at hx
                rcases List.mem_cons.1 hx with rfl | hx
                · exact b1
                · exact b2 x hx
              unfold inR
              rw [decide_eq_true_eq]
              omega
            have hall : ∀ x ∈ l, 0 ≤ x ∧ x ≤ 35 := fun x hx => by simpa [inR] using List.all_eq_true.1 hin x hx
            have htp := top_pos hp hall
            simp only [h2, decide_false, impl_ValidTiling.j1, Bool.false_eq_true, if_false, impl_tiles.f]
            rw [implMax l hp (by omega) k (by omega), max_top l hp h0]
            simp only [Option.bind_some]
            rw [w64 (by omega) (by omega), show top l - 1 + 1 = (((top l).toNat : Nat) : Int) by omega]
            have := implTiles ha hb hm (top l).toNat (by omega) (top l).toNat 0 k (by omega) (by omega)
            rw [show ((0 : Nat) : Int) = 0 from rfl] at this
            rw [this, hin, List.range_eq_range']
            rfl
      · simp [ha, hb, hm]
    · simp [ha, hb]
  · simp [ha]

theorem okT_spec {a b : Int} {l : List Int} (h : okT a b l = true) : (1 ≤ a ∧ a ≤ 12) ∧ (1 ≤ b ∧ b ≤ 12) ∧ (l.length : Int) = a * b ∧ (∀ x ∈ l, 0 ≤ x ∧ x ≤ 35) := by
  unfold okT at h
  simp only [Bool.and_eq_true, decide_eq_true_eq, List.all_eq_true] at h
  exact ⟨h.1, h.2.1, h.2.2.1, h.2.2.2.1⟩

theorem itoa_len (n : Int) (h0 : -9223372036854775808 ≤ n) (h1 : n ≤ 9223372036854775807) : (Lib.itoa n).length ≤ 21 := Lib.itoa_length_le n h0 h1

theorem fmt_eq (n : Int) (h0 : -9223372036854775808 ≤ n) (h1 : n ≤ 9223372036854775807) : impl_Decimal.f n [()] = some ⟨(Lib.itoa n).toArray⟩ := by
  unfold impl_Decimal.f Go.Proofs.YtopopjkoanpjiaaDoorX.strconv_FormatInt.f
  rw [if_pos ⟨rfl, rfl, h0, h1⟩]; rfl

/-- digits, the last first -/
def digs (u : Nat) : List Int := if h : u = 0 then [] else (48 + (u % 10 : Nat) : Int) :: digs (u / 10)
termination_by u
decreasing_by omega

def toB (xs : List Int) : List UInt8 := xs.map fun x => UInt8.ofNat x.toNat

theorem strOf_eq (xs : List Int) : strOfNums xs = ⟨(toB xs).toArray⟩ := by
  unfold strOfNums toB
  simp

theorem digs_dec : ∀ (u : Nat), 0 < u → toB (digs u).reverse = Lib.decDigits u := by
  intro u
  induction u using Nat.strongRecOn with
  | ind u ih =>
    intro hu
    rw [digs, dif_neg (by omega), List.reverse_cons]
    by_cases h : u < 10
    · rw [Lib.decDigits_one h, show u / 10 = 0 by omega, digs, dif_pos rfl, show u % 10 = u by omega]
      simp only [toB, List.reverse_nil, List.nil_append, List.map_cons, List.map_nil]
      rw [show ((48 : Int) + (u : Nat)).toNat = 48 + u by omega]
    · have := ih (u / 10) (by omega) (by omega)
      unfold toB at this ⊢
      rw [List.map_append, this, show Lib.decDigits u = Lib.decDigits (u / 10) ++ [UInt8.ofNat (48 + u % 10)] by rw [Lib.decDigits, dif_neg h]]
      simp only [List.map_cons, List.map_nil]
      rw [show ((48 : Int) + ((u % 10 : Nat) : Int)).toNat = 48 + u % 10 by omega]

theorem dec_l1 (xs : List Int) (hx : xs.length ≤ 100) : ∀ (i : Nat) (k : Nat) (out : List Int), i ≤ xs.length → out.length + i ≤ 200 → i < k → spec_l01Dec.l1 k xs out ((i : Int) - 1) = some (strOfNums (out ++ (xs.take i).reverse)) := by
  intro i
  induction i with
  | zero =>
    intro k out _ _ hk
    obtain ⟨k, rfl⟩ : ∃ m, k = m + 1 := ⟨k - 1, by omega⟩
    simp only [spec_l01Dec.l1]
    rw [if_neg (by omega)]; simp
  | succ i ih =>
    intro k out hi ho hk
    obtain ⟨k, rfl⟩ : ∃ m, k = m + 1 := ⟨k - 1, by omega⟩
    have hlt : i < xs.length := by omega
    simp only [spec_l01Dec.l1]
    rw [show ((i + 1 : Nat) : Int) - 1 = (i : Int) by omega, if_pos (by omega), if_pos (by omega), if_pos (by omega), if_pos (by omega), rdi xs i hlt, w64 (by omega) (by omega),
      ih k _ (by omega) (by simp; omega) (by omega), List.take_succ_eq_append_getElem hlt, List.reverse_append]
    simp

theorem dec_j1 (xs : List Int) (hx : xs.length ≤ 100) (k : Nat) (hk : 200 < k) : spec_l01Dec.j1 k xs = some (strOfNums xs.reverse) := by
  obtain ⟨k, rfl⟩ : ∃ m, k = m + 1 := ⟨k - 1, by omega⟩
  simp only [spec_l01Dec.j1]
  rw [w64 (by omega) (by omega), dec_l1 xs hx xs.length k [] (Nat.le_refl _) (by simp; omega) (by omega)]
  simp

theorem dec_l0 (n : Int) : ∀ (d u : Nat) (k : Nat) (out : List Int) (m : Int), (m = u ∨ m = -(u : Int)) → u < 10 ^ d → u ≤ 9223372036854775808 → (m = u → u ≤ 9223372036854775807) → out.length + d ≤ 90 → 300 + d < k →
    spec_l01Dec.l0 k n out m = some (strOfNums (out ++ digs u ++ if n < 0 then [45] else []).reverse) := by
  intro d
  induction d with
  | zero =>
    intro u k out m hm hu _ _ ho hk
    obtain ⟨k, rfl⟩ : ∃ m, k = m + 1 := ⟨k - 1, by omega⟩
    obtain rfl : u = 0 := by simpa using hu
    simp only [spec_l01Dec.l0]
    rw [if_pos (by omega), digs, dif_pos rfl]
    by_cases hn : n < 0
    · rw [if_pos hn, if_pos hn, if_pos (by omega), dec_j1 _ (by simp; omega) k (by omega)]; simp
    · rw [if_neg hn, if_neg hn, dec_j1 _ (by omega) k (by omega)]; simp
  | succ d ih =>
    intro u k out m hm hu hb hp ho hk
    obtain ⟨k, rfl⟩ : ∃ m, k = m + 1 := ⟨k - 1, by omega⟩
    by_cases h0 : u = 0
    · subst h0
      simp only [spec_l01Dec.l0]
      rw [if_pos (by omega), digs, dif_pos rfl]
      by_cases hn : n < 0
      · rw [if_pos hn, if_pos hn, if_pos (by omega), dec_j1 _ (by simp; omega) k (by omega)]; simp
      · rw [if_neg hn, if_neg hn, dec_j1 _ (by omega) k (by omega)]; simp
    · have hq : u / 10 < 10 ^ d := by rw [Nat.pow_succ] at hu; omega
      have e1 : digs u = (48 + ((u % 10 : Nat) : Int)) :: digs (u / 10) := by rw [digs, dif_neg h0]
      have ht : Int.tdiv m 10 = (u / 10 : Nat) ∨ Int.tdiv m 10 = -((u / 10 : Nat) : Int) := by
        rcases hm with rfl | rfl
        · left; rw [Int.tdiv_eq_ediv_of_nonneg (by omega)]; omega
        · right; rw [Int.neg_tdiv, Int.tdiv_eq_ediv_of_nonneg (by omega)]; omega
      have hmod : Int.tmod m 10 = ((u % 10 : Nat) : Int) ∨ Int.tmod m 10 = -((u % 10 : Nat) : Int) := by
        rcases hm with rfl | rfl
        · left; rw [Int.tmod_eq_emod_of_nonneg (by omega)]; omega
        · right; rw [Int.neg_tmod, Int.tmod_eq_emod_of_nonneg (by omega)]; omega
      have hw : wrap64 (Int.tdiv m 10) = Int.tdiv m 10 := w64 (by omega) (by omega)
      have hn := ih (u / 10) k (out ++ [48 + ((u % 10 : Nat) : Int)]) (Int.tdiv m 10) ht hq (by omega) (by omega) (by simp; omega) (by omega)
      simp only [spec_l01Dec.l0]
      rw [if_neg (by omega)]
      by_cases hs : Int.tmod m 10 < 0
      · rw [if_pos hs, if_pos (by omega)]
        have e2 : (wrap64 (48 + wrap64 (-Int.tmod m 10))) % 256 = 48 + ((u % 10 : Nat) : Int) := by
          rw [w64 (x := -Int.tmod m 10) (by omega) (by omega), w64 (by omega) (by omega)]; omega
        rw [e2, hw, hn, e1]; simp
      · rw [if_neg hs, if_pos (by omega)]
        have e2 : (wrap64 (48 + Int.tmod m 10)) % 256 = 48 + ((u % 10 : Nat) : Int) := by
          rw [w64 (by omega) (by omega)]; omega
        rw [e2, hw, hn, e1]; simp

/-- the reference's decimal form is the library's -/
theorem dec_eq (n : Int) (h0 : -9223372036854775808 ≤ n) (h1 : n ≤ 9223372036854775807) (k : Nat) (hk : 400 < k) : spec_l01Dec.f k n = some ⟨(Lib.itoa n).toArray⟩ := by
  unfold spec_l01Dec.f
  by_cases hz : n = 0
  · subst hz
    rw [if_pos rfl]
    have : Lib.itoa 0 = [48] := by unfold Lib.itoa; rw [if_neg (by omega)]; exact Lib.decDigits_one (by omega)
    rw [this]
  · rw [if_neg hz, dec_l0 n 20 n.natAbs k [] n (by omega) (by omega) (by omega) (by omega) (by simp) (by omega), strOf_eq]
    congr 2
    have hd := digs_dec n.natAbs (by omega)
    unfold Lib.itoa
    by_cases hn : n < 0
    · rw [if_pos hn, if_pos hn, ← hd]; simp [toB]
    · rw [if_neg hn, if_neg hn, show n.toNat = n.natAbs by omega, ← hd]; simp

theorem bcat (a b : List UInt8) : (⟨a.toArray⟩ : ByteArray) ++ (⟨b.toArray⟩ : ByteArray) = ⟨(a ++ b).toArray⟩ := by
  apply ByteArray.ext
  simp
theorem bsize (a : List UInt8) : (⟨a.toArray⟩ : ByteArray).size = a.length := by simp [ByteArray.size]
theorem beta_ (s : ByteArray) : s = ⟨s.data.toList.toArray⟩ := by
  apply ByteArray.ext; simp

/-- the text of a list of numbers -/
def ltext (xs : List Int) : List UInt8 := if xs.length = 0 then [45] else Lib.join (xs.map Lib.itoa) [44]
def i64 (n : Int) : Prop := -9223372036854775808 ≤ n ∧ n ≤ 9223372036854775807

theorem joinTail_len (xs : List Int) (hx : ∀ n ∈ xs, i64 n) : (Lib.joinTail [44] (xs.map Lib.itoa)).length ≤ 22 * xs.length := by
  induction xs with
  | nil => simp [Lib.joinTail]
  | cons n xs ih =>
    have h := hx n List.mem_cons_self
    have hl := itoa_len n h.1 h.2
    have hi := ih (fun m hm => hx m (List.mem_cons_of_mem _ hm))
    unfold Lib.joinTail at hi ⊢
    simp only [List.map_cons, List.flatten_cons, List.length_append, List.length_cons, List.length_nil] at hi ⊢
    omega

theorem joinTail_snoc (sep : List UInt8) (r : List (List UInt8)) (x : List UInt8) : Lib.joinTail sep (r ++ [x]) = Lib.joinTail sep r ++ (sep ++ x) := by
  unfold Lib.joinTail; simp

theorem ltext_len (xs : List Int) (hx : ∀ n ∈ xs, i64 n) : (ltext xs).length ≤ 22 * xs.length + 1 := by
  unfold ltext
  cases xs with
  | nil => simp
  | cons n xs =>
    rw [if_neg (by simp), List.map_cons, Lib.join_cons, List.length_append]
    have := joinTail_len xs (fun m hm => hx m (List.mem_cons_of_mem _ hm))
    have h := hx n List.mem_cons_self
    have hl := itoa_len n h.1 h.2
    simp only [List.length_cons]; omega

theorem specList_eq (xs : List Int) (hl : xs.length ≤ 200) (hx : ∀ n ∈ xs, i64 n) (k : Nat) (hk : 700 < k) : spec_l01List.f k xs = some ⟨(ltext xs).toArray⟩ := by
  unfold spec_l01List.f
  cases xs with
  | nil => rfl
  | cons n ys =>
    have hn := hx n List.mem_cons_self
    rw [if_neg (by simp only [List.length_cons]; omega), show ltext (n :: ys) = Lib.itoa n ++ Lib.joinTail [44] (ys.map Lib.itoa) by unfold ltext; rw [if_neg (by simp), List.map_cons, Lib.join_cons]]
    have key : ∀ (d i k : Nat), i + d = ys.length → 450 + d < k → spec_l01List.l0 k (n :: ys) ⟨(Lib.itoa n ++ Lib.joinTail [44] ((ys.take i).map Lib.itoa)).toArray⟩ ((i + 1 : Nat) : Int) = some ⟨(Lib.itoa n ++ Lib.joinTail [44] (ys.map Lib.itoa)).toArray⟩ := by
      intro d
      induction d with
      | zero =>
        intro i k hi hk
        obtain ⟨k, rfl⟩ : ∃ m, k = m + 1 := ⟨k - 1, by omega⟩
        simp only [spec_l01List.l0]
        rw [if_neg (by simp only [List.length_cons]; omega), List.take_of_length_le (by omega)]
      | succ d ih =>
        intro i k hi hk
        obtain ⟨k, rfl⟩ : ∃ m, k = m + 1 := ⟨k - 1, by omega⟩
        have hlt : i < ys.length := by omega
        have hm := hx _ (List.mem_cons_of_mem _ (List.getElem_mem hlt))
        have hml := itoa_len ys[i] hm.1 hm.2
        have hnl := itoa_len n hn.1 hn.2
        have hj := joinTail_len (ys.take i) (fun m h => hx m (List.mem_cons_of_mem _ (List.mem_of_mem_take h)))
        have ht : (ys.take i).length ≤ 200 := by simp only [List.length_cons] at hl; simp; omega
        have hr : rd (n :: ys) ((i + 1 : Nat) : Int) = ys[i] := by rw [rdi (n :: ys) (i + 1) (by simp; omega)]; rfl
        simp only [spec_l01List.l0]
        rw [if_pos (by simp only [List.length_cons]; omega), if_pos (by omega), if_pos (by rw [bsize, List.length_append]; omega), if_pos (by omega), hr, dec_eq _ hm.1 hm.2 k (by omega)]
        simp only [Option.bind_some]
        rw [if_pos (by rw [bsize, bsize, List.length_append]; omega), wnat (by simp only [List.length_cons] at hl; omega)]
        have := ih (i + 1) k (by omega) (by omega)
        rw [List.take_succ_eq_append_getElem hlt, List.map_append, List.map_cons, List.map_nil, joinTail_snoc] at this
        rw [show (⟨#[44]⟩ : ByteArray) = ⟨[44].toArray⟩ from rfl, bcat, bcat]
        rw [show Lib.itoa n ++ Lib.joinTail [44] (List.map Lib.itoa (List.take i ys)) ++ [44] ++ Lib.itoa ys[i] = Lib.itoa n ++ (Lib.joinTail [44] (List.map Lib.itoa (List.take i ys)) ++ ([44] ++ Lib.itoa ys[i])) by simp only [List.append_assoc]]
        exact this
    obtain ⟨k, rfl⟩ : ∃ m, k = m + 1 := ⟨k - 1, by omega⟩
    have hnl := itoa_len n hn.1 hn.2
    simp only [spec_l01List.l0]
    rw [if_pos (by simp only [List.length_cons]; omega), if_neg (by omega), if_pos (by omega), show rd (n :: ys) 0 = n from rfl, dec_eq n hn.1 hn.2 k (by omega)]
    simp only [Option.bind_some]
    rw [if_pos (by rw [bsize, bsize, List.length_nil]; omega)]
    have := key ys.length 0 k (by omega) (by simp only [List.length_cons] at hl; omega)
    rw [List.take_zero, List.map_nil, show Lib.joinTail [44] [] = [] from rfl, List.append_nil] at this
    rw [show (⟨#[]⟩ : ByteArray) = ⟨([] : List UInt8).toArray⟩ from rfl, bcat, List.nil_append, show wrap64 (0 + 1) = ((0 + 1 : Nat) : Int) by unfold wrap64; omega]
    exact this

/-- within the bounds of a list's numbers -/
def fits (xs : List Int) : Bool := decide (xs.length ≤ 64) && xs.all fun n => decide (-1000000000000 ≤ n ∧ n ≤ 1000000000000)

theorem fits_i64 {xs : List Int} (h : fits xs = true) : xs.length ≤ 64 ∧ ∀ n ∈ xs, -1000000000000 ≤ n ∧ n ≤ 1000000000000 := by
  unfold fits at h
  rw [Bool.and_eq_true, decide_eq_true_eq, List.all_eq_true] at h
  exact ⟨h.1, fun n hn => by simpa using h.2 n hn⟩

theorem implList_l1 (xs : List Int) (hl : xs.length ≤ 64) (hx : ∀ n ∈ xs, i64 n) (hp : 1 ≤ xs.length) : ∀ (d i k : Nat), i + d = xs.length → 10 + d < k → impl_ListText.l1 k ((xs.take i).map fun n => ⟨(Lib.itoa n).toArray⟩) xs (xs.length : Int) (i : Int) [()] = some ⟨(Lib.join (xs.map Lib.itoa) [44]).toArray⟩ := by
  intro d
  induction d with
  | zero =>
    intro i k hi hk
    obtain ⟨k, rfl⟩ : ∃ m, k = m + 1 := ⟨k - 1, by omega⟩
    simp only [impl_ListText.l1]
    rw [if_neg (by omega), List.take_of_length_le (by omega)]
    unfold Go.Proofs.YtopopjkoanpjiaaDoorX.strings_Join.f
    have e : (xs.map fun n => (⟨(Lib.itoa n).toArray⟩ : ByteArray)).map (·.data.toList) = xs.map Lib.itoa := by rw [List.map_map]; rfl
    rw [e, show (⟨#[44]⟩ : ByteArray).data.toList = [44] from rfl]
    have hj : (Lib.join (xs.map Lib.itoa) [44]).length ≤ 22 * xs.length + 1 := by
      have := ltext_len xs hx
      unfold ltext at this
      rwa [if_neg (by omega)] at this
    rw [if_pos ⟨by simpa using hp, by simp; omega, by omega⟩]; rfl
  | succ d ih =>
    intro i k hi hk
    obtain ⟨k, rfl⟩ : ∃ m, k = m + 1 := ⟨k - 1, by omega⟩
    have hlt : i < xs.length := by omega
    have hm := hx _ (List.getElem_mem hlt)
    simp only [impl_ListText.l1]
    rw [if_pos (by omega), if_pos (by omega), if_pos (by omega), rdi xs i hlt, fmt_eq _ hm.1 hm.2]
    simp only [Option.bind_some]
    rw [if_pos (by simp; omega), wnat (by omega)]
    have := ih (i + 1) k (by omega) (by omega)
    rw [List.take_succ_eq_append_getElem hlt, List.map_append, List.map_cons, List.map_nil] at this
    exact this

theorem implList_eq (xs : List Int) (k : Nat) (hk : 300 < k) : impl_ListText.f k xs [()] = some (if fits xs = true then ⟨(ltext xs).toArray⟩ else ⟨#[]⟩) := by
  unfold impl_ListText.f
  by_cases hl : xs.length ≤ 64
  · rw [if_neg (by omega)]
    have key : ∀ (d i k : Nat), i + d = xs.length → 100 + d < k → (∀ (j : Nat) (h : j < xs.length), j < i → -1000000000000 ≤ xs[j] ∧ xs[j] ≤ 1000000000000) → impl_ListText.l0 k xs xs (xs.length : Int) (i : Int) [()] = some (if fits xs = true then ⟨(ltext xs).toArray⟩ else ⟨#[]⟩) := by
      intro d
      induction d with
      | zero =>
        intro i k hi hk ha
        obtain ⟨k, rfl⟩ : ∃ m, k = m + 1 := ⟨k - 1, by omega⟩
        have hall : ∀ n ∈ xs, -1000000000000 ≤ n ∧ n ≤ 1000000000000 := by
          intro n hn
          obtain ⟨j, hj, rfl⟩ := List.mem_iff_getElem.1 hn
          exact ha j hj (by omega)
        have hf : fits xs = true := by
          unfold fits
          rw [Bool.and_eq_true, decide_eq_true_eq, List.all_eq_true]
          exact ⟨hl, fun n hn => by simpa using hall n hn⟩
        simp only [impl_ListText.l0]
        rw [if_neg (by omega), if_pos hf]
        by_cases h0 : xs.length = 0
        · rw [if_pos (by omega)]
          unfold ltext; rw [if_pos h0]
        · rw [if_neg (by omega)]
          have := implList_l1 xs hl (fun n hn => by have := hall n hn; unfold i64; omega) (by omega) xs.length 0 k (by omega) (by omega)
          unfold ltext; rw [if_neg h0]
          simpa using this
      | succ d ih =>
        intro i k hi hk ha
        obtain ⟨k, rfl⟩ : ∃ m, k = m + 1 := ⟨k - 1, by omega⟩
        have hlt : i < xs.length := by omega
        simp only [impl_ListText.l0]
        rw [if_pos (by omega), if_pos (by omega), if_pos (by omega), rdi xs i hlt, within_eq]
        simp only [Option.bind_some]
        by_cases hw : -1000000000000 ≤ xs[i] ∧ xs[i] ≤ 1000000000000
        · rw [if_pos (decide_eq_true hw), wnat (by omega)]
          refine ih (i + 1) k (by omega) (by omega) (fun j hj hji => ?_)
          by_cases e : j = i
          · subst e; exact hw
          · exact ha j hj (by omega)
        · rw [if_neg (by simpa using hw), if_neg (fun hf => hw ((fits_i64 hf).2 _ (List.getElem_mem hlt)))]
    simpa using key xs.length 0 k (by omega) (by omega) (fun j _ h => absurd h (by omega))
  · rw [if_pos (by omega), if_neg (fun hf => hl (fits_i64 hf).1)]

/-- the rows of a tiling's cells -/
abbrev rowsOf (A B : Nat) (l : List Int) : List (List Int) := (List.range B).map fun y => (l.take ((y + 1) * A)).drop (y * A)

theorem okT_use {a b : Int} {l : List Int} (h : okT a b l = true) : (1 ≤ a ∧ a ≤ 12) ∧ (1 ≤ b ∧ b ≤ 12) ∧ (l.length : Int) = a * b ∧ ∀ x ∈ l, 0 ≤ x ∧ x ≤ 35 := by
  unfold okT at h
  simp only [Bool.and_eq_true, decide_eq_true_eq] at h
  obtain ⟨ha, hb, hm, hx, _⟩ := h
  refine ⟨ha, hb, hm, fun x h => ?_⟩
  have := List.all_eq_true.1 hx x h
  simpa using this

theorem rowsOf_len (A B : Nat) (l : List Int) : (rowsOf A B l).length = B := by unfold rowsOf; simp

theorem rowsOf_at (A B : Nat) (l : List Int) (y : Nat) (h : y < (rowsOf A B l).length) : (rowsOf A B l)[y] = (l.take ((y + 1) * A)).drop (y * A) := by
  unfold rowsOf; simp

theorem rowsOf_in (A B : Nat) (l : List Int) (r : List Int) (h : r ∈ rowsOf A B l) : r.length ≤ A ∧ ∀ n ∈ r, n ∈ l := by
  unfold rowsOf at h
  obtain ⟨y, _, rfl⟩ := List.mem_map.1 h
  refine ⟨?_, fun n hn => List.mem_of_mem_take (List.mem_of_mem_drop hn)⟩
  rw [List.length_drop, List.length_take, Nat.succ_mul]; omega

theorem rowAt {A B : Nat} {l : List Int} (hA : A ≤ 12) (hB : B ≤ 12) (hl : l.length = A * B) (y : Nat) (hy : y < B) :
    wrap64 ((y : Int) * (A : Int)) = ((y * A : Nat) : Int) ∧ wrap64 (wrap64 ((y : Int) + 1) * (A : Int)) = (((y + 1) * A : Nat) : Int) ∧ y * A ≤ (y + 1) * A ∧ (y + 1) * A ≤ l.length := by
  have h1 : (y + 1) * A ≤ B * A := Nat.mul_le_mul_right A hy
  have h2 : B * A ≤ 12 * 12 := Nat.mul_le_mul hB hA
  have h3 : (y + 1) * A = y * A + A := Nat.succ_mul y A
  have h4 : l.length = B * A := by rw [hl, Nat.mul_comm]
  have h5 : ((y * A : Nat) : Int) = (y : Int) * (A : Int) := Int.natCast_mul y A
  have h6 : (((y + 1) * A : Nat) : Int) = ((y : Int) + 1) * (A : Int) := by rw [Int.natCast_mul]; rfl
  refine ⟨?_, ?_, by omega, by omega⟩
  · rw [← h5, w64 (by omega) (by omega)]
  · rw [w64 (x := (y : Int) + 1) (by omega) (by omega), ← h6, w64 (by omega) (by omega)]

theorem rtail_len (R : List (List Int)) (hR : ∀ r ∈ R, r.length ≤ 12 ∧ ∀ n ∈ r, i64 n) : (Lib.joinTail [47] (R.map ltext)).length ≤ 300 * R.length := by
  induction R with
  | nil => simp [Lib.joinTail]
  | cons r R ih =>
    have h := hR r List.mem_cons_self
    have hl := ltext_len r h.2
    have hi := ih (fun m hm => hR m (List.mem_cons_of_mem _ hm))
    unfold Lib.joinTail at hi ⊢
    simp only [List.map_cons, List.flatten_cons, List.length_append, List.length_cons, List.length_nil] at hi ⊢
    omega

/-- the text of a tiling's cells -/
def ttext (A B : Nat) (l : List Int) : List UInt8 := Lib.join ((rowsOf A B l).map ltext) [47]

theorem ttext_len {A B : Nat} {l : List Int} (hA : A ≤ 12) (hB : B ≤ 12) (hx : ∀ x ∈ l, 0 ≤ x ∧ x ≤ 35) : (ttext A B l).length ≤ 4000 := by
  unfold ttext
  have hL := rowsOf_len A B l
  have hR : ∀ r ∈ rowsOf A B l, r.length ≤ 12 ∧ ∀ n ∈ r, i64 n := fun r hr => by
    obtain ⟨h1, h2⟩ := rowsOf_in A B l r hr
    exact ⟨by omega, fun n hn => by have := hx n (h2 n hn); unfold i64; omega⟩
  cases hr : rowsOf A B l with
  | nil => simp [Lib.join]
  | cons r R =>
    rw [hr] at hR hL
    rw [List.map_cons, Lib.join_cons, List.length_append]
    have h := hR r List.mem_cons_self
    have hl := ltext_len r h.2
    have := rtail_len R (fun m hm => hR m (List.mem_cons_of_mem _ hm))
    simp only [List.length_cons] at hL
    omega

theorem specRows {A B : Nat} {l : List Int} (hA : A ≤ 12) (hB : 1 ≤ B ∧ B ≤ 12) (hl : l.length = A * B) (hx : ∀ x ∈ l, 0 ≤ x ∧ x ≤ 35) (k : Nat) (hk : 900 < k) :
    spec_l17Rows.f k [(⟨(A : Int), (B : Int), l⟩ : S27)] = some ⟨(ttext A B l).toArray⟩ := by
  have r : rd_T27 [(⟨(A : Int), (B : Int), l⟩ : S27)] 0 = ⟨(A : Int), (B : Int), l⟩ := rfl
  have hL := rowsOf_len A B l
  have hat := rowsOf_at A B l
  have hR : ∀ r ∈ rowsOf A B l, r.length ≤ 12 ∧ ∀ n ∈ r, i64 n := fun r hr => by
    obtain ⟨h1, h2⟩ := rowsOf_in A B l r hr
    exact ⟨by omega, fun n hn => by have := hx n (h2 n hn); unfold i64; omega⟩
  unfold spec_l17Rows.f ttext
  obtain ⟨R, hRR⟩ : ∃ R, R = rowsOf A B l := ⟨_, rfl⟩
  rw [← hRR] at hL hR ⊢
  have hat : ∀ (y : Nat) (h : y < R.length), R[y] = (l.take ((y + 1) * A)).drop (y * A) := by subst hRR; exact hat
  cases R with
  | nil => simp only [List.length_nil] at hL; omega
  | cons r0 R =>
    simp only [List.length_cons] at hL
    rw [List.map_cons, Lib.join_cons]
    have h0 := hR r0 List.mem_cons_self
    have h0l := ltext_len r0 h0.2
    have key : ∀ (d i k : Nat), i + d = R.length → 800 + d < k → spec_l17Rows.l0 k ⟨(ltext r0 ++ Lib.joinTail [47] ((R.take i).map ltext)).toArray⟩ ((i + 1 : Nat) : Int) [(⟨(A : Int), (B : Int), l⟩ : S27)] = some ⟨(ltext r0 ++ Lib.joinTail [47] (R.map ltext)).toArray⟩ := by
      intro d
      induction d with
      | zero =>
        intro i k hi hk
        obtain ⟨k, rfl⟩ : ∃ m, k = m + 1 := ⟨k - 1, by omega⟩
        simp only [spec_l17Rows.l0, r]
        rw [if_pos (by simp), if_neg (by omega), List.take_of_length_le (by omega)]
      | succ d ih =>
        intro i k hi hk
        obtain ⟨k, rfl⟩ : ∃ m, k = m + 1 := ⟨k - 1, by omega⟩
        have hlt : i < R.length := by omega
        have hm := hR _ (List.mem_cons_of_mem _ (List.getElem_mem hlt))
        have hml := ltext_len R[i] hm.2
        have hj := rtail_len (R.take i) (fun m h => hR m (List.mem_cons_of_mem _ (List.mem_of_mem_take h)))
        have ht : (R.take i).length ≤ 12 := by simp; omega
        obtain ⟨e1, e2, e3, e4⟩ := rowAt hA hB.2 hl (i + 1) (by omega)
        have e5 : (l.take ((i + 1 + 1) * A)).drop ((i + 1) * A) = R[i] := (hat (i + 1) (by simp; omega)).symm
        simp only [spec_l17Rows.l0, r]
        rw [e1, e2, Int.toNat_natCast, Int.toNat_natCast, e5]
        rw [if_pos (by simp), if_pos (by omega), if_pos (by omega), if_pos (by rw [bsize, List.length_append]; omega), if_pos (by omega), if_pos (by omega), if_pos (by omega), specList_eq _ (by omega) hm.2 k (by omega)]
        simp only [Option.bind_some]
        rw [if_pos (by rw [bsize, bsize, List.length_append]; omega), wnat (by omega)]
        have := ih (i + 1) k (by omega) (by omega)
        rw [List.take_succ_eq_append_getElem hlt, List.map_append, List.map_cons, List.map_nil, joinTail_snoc] at this
        rw [show (⟨#[47]⟩ : ByteArray) = ⟨[47].toArray⟩ from rfl, bcat, bcat]
        rw [show ltext r0 ++ Lib.joinTail [47] (List.map ltext (List.take i R)) ++ [47] ++ ltext R[i] = ltext r0 ++ (Lib.joinTail [47] (List.map ltext (List.take i R)) ++ ([47] ++ ltext R[i])) by simp only [List.append_assoc]]
        exact this
    obtain ⟨k, rfl⟩ : ∃ m, k = m + 1 := ⟨k - 1, by omega⟩
    obtain ⟨e1, e2, e3, e4⟩ := rowAt hA hB.2 hl 0 (by omega)
    have e5 : (l.take ((0 + 1) * A)).drop (0 * A) = r0 := (hat 0 (by simp)).symm
    have e0 : ((0 : Nat) : Int) = 0 := rfl
    rw [e0] at e1 e2
    simp only [spec_l17Rows.l0, r]
    rw [e1, e2, Int.toNat_natCast, Int.toNat_natCast, e5]
    rw [if_pos (by simp), if_pos (by omega), if_neg (by omega), if_pos (by omega), if_pos (by omega), if_pos (by omega), specList_eq _ (by omega) h0.2 k (by omega)]
    simp only [Option.bind_some]
    rw [if_pos (by rw [bsize, bsize, List.length_nil]; omega)]
    have := key R.length 0 k (by omega) (by omega)
    rw [List.take_zero, List.map_nil, show Lib.joinTail [47] [] = [] from rfl, List.append_nil] at this
    rw [show (⟨#[]⟩ : ByteArray) = ⟨([] : List UInt8).toArray⟩ from rfl, bcat, List.nil_append, show wrap64 (0 + 1) = ((0 + 1 : Nat) : Int) by unfold wrap64; omega]
    exact this

theorem row_fits {r : List Int} (h : r.length ≤ 12) (hx : ∀ x ∈ r, 0 ≤ x ∧ x ≤ 35) : fits r = true := by
  unfold fits
  rw [Bool.and_eq_true, decide_eq_true_eq, List.all_eq_true]
  exact ⟨by omega, fun n hn => by have := hx n hn; simp; omega⟩

theorem implRows {A B : Nat} {l : List Int} (hA : A ≤ 12) (hB : 1 ≤ B ∧ B ≤ 12) (hl : l.length = A * B) (hx : ∀ x ∈ l, 0 ≤ x ∧ x ≤ 35) (k : Nat) (hk : 900 < k) :
    impl_TilingText.l0 k [] (B : Int) 0 [()] (A : Int) (B : Int) l = some ⟨(ttext A B l).toArray⟩ := by
  have hL := rowsOf_len A B l
  have hat := rowsOf_at A B l
  have hR : ∀ r ∈ rowsOf A B l, r.length ≤ 12 ∧ ∀ n ∈ r, 0 ≤ n ∧ n ≤ 35 := fun r hr => by
    obtain ⟨h1, h2⟩ := rowsOf_in A B l r hr
    exact ⟨by omega, fun n hn => hx n (h2 n hn)⟩
  have hT := ttext_len hA hB.2 hx
  unfold ttext at hT ⊢
  obtain ⟨R, hRR⟩ : ∃ R, R = rowsOf A B l := ⟨_, rfl⟩
  rw [← hRR] at hL hR hT ⊢
  have hat : ∀ (y : Nat) (h : y < R.length), R[y] = (l.take ((y + 1) * A)).drop (y * A) := by subst hRR; exact hat
  have key : ∀ (d i k : Nat), i + d = R.length → 800 + d < k → impl_TilingText.l0 k ((R.take i).map fun r => ⟨(ltext r).toArray⟩) (B : Int) (i : Int) [()] (A : Int) (B : Int) l = some ⟨(Lib.join (R.map ltext) [47]).toArray⟩ := by
    intro d
    induction d with
    | zero =>
      intro i k hi hk
      obtain ⟨k, rfl⟩ : ∃ m, k = m + 1 := ⟨k - 1, by omega⟩
      simp only [impl_TilingText.l0]
      rw [if_neg (by omega), List.take_of_length_le (by omega)]
      unfold Go.Proofs.YtopopjkoanpjiaaDoorX.strings_Join.f
      have e : (R.map fun r => (⟨(ltext r).toArray⟩ : ByteArray)).map (·.data.toList) = R.map ltext := by rw [List.map_map]; rfl
      rw [e, show (⟨#[47]⟩ : ByteArray).data.toList = [47] from rfl]
      rw [if_pos ⟨by simp; omega, by simp; omega, by omega⟩]; rfl
    | succ d ih =>
      intro i k hi hk
      obtain ⟨k, rfl⟩ : ∃ m, k = m + 1 := ⟨k - 1, by omega⟩
      have hlt : i < R.length := by omega
      have hm := hR _ (List.getElem_mem hlt)
      obtain ⟨e1, e2, e3, e4⟩ := rowAt hA hB.2 hl i (by omega)
      have e5 : (l.take ((i + 1) * A)).drop (i * A) = R[i] := (hat i hlt).symm
      simp only [impl_TilingText.l0]
      rw [e1, e2, Int.toNat_natCast, Int.toNat_natCast, e5]
      rw [if_pos (by omega), if_pos (by omega), if_pos (by omega), if_pos (by omega), implList_eq _ k (by omega), if_pos (row_fits hm.1 hm.2)]
      simp only [Option.bind_some]
      rw [if_pos (by simp; omega), wnat (by omega)]
      have := ih (i + 1) k (by omega) (by omega)
      rw [List.take_succ_eq_append_getElem hlt, List.map_append, List.map_cons, List.map_nil] at this
      exact this
  simpa using key R.length 0 k (by omega) (by omega)

theorem specTT {a b : Int} {l : List Int} (k : Nat) (hk : 9900 < k) : spec_TilingText.f k a b l = some (if okT a b l = true then ⟨(ttext a.toNat b.toNat l).toArray⟩ else ⟨#[]⟩) := by
  unfold spec_TilingText.f
  rw [specOk k (by omega)]
  simp only [Option.bind_some]
  by_cases h : okT a b l = true
  · rw [if_pos h, if_pos h]
    obtain ⟨ha, hb, hm, hx⟩ := okT_use h
    obtain ⟨A, rfl⟩ : ∃ A : Nat, a = A := ⟨a.toNat, by omega⟩
    obtain ⟨B, rfl⟩ : ∃ B : Nat, b = B := ⟨b.toNat, by omega⟩
    have hm : l.length = A * B := by exact_mod_cast hm
    rw [specRows (by omega) (by omega) hm hx k (by omega), Int.toNat_natCast, Int.toNat_natCast]
    rfl
  · rw [if_neg h, if_neg h]

theorem implTT {a b : Int} {l : List Int} (k : Nat) (hk : 91000 < k) : impl_TilingText.f k a b l [()] = some (if okT a b l = true then ⟨(ttext a.toNat b.toNat l).toArray⟩ else ⟨#[]⟩) := by
  unfold impl_TilingText.f
  rw [implTiling k (by omega)]
  simp only [Option.bind_some]
  by_cases h : okT a b l = true
  · rw [if_pos h, if_pos h]
    obtain ⟨ha, hb, hm, hx⟩ := okT_use h
    obtain ⟨A, rfl⟩ : ∃ A : Nat, a = A := ⟨a.toNat, by omega⟩
    obtain ⟨B, rfl⟩ : ∃ B : Nat, b = B := ⟨b.toNat, by omega⟩
    have hm : l.length = A * B := by exact_mod_cast hm
    rw [implRows (by omega) (by omega) hm hx k (by omega), Int.toNat_natCast, Int.toNat_natCast]
  · rw [if_neg h, if_neg h]

theorem FnExactTilingText : laws_FnExactTilingText.Pure := by
  intro a b l ⟨_, _, hl, _⟩
  refine ⟨1049200, ?_⟩
  obtain ⟨k, hk⟩ : ∃ k : Nat, k = 1049200 := ⟨_, rfl⟩
  rw [← hk]
  unfold laws_FnExactTilingText.f
  rw [szTiling_eq a b l hl]
  simp only [Option.bind_some]
  by_cases h : (1048576 : Int) < l.length
  · rw [if_pos h, if_pos (by omega)]
  rw [if_neg h, if_neg (by omega), toTiling_eq a b l (by omega) k (by omega)]
  simp only [Option.bind_some]
  rw [specTT k (by omega), implTT k (by omega)]
  simp [eqTiling_eq a b l (by omega) k (by omega)]

end Go.Proofs.YtopopjkoanpjiaaDoor.Pure

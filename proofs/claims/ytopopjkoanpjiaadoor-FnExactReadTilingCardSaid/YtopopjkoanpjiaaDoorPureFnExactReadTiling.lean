/- FnExactReadTiling: the program's ReadTiling returns what the reference's returns, for all arguments; no condition but that the listed tables read as the card ties them. -/
import Derived.Test.YtopopjkoanpjiaaDoorGFnExactReadTilingx
import Derived.Lib.ItoaLen
import Derived.Lib.Join
import Derived.Lib.SplitLaws
import Derived.Lib.IndexBytes
namespace Go.Proofs.YtopopjkoanpjiaaDoor.Pure
open Go.RowKit Go.Proofs.YtopopjkoanpjiaaDoor.GFnExactReadTiling Go.Proofs.YtopopjkoanpjiaaDoorW.PrintWords Go.Proofs.YtopopjkoanpjiaaDoorW.PrintLast
set_option linter.unusedSimpArgs false
set_option linter.unusedVariables false

theorem w64 {x : Int} (h0 : -9223372036854775808 ≤ x) (h1 : x ≤ 9223372036854775807) : wrap64 x = x := by
  unfold wrap64; omega

theorem within_eq (a b c : Int) : impl_within.f a b c = some (decide (b ≤ a ∧ a ≤ c)) := by
  unfold impl_within.f
  by_cases h : a ≥ b
  · rw [if_pos h]; simp [h]
  · rw [if_neg h]; simp; omega

theorem l00In_eq (a b c : Int) : spec_l00In.f a b c = some (decide (b ≤ a ∧ a ≤ c)) := by
  unfold spec_l00In.f
  by_cases h : a ≥ b
  · rw [if_pos h]; simp [h]
  · rw [if_neg h]; simp; omega

/-- a loop over a list: from one state to the next, or out of it -/
def run {α σ β : Type} (st : σ → α → Nat → σ ⊕ β) (en : σ → β) : List α → σ → Nat → β
  | [], s, _ => en s
  | x :: xs, s, i => match st s x i with
    | .inl s' => run st en xs s' (i + 1)
    | .inr r => r

theorem loop_run {α σ β : Type} (xs : List α) (K0 : Nat) (Inv : σ → Nat → Prop) (L : Nat → σ → Int → Option β) (st : σ → α → Nat → σ ⊕ β) (en : σ → β)
    (hs : ∀ (k : Nat) (s : σ) (i : Nat) (h : i < xs.length), K0 ≤ k → Inv s i →
      (∃ s', st s xs[i] i = .inl s' ∧ Inv s' (i + 1) ∧ L (k + 1) s (i : Int) = L k s' ((i + 1 : Nat) : Int)) ∨ (∃ r, st s xs[i] i = .inr r ∧ L (k + 1) s (i : Int) = some r))
    (he : ∀ (k : Nat) (s : σ), K0 ≤ k → Inv s xs.length → L (k + 1) s (xs.length : Int) = some (en s)) :
    ∀ (n i k : Nat) (s : σ), i + n = xs.length → K0 + n < k → Inv s i → L k s (i : Int) = some (run st en (xs.drop i) s i) := by
  intro n
  induction n with
  | zero =>
    intro i k s hi hk hI
    obtain ⟨k, rfl⟩ : ∃ m, k = m + 1 := ⟨k - 1, by omega⟩
    obtain rfl : i = xs.length := by omega
    rw [he k s (by omega) hI, List.drop_length]; rfl
  | succ n ih =>
    intro i k s hi hk hI
    obtain ⟨k, rfl⟩ : ∃ m, k = m + 1 := ⟨k - 1, by omega⟩
    have hlt : i < xs.length := by omega
    rw [List.drop_eq_getElem_cons hlt]
    rcases hs k s i hlt (by omega) hI with ⟨s', h1, h2, h3⟩ | ⟨r, h1, h3⟩
    · rw [h3, ih (i + 1) k s' (by omega) (by omega) h2]
      simp only [run, h1]
    · rw [h3]
      simp only [run, h1]

theorem loop_run0 {α σ β : Type} (xs : List α) (K0 : Nat) (Inv : σ → Nat → Prop) (L : Nat → σ → Int → Option β) (st : σ → α → Nat → σ ⊕ β) (en : σ → β)
    (hs : ∀ (k : Nat) (s : σ) (i : Nat) (h : i < xs.length), K0 ≤ k → Inv s i →
      (∃ s', st s xs[i] i = .inl s' ∧ Inv s' (i + 1) ∧ L (k + 1) s (i : Int) = L k s' ((i + 1 : Nat) : Int)) ∨ (∃ r, st s xs[i] i = .inr r ∧ L (k + 1) s (i : Int) = some r))
    (he : ∀ (k : Nat) (s : σ), K0 ≤ k → Inv s xs.length → L (k + 1) s (xs.length : Int) = some (en s)) (k : Nat) (s : σ) (hk : K0 + xs.length < k) (hI : Inv s 0) :
    L k s 0 = some (run st en xs s 0) := by
  have := loop_run xs K0 Inv L st en hs he xs.length 0 k s (by omega) hk hI
  simpa using this

/-- a row that is made and then filled, element by element -/
theorem loop_map {α β : Type} (xs : List α) (z : β) (c : α → β) (L : Nat → List β → Int → Option (List β))
    (hs : ∀ (k : Nat) (s : List β) (i : Nat) (h : i < xs.length), s.length = xs.length → L (k + 1) s (i : Int) = L k (s.set i (c xs[i])) ((i + 1 : Nat) : Int))
    (he : ∀ (k : Nat) (s : List β), L (k + 1) s (xs.length : Int) = some s) (k : Nat) (hk : xs.length < k) :
    L k (List.replicate xs.length z) 0 = some (xs.map c) := by
  have key : ∀ (n i k : Nat) (s : List β), i + n = xs.length → n < k → s.length = xs.length → s.take i = (xs.map c).take i → L k s (i : Int) = some (xs.map c) := by
    intro n
    induction n with
    | zero =>
      intro i k s hi hk hl ht
      obtain ⟨k, rfl⟩ : ∃ m, k = m + 1 := ⟨k - 1, by omega⟩
      obtain rfl : i = xs.length := by omega
      have h1 : s.take xs.length = s := List.take_of_length_le (by omega)
      rw [he, ← h1, ht, List.take_of_length_le (by simp)]
    | succ n ih =>
      intro i k s hi hk hl ht
      obtain ⟨k, rfl⟩ : ∃ m, k = m + 1 := ⟨k - 1, by omega⟩
      have hlt : i < xs.length := by omega
      rw [hs k s i hlt hl]
      refine ih (i + 1) k _ (by omega) (by omega) (by rw [List.length_set]; exact hl) ?_
      rw [List.take_succ_eq_append_getElem (by rw [List.length_set]; omega), List.take_succ_eq_append_getElem (by rw [List.length_map]; omega), List.take_set_of_le (by omega), ht]
      simp
  have := key xs.length 0 k (List.replicate xs.length z) (by omega) hk (by simp) (by simp)
  simpa using this

theorem wnat {n : Nat} (h : n < 9223372036854775807) : wrap64 ((n : Int) + 1) = ((n + 1 : Nat) : Int) := by
  unfold wrap64; omega

theorem loop_all {β : Type} (n K0 : Nat) (L : Nat → Int → Option β) (r : β) (hs : ∀ (k i : Nat), K0 ≤ k → i < n → L (k + 1) (i : Int) = L k ((i + 1 : Nat) : Int)) (he : ∀ k : Nat, L (k + 1) (n : Int) = some r)
    (k : Nat) (hk : K0 + n < k) : L k 0 = some r := by
  have key : ∀ (m i k : Nat), i + m = n → K0 + m < k → L k (i : Int) = some r := by
    intro m
    induction m with
    | zero =>
      intro i k hi hk
      obtain ⟨k, rfl⟩ : ∃ m, k = m + 1 := ⟨k - 1, by omega⟩
      obtain rfl : i = n := by omega
      exact he k
    | succ m ih =>
      intro i k hi hk
      obtain ⟨k, rfl⟩ : ∃ m, k = m + 1 := ⟨k - 1, by omega⟩
      rw [hs k i (by omega) (by omega)]
      exact ih (i + 1) k (by omega) (by omega)
  simpa using key n 0 k (by omega) hk

theorem all_from {α β : Type} (xs : List α) (K0 : Nat) (p : α → Bool) (r0 r1 : β) (L : Nat → Int → Option β)
    (hs : ∀ (k i : Nat) (h : i < xs.length), K0 ≤ k → L (k + 1) (i : Int) = if p xs[i] = true then L k ((i + 1 : Nat) : Int) else some r0)
    (he : ∀ k : Nat, K0 ≤ k → L (k + 1) (xs.length : Int) = some r1) : ∀ (n i k : Nat), i + n = xs.length → K0 + n < k → L k (i : Int) = some (if (xs.drop i).all p = true then r1 else r0) := by
  intro n
  induction n with
  | zero =>
    intro i k hi hk
    obtain ⟨k, rfl⟩ : ∃ m, k = m + 1 := ⟨k - 1, by omega⟩
    obtain rfl : i = xs.length := by omega
    rw [he k (by omega), List.drop_length]; rfl
  | succ n ih =>
    intro i k hi hk
    obtain ⟨k, rfl⟩ : ∃ m, k = m + 1 := ⟨k - 1, by omega⟩
    have hlt : i < xs.length := by omega
    rw [hs k i hlt (by omega), List.drop_eq_getElem_cons hlt, List.all_cons]
    cases hp : p xs[i] with
    | true => rw [if_pos rfl, ih (i + 1) k (by omega) (by omega), Bool.true_and]
    | false => simp

theorem all_loop {α β : Type} (xs : List α) (K0 : Nat) (p : α → Bool) (r0 r1 : β) (L : Nat → Int → Option β)
    (hs : ∀ (k i : Nat) (h : i < xs.length), K0 ≤ k → L (k + 1) (i : Int) = if p xs[i] = true then L k ((i + 1 : Nat) : Int) else some r0)
    (he : ∀ k : Nat, K0 ≤ k → L (k + 1) (xs.length : Int) = some r1) (k : Nat) (hk : K0 + xs.length < k) : L k 0 = some (if xs.all p = true then r1 else r0) := by
  simpa using all_from xs K0 p r0 r1 L hs he xs.length 0 k (by omega) hk

theorem idx_from {α : Type} (xs : List α) (K0 : Nat) (q : α → Bool) (L : Nat → Int → Option Int)
    (hs : ∀ (k i : Nat) (h : i < xs.length), K0 ≤ k → L (k + 1) (i : Int) = if q xs[i] = true then some (i : Int) else L k ((i + 1 : Nat) : Int))
    (he : ∀ k : Nat, K0 ≤ k → L (k + 1) (xs.length : Int) = some (-1)) : ∀ (n i k : Nat), i + n = xs.length → K0 + n < k → ∃ r, L k (i : Int) = some r ∧ decide (r ≥ 0) = (xs.drop i).any q := by
  intro n
  induction n with
  | zero =>
    intro i k hi hk
    obtain ⟨k, rfl⟩ : ∃ m, k = m + 1 := ⟨k - 1, by omega⟩
    obtain rfl : i = xs.length := by omega
    exact ⟨-1, he k (by omega), by rw [List.drop_length]; rfl⟩
  | succ n ih =>
    intro i k hi hk
    obtain ⟨k, rfl⟩ : ∃ m, k = m + 1 := ⟨k - 1, by omega⟩
    have hlt : i < xs.length := by omega
    rw [hs k i hlt (by omega), List.drop_eq_getElem_cons hlt, List.any_cons]
    cases hp : q xs[i] with
    | true => exact ⟨i, by rw [if_pos rfl], by simp⟩
    | false =>
      obtain ⟨r, h1, h2⟩ := ih (i + 1) k (by omega) (by omega)
      exact ⟨r, by rw [if_neg (by simp)]; exact h1, by rw [h2]; simp⟩

theorem idx_loop {α : Type} (xs : List α) (K0 : Nat) (q : α → Bool) (L : Nat → Int → Option Int)
    (hs : ∀ (k i : Nat) (h : i < xs.length), K0 ≤ k → L (k + 1) (i : Int) = if q xs[i] = true then some (i : Int) else L k ((i + 1 : Nat) : Int))
    (he : ∀ k : Nat, K0 ≤ k → L (k + 1) (xs.length : Int) = some (-1)) (k : Nat) (hk : K0 + xs.length < k) : ∃ r, L k 0 = some r ∧ decide (r ≥ 0) = xs.any q := by
  simpa using idx_from xs K0 q L hs he xs.length 0 k (by omega) hk

theorem any_not {α : Type} (l : List α) (p : α → Bool) : l.any (fun x => !p x) = !l.all p := by
  induction l with
  | nil => rfl
  | cons x l ih => rw [List.any_cons, List.all_cons, ih]; cases p x <;> simp

theorem rdi (xs : List Int) (i : Nat) (h : i < xs.length) : rd xs (i : Int) = xs[i] := by
  unfold rd; simp [List.getD, h]

theorem eqInt64S_eq (l : List Int) (hl : l.length ≤ 1048576) (k : Nat) (hk : l.length < k) : laws_eqInt64S.f k l l = some true := by
  unfold laws_eqInt64S.f
  rw [if_pos rfl]
  refine loop_all l.length 0 (fun k i => laws_eqInt64S.l0 k l l i) true ?_ ?_ k (by omega)
  · intro k i _ h
    simp only [laws_eqInt64S.l0]
    rw [if_pos (by omega), if_pos (by omega), if_pos (by omega), wnat (by omega)]; simp
  · intro k
    simp only [laws_eqInt64S.l0]
    rw [if_neg (by omega)]

theorem eqTiling_eq (a b : Int) (l : List Int) (hl : l.length ≤ 1048576) (k : Nat) (hk : l.length < k) : laws_eqTiling.f k a b l a b l = some true := by
  unfold laws_eqTiling.f
  simp [eqInt64S_eq l hl k hk]

/-- a cell is put behind the others, if it is of the tile and not among them -/
def push (p : Int → Bool) (q : List Int) (c : Int) : List Int := if p c = true ∧ c ∉ q then q ++ [c] else q

theorem push_mem (p : Int → Bool) (q : List Int) (c x : Int) : x ∈ push p q c ↔ x ∈ q ∨ (x = c ∧ p x = true) := by
  unfold push
  split
  · rename_i h
    rw [List.mem_append, List.mem_singleton]
    constructor
    · rintro (h1 | rfl)
      · exact Or.inl h1
      · exact Or.inr ⟨rfl, h.1⟩
    · rintro (h1 | ⟨rfl, _⟩)
      · exact Or.inl h1
      · exact Or.inr rfl
  · rename_i h
    constructor
    · exact Or.inl
    · rintro (h1 | ⟨rfl, h2⟩)
      · exact h1
      · exact Decidable.byContradiction fun h3 => h ⟨h2, h3⟩

theorem push_nodup (p : Int → Bool) (q : List Int) (c : Int) (h : q.Nodup) : (push p q c).Nodup := by
  unfold push
  split
  · rename_i hc
    rw [List.nodup_append]
    refine ⟨h, by simp, ?_⟩
    intro a ha b hb
    rw [List.mem_singleton] at hb
    subst hb
    intro he
    subst he
    exact hc.2 ha
  · exact h

theorem push_prefix (p : Int → Bool) (q : List Int) (c : Int) : ∃ t, push p q c = q ++ t := by
  unfold push
  split
  · exact ⟨_, rfl⟩
  · exact ⟨[], by simp⟩

def pushes (p : Int → Bool) (q cs : List Int) : List Int := cs.foldl (push p) q

theorem pushes_mem (p : Int → Bool) (cs : List Int) : ∀ (q : List Int) (x : Int), x ∈ pushes p q cs ↔ x ∈ q ∨ (x ∈ cs ∧ p x = true) := by
  induction cs with
  | nil => intro q x; simp [pushes]
  | cons c cs ih =>
    intro q x
    show x ∈ pushes p (push p q c) cs ↔ _
    rw [ih, push_mem, List.mem_cons]
    constructor
    · rintro ((h | h) | h)
      · exact Or.inl h
      · exact Or.inr ⟨Or.inl h.1, h.2⟩
      · exact Or.inr ⟨Or.inr h.1, h.2⟩
    · rintro (h | ⟨h | h, h2⟩)
      · exact Or.inl (Or.inl h)
      · exact Or.inl (Or.inr ⟨h, h2⟩)
      · exact Or.inr ⟨h, h2⟩

theorem pushes_nodup (p : Int → Bool) (cs : List Int) : ∀ (q : List Int), q.Nodup → (pushes p q cs).Nodup := by
  induction cs with
  | nil => intro q h; exact h
  | cons c cs ih => intro q h; exact ih _ (push_nodup p q c h)

theorem pushes_prefix (p : Int → Bool) (cs : List Int) : ∀ (q : List Int), ∃ t, pushes p q cs = q ++ t := by
  induction cs with
  | nil => intro q; exact ⟨[], by simp [pushes]⟩
  | cons c cs ih =>
    intro q
    obtain ⟨t, ht⟩ := push_prefix p q c
    obtain ⟨u, hu⟩ := ih (push p q c)
    exact ⟨t ++ u, by show pushes p (push p q c) cs = _; rw [hu, ht, List.append_assoc]⟩

/-- the cells that hang together with the first -/
inductive Reach (p : Int → Bool) (nb : Int → List Int) (first : Int) : Int → Prop
  | base : Reach p nb first first
  | step {x c : Int} : Reach p nb first x → c ∈ nb x → p c = true → Reach p nb first c

theorem Reach.other {p : Int → Bool} {nb nb2 : Int → List Int} {first : Int} (h : ∀ x c, c ∈ nb x → c ∈ nb2 x) {x : Int} (hr : Reach p nb first x) : Reach p nb2 first x := by
  induction hr with
  | base => exact Reach.base
  | step _ hc hp ih => exact Reach.step ih (h _ _ hc) hp

/-- what holds of the cells that were met, of which i have been looked at -/
structure Met (p : Int → Bool) (nb : Int → List Int) (first : Int) (q : List Int) (i : Nat) : Prop where
  nd : q.Nodup
  hf : first ∈ q
  hr : ∀ x ∈ q, Reach p nb first x
  hc : ∀ (j : Nat) (h : j < q.length), j < i → ∀ c ∈ nb q[j], p c = true → c ∈ q
  hi : i ≤ q.length

theorem Met.start (p : Int → Bool) (nb : Int → List Int) (first : Int) : Met p nb first [first] 0 :=
  ⟨by simp, by simp, fun x hx => by rw [List.mem_singleton] at hx; subst hx; exact Reach.base, fun j h hj => by omega, by simp⟩

theorem Met.next {p : Int → Bool} {nb : Int → List Int} {first : Int} {q : List Int} {i : Nat} (m : Met p nb first q i) (h : i < q.length) : Met p nb first (pushes p q (nb q[i])) (i + 1) := by
  obtain ⟨t, ht⟩ := pushes_prefix p (nb q[i]) q
  have hl : q.length ≤ (pushes p q (nb q[i])).length := by rw [ht, List.length_append]; omega
  refine ⟨pushes_nodup p _ q m.nd, (pushes_mem p _ q first).2 (Or.inl m.hf), ?_, ?_, by omega⟩
  · intro x hx
    rcases (pushes_mem p _ q x).1 hx with h1 | ⟨h1, h2⟩
    · exact m.hr x h1
    · exact Reach.step (m.hr _ (List.getElem_mem h)) h1 h2
  · intro j hj hji c hc hp
    have hjq : j < q.length := by omega
    have e : (pushes p q (nb q[i]))[j] = q[j] := by
      simp only [ht]
      exact List.getElem_append_left hjq
    rw [e] at hc
    by_cases hji2 : j < i
    · exact (pushes_mem p _ q c).2 (Or.inl (m.hc j hjq hji2 c hc hp))
    · obtain rfl : j = i := by omega
      exact (pushes_mem p _ q c).2 (Or.inr ⟨hc, hp⟩)

theorem Met.last {p : Int → Bool} {nb : Int → List Int} {first : Int} {q : List Int} (m : Met p nb first q q.length) (x : Int) : x ∈ q ↔ Reach p nb first x := by
  refine ⟨m.hr x, fun h => ?_⟩
  induction h with
  | base => exact m.hf
  | step _ hc hp ih =>
    obtain ⟨j, hj, e⟩ := List.getElem_of_mem ih
    exact m.hc j hj hj _ (by rw [e]; exact hc) hp

theorem Met.same {p : Int → Bool} {nb nb2 : Int → List Int} {first : Int} {q q2 : List Int} (m : Met p nb first q q.length) (m2 : Met p nb2 first q2 q2.length) (h : ∀ x c, c ∈ nb x ↔ c ∈ nb2 x) : q.length = q2.length := by
  refine ((List.perm_ext_iff_of_nodup m.nd m2.nd).2 fun x => ?_).length_eq
  rw [m.last, m2.last]
  exact ⟨Reach.other fun x c => (h x c).1, Reach.other fun x c => (h x c).2⟩

/-- no more cells are met than there are -/
theorem Met.few {p : Int → Bool} {nb : Int → List Int} {first : Int} {q : List Int} {i : Nat} (m : Met p nb first q i) (N : Nat) (hin : ∀ x ∈ q, 0 ≤ x ∧ x < (N : Int)) : q.length ≤ N := by
  have := List.Nodup.length_le_of_subset m.nd (l₂ := (List.range N).map fun (n : Nat) => (n : Int)) (fun x hx => by
    obtain ⟨h0, h1⟩ := hin x hx
    exact List.mem_map.2 ⟨x.toNat, List.mem_range.2 (by omega), by omega⟩)
  simpa using this

theorem mul12 {a b : Int} (ha : 1 ≤ a ∧ a ≤ 12) (hb : 1 ≤ b ∧ b ≤ 12) : 1 ≤ a * b ∧ a * b ≤ 144 := by
  have h1 : (1 : Int) * 1 ≤ a * b := Int.mul_le_mul ha.1 hb.1 (by omega) (by omega)
  have h2 : a * b ≤ (12 : Int) * 12 := Int.mul_le_mul ha.2 hb.2 (by omega) (by omega)
  omega

/-- the rest of a division, from 0 on, as the program and the reference both reckon it -/
theorem rest_emod {x a : Int} (ha : 1 ≤ a ∧ a ≤ 12) : Int.tmod (wrap64 (Int.tmod x a + a)) a = x % a := by
  have h1 := Int.tmod_lt_of_pos x (b := a) (by omega)
  have h2 := Int.lt_tmod_of_pos x (b := a) (by omega)
  rw [w64 (by omega) (by omega), Int.tmod_eq_emod_of_nonneg (by omega), Int.add_emod_right, Int.tmod_def, Int.sub_mul_emod_self_left]

def idx (a b x y : Int) : Int := (y % b) * a + x % a

theorem idx_in {a b : Int} (ha : 1 ≤ a ∧ a ≤ 12) (hb : 1 ≤ b ∧ b ≤ 12) (x y : Int) : 0 ≤ idx a b x y ∧ idx a b x y < a * b := by
  unfold idx
  have x0 := Int.emod_nonneg x (b := a) (by omega)
  have x1 := Int.emod_lt_of_pos x (b := a) (by omega)
  have y0 := Int.emod_nonneg y (b := b) (by omega)
  have y1 := Int.emod_lt_of_pos y (b := b) (by omega)
  have h0 : 0 ≤ (y % b) * a := Int.mul_nonneg y0 (by omega)
  have h1 : (y % b) * a ≤ (b - 1) * a := Int.mul_le_mul_of_nonneg_right (by omega) (by omega)
  have h2 : (b - 1) * a = a * b - a := by rw [Int.sub_mul, Int.one_mul, Int.mul_comm]
  omega

theorem idx_fits {a b : Int} (ha : 1 ≤ a ∧ a ≤ 12) (hb : 1 ≤ b ∧ b ≤ 12) (x y : Int) : wrap64 (wrap64 ((y % b) * a) + x % a) = idx a b x y ∧ 0 ≤ (y % b) * a ∧ (y % b) * a ≤ 144 := by
  have x0 := Int.emod_nonneg x (b := a) (by omega)
  have x1 := Int.emod_lt_of_pos x (b := a) (by omega)
  have h := idx_in ha hb x y
  have m := mul12 ha hb
  unfold idx at h ⊢
  have y0 := Int.emod_nonneg y (b := b) (by omega)
  have h0 : 0 ≤ (y % b) * a := Int.mul_nonneg y0 (by omega)
  rw [w64 (x := y % b * a) (by omega) (by omega), w64 (by omega) (by omega)]
  exact ⟨rfl, h0, by omega⟩

def nbS (a b i : Int) : List Int := [idx a b (i % a + 1) (i / a), idx a b (i % a) (i / a + 1), idx a b (i % a - 1) (i / a), idx a b (i % a) (i / a - 1)]
def nbI (a b i : Int) : List Int := [idx a b (i % a + 1) (i / a), idx a b (i % a - 1) (i / a), idx a b (i % a) (i / a + 1), idx a b (i % a) (i / a - 1)]

theorem nb_same (a b x c : Int) : c ∈ nbS a b x ↔ c ∈ nbI a b x := by
  unfold nbS nbI
  simp only [List.mem_cons, List.not_mem_nil, or_false]
  constructor
  · rintro (h | h | h | h)
    · exact Or.inl h
    · exact Or.inr (Or.inr (Or.inl h))
    · exact Or.inr (Or.inl h)
    · exact Or.inr (Or.inr (Or.inr h))
  · rintro (h | h | h | h)
    · exact Or.inl h
    · exact Or.inr (Or.inr (Or.inl h))
    · exact Or.inr (Or.inl h)
    · exact Or.inr (Or.inr (Or.inr h))

theorem nbS_in {a b : Int} (ha : 1 ≤ a ∧ a ≤ 12) (hb : 1 ≤ b ∧ b ≤ 12) (x c : Int) (h : c ∈ nbS a b x) : 0 ≤ c ∧ c < a * b := by
  unfold nbS at h
  simp only [List.mem_cons, List.not_mem_nil, or_false] at h
  rcases h with rfl | rfl | rfl | rfl <;> exact idx_in ha hb _ _

/-- the cells that are met from the first on -/
def flood (p : Int → Bool) (nb : Int → List Int) : Nat → List Int → Nat → List Int
  | 0, q, _ => q
  | n + 1, q, i => if h : i < q.length then flood p nb n (pushes p q (nb q[i])) (i + 1) else q

theorem pushes_in {p : Int → Bool} {q cs : List Int} {N : Int} (hq : ∀ x ∈ q, 0 ≤ x ∧ x < N) (hc : ∀ x ∈ cs, 0 ≤ x ∧ x < N) : ∀ x ∈ pushes p q cs, 0 ≤ x ∧ x < N := by
  intro x hx
  rcases (pushes_mem p cs q x).1 hx with h | h
  · exact hq x h
  · exact hc x h.1

theorem flood_met (p : Int → Bool) (nb : Int → List Int) (first : Int) (N : Nat) (hn : ∀ x c, c ∈ nb x → 0 ≤ c ∧ c < (N : Int)) : ∀ (n : Nat) (q : List Int) (i : Nat), N ≤ i + n → Met p nb first q i → (∀ x ∈ q, 0 ≤ x ∧ x < (N : Int)) → Met p nb first (flood p nb n q i) (flood p nb n q i).length := by
  intro n
  induction n with
  | zero =>
    intro q i hi m hq
    have := m.few N hq
    have := m.hi
    obtain rfl : i = q.length := by omega
    exact m
  | succ n ih =>
    intro q i hi m hq
    unfold flood
    split
    · rename_i h
      exact ih _ _ (by omega) (m.next h) (pushes_in hq (fun x hx => hn _ x hx))
    · rename_i h
      have := m.hi
      obtain rfl : i = q.length := by omega
      exact m

/-- the place of the first cell of a tile, or -1 -/
def fstOf (k : Int) : Int → List Int → Int
  | _, [] => -1
  | i, x :: xs => if x = k then i else fstOf k (i + 1) xs

theorem fstOf_in (k : Int) : ∀ (l : List Int) (i : Int), 0 ≤ i → if k ∈ l then i ≤ fstOf k i l ∧ fstOf k i l < i + l.length else fstOf k i l = -1 := by
  intro l
  induction l with
  | nil => intro i _; simp [fstOf]
  | cons x xs ih =>
    intro i hi
    have := ih (i + 1) (by omega)
    unfold fstOf
    by_cases h : x = k
    · subst h; simp; omega
    · have h2 : ¬ k = x := fun e => h e.symm
      simp only [h, if_false, List.mem_cons, h2, false_or, List.length_cons]
      split at this
      · rename_i h3; rw [if_pos h3]; omega
      · rename_i h3; rw [if_neg h3]; exact this

def many (k : Int) (l : List Int) : Nat := (l.filter (fun x => decide (x = k))).length

/-- whether the cells of a tile hang together -/
def conn (a b : Int) (l : List Int) (k : Int) : Bool := decide ((flood (fun c => decide (rd l c = k)) (nbS a b) l.length [fstOf k 0 l] 0).length = many k l)

theorem conn_I {a b : Int} {l : List Int} {k : Int} (ha : 1 ≤ a ∧ a ≤ 12) (hb : 1 ≤ b ∧ b ≤ 12) (hm : (l.length : Int) = a * b) (hk : k ∈ l) :
    (flood (fun c => decide (rd l c = k)) (nbI a b) l.length [fstOf k 0 l] 0).length = (flood (fun c => decide (rd l c = k)) (nbS a b) l.length [fstOf k 0 l] 0).length := by
  have hf := fstOf_in k l 0 (by omega)
  rw [if_pos hk] at hf
  have hs : ∀ x ∈ [fstOf k 0 l], 0 ≤ x ∧ x < (l.length : Int) := fun x hx => by rw [List.mem_singleton] at hx; subst hx; omega
  have m1 := flood_met (fun c => decide (rd l c = k)) (nbI a b) (fstOf k 0 l) l.length (fun x c h => by rw [hm]; exact nbS_in ha hb x c ((nb_same a b x c).2 h)) l.length [fstOf k 0 l] 0 (by omega) (Met.start _ _ _) hs
  have m2 := flood_met (fun c => decide (rd l c = k)) (nbS a b) (fstOf k 0 l) l.length (fun x c h => by rw [hm]; exact nbS_in ha hb x c h) l.length [fstOf k 0 l] 0 (by omega) (Met.start _ _ _) hs
  exact m1.same m2 (fun x c => (nb_same a b x c).symm)

def mxf (t x : Int) : Int := if t > x then t else x

/-- the number of tiles -/
def top (l : List Int) : Int := l.foldl mxf (-1) + 1

def okT (a b : Int) (l : List Int) : Bool := decide (1 ≤ a ∧ a ≤ 12) && (decide (1 ≤ b ∧ b ≤ 12) && (decide ((l.length : Int) = a * b) && (l.all (fun x => decide (0 ≤ x ∧ x ≤ 35)) &&
  (List.range (top l).toNat).all (fun k => decide ((k : Int) ∈ l) && conn a b l k))))

theorem mxf_eq (t x : Int) : (t ≤ mxf t x ∧ x ≤ mxf t x) ∧ (mxf t x = t ∨ mxf t x = x) := by
  unfold mxf
  by_cases h : t > x
  · rw [if_pos h]; exact ⟨⟨Int.le_refl _, by omega⟩, Or.inl rfl⟩
  · rw [if_neg h]; exact ⟨⟨by omega, Int.le_refl _⟩, Or.inr rfl⟩

theorem foldmax (l : List Int) : ∀ t : Int, t ≤ l.foldl mxf t ∧ (∀ x ∈ l, x ≤ l.foldl mxf t) ∧ (l.foldl mxf t = t ∨ l.foldl mxf t ∈ l) := by
  induction l with
  | nil => intro t; simp
  | cons x l ih =>
    intro t
    rw [List.foldl_cons]
    obtain ⟨h1, h2, h3⟩ := ih (mxf t x)
    obtain ⟨⟨m1, m2⟩, m3⟩ := mxf_eq t x
    refine ⟨by omega, ?_, ?_⟩
    · intro y hy
      rcases List.mem_cons.1 hy with rfl | hy
      · omega
      · exact h2 y hy
    · rcases h3 with h3 | h3
      · rw [h3]
        rcases m3 with m3 | m3
        · exact Or.inl m3
        · exact Or.inr (by rw [m3]; simp)
      · exact Or.inr (List.mem_cons_of_mem _ h3)

theorem has_eq (q : List Int) (c : Int) (hq : q.length ≤ 1048576) (k : Nat) (hk : q.length < k) : spec_l00Has.f k q c = some (decide (c ∈ q)) := by
  unfold spec_l00Has.f
  rw [all_loop q 0 (fun x => !decide (x = c)) true false (fun k i => spec_l00Has.l0 k q c i) (by
    intro k i hi _
    simp only [spec_l00Has.l0]
    rw [if_pos (by omega), if_pos (by omega), rdi q i hi, wnat (by omega)]
    by_cases h : q[i] = c
    · rw [if_pos h, if_neg (by simp [h])]
    · rw [if_neg h, if_pos (by simp [h])]) (by
    intro k _
    simp only [spec_l00Has.l0]
    rw [if_neg (by omega)]) k (by omega)]
  congr 1
  by_cases h : c ∈ q
  · rw [if_neg (by intro h2; have := List.all_eq_true.1 h2 c h; simp at this)]; simp [h]
  · rw [if_pos (List.all_eq_true.2 fun x hx => by
      have : x ≠ c := fun e => h (e ▸ hx)
      simp [this])]
    simp [h]

theorem specIndex {a b : Int} (l : List Int) (ha : 1 ≤ a ∧ a ≤ 12) (hb : 1 ≤ b ∧ b ≤ 12) (x y : Int) : spec_l17Index.f [(⟨a, b, l⟩ : S27)] x y = some (idx a b x y) := by
  have r : rd_T27 [(⟨a, b, l⟩ : S27)] 0 = ⟨a, b, l⟩ := rfl
  simp only [spec_l17Index.f, r]
  rw [if_pos (by simp), if_neg (by omega), if_neg (by omega), rest_emod hb, rest_emod ha, (idx_fits ha hb x y).1]

theorem implIndex {a b : Int} (l : List Int) (ha : 1 ≤ a ∧ a ≤ 12) (hb : 1 ≤ b ∧ b ≤ 12) (x y : Int) : impl_touchingCells_1.f x y [(⟨a, b, l⟩ : S27)] = some (idx a b x y) := by
  have r : rd_T27 [(⟨a, b, l⟩ : S27)] 0 = ⟨a, b, l⟩ := rfl
  simp only [impl_touchingCells_1.f, impl_rest.f, r]
  rw [if_pos (by simp), if_neg (by omega), if_neg (by omega), rest_emod hb, rest_emod ha]
  simp only [Option.bind_some]
  rw [(idx_fits ha hb x y).1]

theorem cellOf {a b i : Int} (ha : 1 ≤ a ∧ a ≤ 12) (hb : 1 ≤ b ∧ b ≤ 12) (hi : 0 ≤ i ∧ i < a * b) : (Int.tmod i a = i % a ∧ Int.tdiv i a = i / a) ∧ (0 ≤ i % a ∧ i % a < a) ∧ (0 ≤ i / a ∧ i / a ≤ 144) := by
  have m := mul12 ha hb
  have h1 := Int.emod_nonneg i (b := a) (by omega)
  have h2 := Int.emod_lt_of_pos i (b := a) (by omega)
  have h3 : 0 ≤ i / a := Int.ediv_nonneg hi.1 (by omega)
  have h4 := Int.ediv_le_self a hi.1
  exact ⟨⟨Int.tmod_eq_emod_of_nonneg hi.1, Int.tdiv_eq_ediv_of_nonneg hi.1⟩, ⟨h1, h2⟩, h3, by omega⟩

theorem specAround {a b : Int} (l : List Int) (ha : 1 ≤ a ∧ a ≤ 12) (hb : 1 ≤ b ∧ b ≤ 12) (i : Int) (hi : 0 ≤ i ∧ i < a * b) : spec_l17Around.f [(⟨a, b, l⟩ : S27)] i = some (nbS a b i) := by
  have r : rd_T27 [(⟨a, b, l⟩ : S27)] 0 = ⟨a, b, l⟩ := rfl
  obtain ⟨⟨e1, e2⟩, x0, y0⟩ := cellOf ha hb hi
  simp only [spec_l17Around.f, r]
  rw [if_pos (by simp), if_neg (by omega), e1, e2, w64 (x := i / a) (by omega) (by omega), w64 (x := i % a + 1) (by omega) (by omega), w64 (x := i / a + 1) (by omega) (by omega), w64 (x := i % a - 1) (by omega) (by omega), w64 (x := i / a - 1) (by omega) (by omega)]
  simp only [specIndex l ha hb, Option.bind_some]
  rfl

theorem implAround {a b : Int} (l : List Int) (ha : 1 ≤ a ∧ a ≤ 12) (hb : 1 ≤ b ∧ b ≤ 12) (i : Int) (hi : 0 ≤ i ∧ i < a * b) :
    impl_touchingCells.f a b l i = some (idx a b (i % a + 1) (i / a), idx a b (i % a - 1) (i / a), idx a b (i % a) (i / a + 1), idx a b (i % a) (i / a - 1)) := by
  obtain ⟨⟨e1, e2⟩, x0, y0⟩ := cellOf ha hb hi
  simp only [impl_touchingCells.f]
  rw [if_neg (by omega), e1, e2, w64 (x := i / a) (by omega) (by omega), w64 (x := i % a + 1) (by omega) (by omega), w64 (x := i / a + 1) (by omega) (by omega), w64 (x := i % a - 1) (by omega) (by omega), w64 (x := i / a - 1) (by omega) (by omega)]
  simp only [implIndex l ha hb, Option.bind_some]

theorem rd_mid (dn : List Int) (c : Int) (cs : List Int) : rd (dn ++ c :: cs) (dn.length : Int) = c := by
  unfold rd; simp [List.getD]

/-- the reference's step from a cell -/
theorem specIn (a b : Int) (l : List Int) (kk all i : Int) : ∀ (cs dn q : List Int) (f k : Nat), f = k + cs.length + 1 → q.length + cs.length ≤ 400 → 400 < k → dn.length + cs.length ≤ 10 → (∀ c ∈ cs, 0 ≤ c ∧ c < (l.length : Int)) →
    spec_l17Joined.l2 f kk all q i (dn ++ cs) (dn.length : Int) [(⟨a, b, l⟩ : S27)] = spec_l17Joined.l1 k kk all (pushes (fun c => decide (rd l c = kk)) q cs) (wrap64 (i + 1)) [(⟨a, b, l⟩ : S27)] := by
  have r : rd_T27 [(⟨a, b, l⟩ : S27)] 0 = ⟨a, b, l⟩ := rfl
  intro cs
  induction cs with
  | nil =>
    intro dn q f k hf hq hk hd hc
    obtain rfl : f = k + 1 := by simpa using hf
    simp only [spec_l17Joined.l2, r]
    rw [if_neg (by simp)]
    rfl
  | cons c cs ih =>
    intro dn q f k hf hq hk hd hc
    rw [List.length_cons] at hf hq hd
    obtain ⟨f, rfl⟩ : ∃ m, f = m + 1 := ⟨f - 1, by omega⟩
    obtain ⟨c0, c1⟩ := hc c (by simp)
    have hi := fun q' (hq' : q'.length ≤ q.length + 1) => ih (dn ++ [c]) q' f k (by omega) (by omega) hk (by rw [List.length_append, List.length_singleton]; omega) (fun x hx => hc x (List.mem_cons_of_mem _ hx))
    rw [List.append_assoc, List.singleton_append, List.length_append, List.length_singleton] at hi
    simp only [spec_l17Joined.l2, r, rd_mid]
    rw [if_pos (by rw [List.length_append, List.length_cons]; omega), if_pos (by simp), if_pos (by omega), if_pos c0, if_pos c1, wnat (by omega), has_eq q c (by omega) f (by omega)]
    simp only [Option.bind_some]
    show _ = spec_l17Joined.l1 k kk all (pushes (fun c => decide (rd l c = kk)) (push (fun c => decide (rd l c = kk)) q c) cs) (wrap64 (i + 1)) _
    by_cases hp : rd l c = kk
    · by_cases hm : c ∈ q
      · have e : push (fun c => decide (rd l c = kk)) q c = q := by unfold push; rw [if_neg (by simp [hm])]
        rw [if_pos hp, if_pos (by simp [hm]), e]
        exact hi q (by omega)
      · have e : push (fun c => decide (rd l c = kk)) q c = q ++ [c] := by unfold push; rw [if_pos (by simp [hm, hp])]
        rw [if_pos hp, if_neg (by simp [hm]), if_pos (by omega), e]
        exact hi (q ++ [c]) (by simp)
    · have e : push (fun c => decide (rd l c = kk)) q c = q := by unfold push; rw [if_neg (by simp [hp])]
      rw [if_neg hp, e]
      exact hi q (by omega)

theorem specOut {a b : Int} {l : List Int} (ha : 1 ≤ a ∧ a ≤ 12) (hb : 1 ≤ b ∧ b ≤ 12) (hm : (l.length : Int) = a * b) (kk all first : Int) : ∀ (n : Nat) (q : List Int) (i : Nat), l.length ≤ i + n → Met (fun c => decide (rd l c = kk)) (nbS a b) first q i → (∀ x ∈ q, 0 ≤ x ∧ x < (l.length : Int)) → ∀ k, 6 * n + 400 < k →
    spec_l17Joined.l1 k kk all q (i : Int) [(⟨a, b, l⟩ : S27)] = some (((flood (fun c => decide (rd l c = kk)) (nbS a b) n q i).length : Int) == all) := by
  have m12 := mul12 ha hb
  intro n
  induction n with
  | zero =>
    intro q i hi m hq k hk
    have := m.few l.length hq
    have := m.hi
    obtain ⟨k, rfl⟩ : ∃ m, k = m + 1 := ⟨k - 1, by omega⟩
    simp only [spec_l17Joined.l1]
    rw [if_neg (by omega)]
    rfl
  | succ n ih =>
    intro q i hi m hq k hk
    have h1 := m.few l.length hq
    have h2 := m.hi
    obtain ⟨k, rfl⟩ : ∃ m, k = m + 6 := ⟨k - 6, by omega⟩
    by_cases h : i < q.length
    · have hx := hq _ (List.getElem_mem h)
      have hn : ∀ c ∈ nbS a b q[i], 0 ≤ c ∧ c < (l.length : Int) := fun c hc => by rw [hm]; exact nbS_in ha hb _ c hc
      rw [show spec_l17Joined.l1 (k + 6) kk all q (i : Int) [(⟨a, b, l⟩ : S27)] = spec_l17Joined.l2 (k + 5) kk all q (i : Int) ([] ++ nbS a b q[i]) ((([] : List Int).length : Nat) : Int) [(⟨a, b, l⟩ : S27)] by
        simp only [spec_l17Joined.l1]
        rw [if_pos (by omega), if_pos (by omega), rdi q i h, specAround l ha hb _ (by omega)]
        rfl]
      rw [specIn a b l kk all i (nbS a b q[i]) [] q (k + 5) k rfl (by show q.length + 4 ≤ 400; omega) (by omega) (by show 0 + 4 ≤ 10; omega) hn, wnat (by omega)]
      rw [ih _ (i + 1) (by omega) (m.next h) (pushes_in hq hn) k (by omega)]
      rw [show flood (fun c => decide (rd l c = kk)) (nbS a b) (n + 1) q i = flood (fun c => decide (rd l c = kk)) (nbS a b) n (pushes (fun c => decide (rd l c = kk)) q (nbS a b q[i])) (i + 1) by
        simp only [flood]; rw [dif_pos h]]
    · rw [show flood (fun c => decide (rd l c = kk)) (nbS a b) (n + 1) q i = q by simp only [flood]; rw [dif_neg h]]
      simp only [spec_l17Joined.l1]
      rw [if_neg (by omega)]

theorem specFst (a b : Int) (l : List Int) (kk : Int) (hl : l.length ≤ 1000) (all : Int → Int → Int) (R : Int → Int → Option Bool) (K1 : Nat)
    (hR : ∀ k x5 x6, K1 < k → x5 = fstOf kk 0 l → x6 = (many kk l : Int) → spec_l17Joined.l1 k kk x6 [x5] 0 [(⟨a, b, l⟩ : S27)] = R x5 x6) : ∀ (n i : Nat) (x5 x6 : Int) (k : Nat), i + n = l.length → K1 + n + 1 < k → 0 ≤ x6 → x6 ≤ i → (if x5 < 0 then fstOf kk i (l.drop i) else x5) = fstOf kk 0 l → x6 + (many kk (l.drop i) : Int) = many kk l → (x5 = -1 ∨ 0 ≤ x5) →
    spec_l17Joined.l0 k kk x5 x6 (i : Int) [(⟨a, b, l⟩ : S27)] = R (fstOf kk 0 l) (many kk l) := by
  have r : rd_T27 [(⟨a, b, l⟩ : S27)] 0 = ⟨a, b, l⟩ := rfl
  intro n
  induction n with
  | zero =>
    intro i x5 x6 k hi hk h0 h1 hf hmm h5
    obtain ⟨k, rfl⟩ : ∃ m, k = m + 1 := ⟨k - 1, by omega⟩
    obtain rfl : i = l.length := by omega
    simp only [spec_l17Joined.l0, r]
    rw [if_pos (by simp), if_neg (by omega)]
    rw [List.drop_length] at hf hmm
    have e5 : x5 = fstOf kk 0 l := by
      rw [← hf]
      split
      · rename_i h; rcases h5 with rfl | h5
        · rfl
        · omega
      · rfl
    have e6 : x6 = (many kk l : Int) := by rw [← hmm]; simp [many]
    rw [hR k x5 x6 (by omega) e5 e6, e5, e6]
  | succ n ih =>
    intro i x5 x6 k hi hk h0 h1 hf hmm h5
    obtain ⟨k, rfl⟩ : ∃ m, k = m + 1 := ⟨k - 1, by omega⟩
    have hlt : i < l.length := by omega
    rw [List.drop_eq_getElem_cons hlt] at hf hmm
    simp only [spec_l17Joined.l0, r]
    rw [if_pos (by simp), if_pos (by omega), if_pos (by omega), rdi l i hlt, wnat (by omega)]
    by_cases hk2 : l[i] = kk
    · rw [if_pos hk2, w64 (x := x6 + 1) (by omega) (by omega)]
      have e : many kk (l[i] :: l.drop (i + 1)) = many kk (l.drop (i + 1)) + 1 := by simp [many, hk2]
      rw [e] at hmm
      by_cases h : x5 < 0
      · rw [if_pos h]
        refine ih (i + 1) i (x6 + 1) k (by omega) (by omega) (by omega) (by omega) ?_ (by omega) (Or.inr (by omega))
        rw [if_neg (by omega), ← hf, if_pos h]
        simp [fstOf, hk2]
      · rw [if_neg h]
        refine ih (i + 1) x5 (x6 + 1) k (by omega) (by omega) (by omega) (by omega) ?_ (by omega) (Or.inr (by omega))
        rw [if_neg h, ← hf, if_neg h]
    · rw [if_neg hk2]
      have e : many kk (l[i] :: l.drop (i + 1)) = many kk (l.drop (i + 1)) := by unfold many; rw [List.filter_cons_of_neg (by simp [hk2])]
      rw [e] at hmm
      refine ih (i + 1) x5 x6 k (by omega) (by omega) (by omega) (by omega) ?_ (by omega) h5
      rw [← hf]
      by_cases h : x5 < 0
      · rw [if_pos h, if_pos h]
        simp [fstOf, hk2]
      · rw [if_neg h, if_neg h]

theorem specJoined {a b : Int} {l : List Int} (ha : 1 ≤ a ∧ a ≤ 12) (hb : 1 ≤ b ∧ b ≤ 12) (hm : (l.length : Int) = a * b) (kk : Int) (hk2 : kk ∈ l) (k : Nat) (hk : 3000 < k) : spec_l17Joined.f k [(⟨a, b, l⟩ : S27)] kk = some (conn a b l kk) := by
  have m12 := mul12 ha hb
  have hf := fstOf_in kk l 0 (by omega)
  rw [if_pos hk2] at hf
  unfold spec_l17Joined.f
  have := specFst a b l kk (by omega) (fun x _ => x) (fun _ _ => some (conn a b l kk)) 2000 (by
    intro k x5 x6 hk e5 e6
    subst e5
    subst e6
    have := specOut ha hb hm kk (many kk l : Int) (fstOf kk 0 l) l.length [fstOf kk 0 l] 0 (by omega) (Met.start _ _ _) (fun x hx => by rw [List.mem_singleton] at hx; subst hx; omega) k (by omega)
    rw [show ((0 : Nat) : Int) = 0 from rfl] at this
    rw [this]
    unfold conn
    congr 1
    rw [Bool.eq_iff_iff, beq_iff_eq, decide_eq_true_iff]
    omega) l.length 0 (-1) 0 k (by omega) (by omega) (by omega) (by omega) (by rw [if_pos (by omega)]; rfl) (by simp) (Or.inl rfl)
  exact this

/-- the greatest number of a list whose numbers are all from -1 on -/
theorem top_of {l : List Int} {m : Int} (h1 : ∀ x ∈ l, x ≤ m) (h2 : m ∈ l) (h0 : ∀ x ∈ l, 0 ≤ x) : top l = m + 1 := by
  unfold top
  obtain ⟨a1, a2, a3⟩ := foldmax l (-1)
  have := a2 m h2
  have := h0 m h2
  rcases a3 with a3 | a3
  · omega
  · have := h1 _ a3
    omega

theorem top_pos {l : List Int} (hl : 0 < l.length) (h0 : ∀ x ∈ l, 0 ≤ x ∧ x ≤ 35) : 1 ≤ top l ∧ top l ≤ 36 ∧ ∀ x ∈ l, x < top l := by
  unfold top
  obtain ⟨a1, a2, a3⟩ := foldmax l (-1)
  have hx := h0 _ (List.getElem_mem hl)
  have hy := a2 _ (List.getElem_mem hl)
  refine ⟨by omega, ?_, fun x hx => by have := a2 x hx; omega⟩
  rcases a3 with a3 | a3
  · omega
  · have := h0 _ a3; omega

def inR (x : Int) : Bool := decide (0 ≤ x ∧ x ≤ 35)

theorem l00Max_eq (a b : Int) : spec_l00Max.f a b = some (mxf a b) := by
  unfold spec_l00Max.f mxf
  by_cases h : a > b
  · rw [if_pos h, if_pos h]
  · rw [if_neg h, if_neg h]

theorem most1 (a b : Int) (l : List Int) (hl : l.length ≤ 1000) (n : Nat) (hn : n ≤ 36) (k0 : Nat) (hk0 : 2000 < k0) :
    spec_l17Most.l1 k0 ((n : Int) - 1) 0 [(⟨a, b, l⟩ : S27)] = some (if (List.range n).all (fun k => decide ((k : Int) ∈ l)) = true then (n : Int) else -1) := by
  have r : rd_T27 [(⟨a, b, l⟩ : S27)] 0 = ⟨a, b, l⟩ := rfl
  refine all_loop (List.range n) 1001 (fun k => decide ((k : Int) ∈ l)) (-1) (n : Int) (fun k i => spec_l17Most.l1 k ((n : Int) - 1) i [(⟨a, b, l⟩ : S27)]) ?_ ?_ k0 (by rw [List.length_range]; omega)
  · intro k i hi hk
    rw [List.length_range] at hi
    simp only [spec_l17Most.l1, r]
    rw [if_pos (by omega), if_pos (by simp), has_eq l i (by omega) k (by omega), wnat (by omega), List.getElem_range]
    rfl
  · intro k hk
    rw [List.length_range]
    simp only [spec_l17Most.l1, r]
    rw [if_neg (by omega), w64 (by omega) (by omega)]
    congr 1
    omega

theorem most0 (a b : Int) (l : List Int) (hl : l.length ≤ 1000) (hp : 0 < l.length) : ∀ (n i : Nat) (t : Int) (k : Nat), i + n = l.length → 2100 + n < k → -1 ≤ t → t ≤ 35 → (l.take i).all inR = true → t = (l.take i).foldl mxf (-1) →
    spec_l17Most.l0 k t (i : Int) [(⟨a, b, l⟩ : S27)] = some (if l.all inR = true ∧ (List.range (top l).toNat).all (fun k => decide ((k : Int) ∈ l)) = true then top l else -1) := by
  have r : rd_T27 [(⟨a, b, l⟩ : S27)] 0 = ⟨a, b, l⟩ := rfl
  intro n
  induction n with
  | zero =>
    intro i t k hi hk h0 h1 ha ht
    obtain ⟨k, rfl⟩ : ∃ m, k = m + 1 := ⟨k - 1, by omega⟩
    obtain rfl : i = l.length := by omega
    rw [List.take_length] at ha ht
    have htop : top l = t + 1 := by rw [ht]; rfl
    have hall : ∀ x ∈ l, 0 ≤ x ∧ x ≤ 35 := fun x hx => by simpa [inR] using List.all_eq_true.1 ha x hx
    have hpos := top_pos hp hall
    simp only [spec_l17Most.l0, r]
    rw [if_pos (by simp), if_neg (by omega)]
    have := most1 a b l hl (top l).toNat (by omega) k (by omega)
    rw [show (((top l).toNat : Nat) : Int) = top l by omega, show top l - 1 = t by omega] at this
    rw [this]
    simp only [ha, true_and]
  | succ n ih =>
    intro i t k hi hk h0 h1 ha ht
    obtain ⟨k, rfl⟩ : ∃ m, k = m + 1 := ⟨k - 1, by omega⟩
    have hlt : i < l.length := by omega
    simp only [spec_l17Most.l0, r]
    rw [if_pos (by simp), if_pos (by omega), if_pos (by omega), rdi l i hlt, l00In_eq, l00Max_eq, wnat (by omega)]
    simp only [Option.bind_some, decide_eq_true_eq]
    by_cases h : 0 ≤ l[i] ∧ l[i] ≤ 35
    · rw [if_pos h]
      have m := mxf_eq t l[i]
      refine ih (i + 1) (mxf t l[i]) k (by omega) (by omega) (by omega) (by omega) ?_ ?_
      · rw [List.take_succ_eq_append_getElem hlt, List.all_append, ha, Bool.true_and]
        simp [inR, h]
      · rw [List.take_succ_eq_append_getElem hlt, List.foldl_append, ← ht]; rfl
    · rw [if_neg h, if_neg]
      rintro ⟨h2, _⟩
      have := List.all_eq_true.1 h2 _ (List.getElem_mem hlt)
      exact h (by simpa [inR] using this)

theorem specOk {a b : Int} {l : List Int} (k : Nat) (hk : 9000 < k) : spec_l17Ok.f k [(⟨a, b, l⟩ : S27)] = some (okT a b l) := by
  have r : rd_T27 [(⟨a, b, l⟩ : S27)] 0 = ⟨a, b, l⟩ := rfl
  obtain ⟨k, rfl⟩ : ∃ m, k = m + 1 := ⟨k - 1, by omega⟩
  unfold spec_l17Ok.f okT
  rw [if_pos (by simp), r, l00In_eq, l00In_eq]
  simp only [Option.bind_some, spec_l17Ok.j0]
  by_cases ha : 1 ≤ a ∧ a ≤ 12
  · by_cases hb : 1 ≤ b ∧ b ≤ 12
    · have m12 := mul12 ha hb
      rw [w64 (x := a * b) (by omega) (by omega)]
      by_cases hm : (l.length : Int) = a * b
      · have hp : 0 < l.length := by omega
        simp only [ha, hb, hm, and_self, decide_true, if_true, bne_self_eq_false, Bool.false_eq_true, if_false, Bool.true_and]
        have hmost := most0 a b l (by omega) hp l.length 0 (-1) k (by omega) (by omega) (by omega) (by omega) (by simp) (by simp)
        rw [show ((0 : Nat) : Int) = 0 from rfl] at hmost
        rw [show spec_l17Most.f k [(⟨a, b, l⟩ : S27)] = spec_l17Most.l0 k (-1) 0 [(⟨a, b, l⟩ : S27)] from rfl, hmost]
        simp only [Option.bind_some]
        show spec_l17Ok.l0 k _ 0 _ = some ((l.all inR) && _)
        by_cases hin : l.all inR = true
        · have hall : ∀ x ∈ l, 0 ≤ x ∧ x ≤ 35 := fun x hx => by simpa [inR] using List.all_eq_true.1 hin x hx
          have hpos := top_pos hp hall
          by_cases hocc : (List.range (top l).toNat).all (fun k => decide ((k : Int) ∈ l)) = true
          · rw [if_pos ⟨hin, hocc⟩]
            have hl0 := all_loop (List.range (top l).toNat) 3500 (fun k => conn a b l k) false true (fun k i => spec_l17Ok.l0 k (top l) i [(⟨a, b, l⟩ : S27)]) (by
              intro k i hi hk
              have hi2 := hi
              rw [List.length_range] at hi2
              have hmem : (i : Int) ∈ l := by
                have := List.all_eq_true.1 hocc i (List.mem_range.2 hi2)
                simpa using this
              simp only [spec_l17Ok.l0]
              rw [if_pos (by omega), specJoined ha hb hm i hmem k (by omega), wnat (by omega), List.getElem_range]
              rfl) (by
              intro k hk
              rw [List.length_range]
              simp only [spec_l17Ok.l0]
              rw [if_neg (by omega)]
              simp; omega) k (by rw [List.length_range]; omega)
            rw [hl0]
            simp only [Option.bind_some, hin, Bool.true_and]
            congr 1
            rw [Bool.eq_iff_iff]
            simp only [List.all_eq_true, Bool.and_eq_true] at hocc ⊢
            constructor
            · intro h
              split at h
              · rename_i h2; exact fun x hx => ⟨hocc x hx, h2 x hx⟩
              · cases h
            · intro h
              rw [if_pos (fun x hx => (h x hx).2)]
          · rw [if_neg (fun h => hocc h.2)]
            obtain ⟨k, rfl⟩ : ∃ m, k = m + 1 := ⟨k - 1, by omega⟩
            simp only [spec_l17Ok.l0]
            rw [if_neg (by omega)]
            simp only [Option.bind_some, hin, Bool.true_and]
            congr 1
            symm
            rw [show decide ((-1 : Int) > 0) = false from rfl, Bool.eq_false_iff]
            intro h
            refine hocc (List.all_eq_true.2 fun x hx => ?_)
            have := List.all_eq_true.1 h x hx
            rw [Bool.and_eq_true] at this
            exact this.1
        · rw [if_neg (fun h => hin h.1)]
          obtain ⟨k, rfl⟩ : ∃ m, k = m + 1 := ⟨k - 1, by omega⟩
          simp only [spec_l17Ok.l0]
          rw [if_neg (by omega)]
          simp [hin]
      · simp [ha, hb, hm]
    · simp [ha, hb]
  · simp [ha]

theorem foldmx (l : List Int) : ∀ (t : Int), l.foldl mx t = l.foldl mxf t := by
  induction l with
  | nil => intro t; rfl
  | cons x l ih =>
    intro t
    rw [List.foldl_cons, List.foldl_cons, ih]
    congr 1
    unfold mx mxf
    by_cases h : t > x
    · rw [if_neg (by omega), if_pos h]
    · rw [if_neg h]
      by_cases h2 : t < x
      · rw [if_pos h2]
      · rw [if_neg h2]; omega

theorem implMax (l : List Int) (hp : 0 < l.length) (hl : l.length ≤ 1000) (k : Nat) (hk : 1100 < k) : slices_Max_int64_int64.f k l = some ((l.drop 1).foldl mx l[0]) := by
  unfold slices_Max_int64_int64.f
  rw [if_neg (by omega), if_pos (by omega)]
  have : ∀ (n i : Nat) (t : Int) (k : Nat), i + n = l.length → n < k → slices_Max_int64_int64.l0 k l t (i : Int) = some ((l.drop i).foldl mx t) := by
    intro n
    induction n with
    | zero =>
      intro i t k hi hk
      obtain ⟨k, rfl⟩ : ∃ m, k = m + 1 := ⟨k - 1, by omega⟩
      obtain rfl : i = l.length := by omega
      simp only [slices_Max_int64_int64.l0]
      rw [if_neg (by omega), List.drop_length]; rfl
    | succ n ih =>
      intro i t k hi hk
      obtain ⟨k, rfl⟩ : ∃ m, k = m + 1 := ⟨k - 1, by omega⟩
      have hlt : i < l.length := by omega
      simp only [slices_Max_int64_int64.l0]
      rw [if_pos (by omega), if_pos (by omega), rdi l i hlt, wnat (by omega), ih (i + 1) _ k (by omega) (by omega), List.drop_eq_getElem_cons hlt, List.foldl_cons]
  rw [show rd l 0 = l[0] from rdi l 0 hp]
  exact this (l.length - 1) 1 _ k (by omega) (by omega)

theorem foldmin (l : List Int) : ∀ t : Int, l.foldl mn t ≤ t ∧ (∀ x ∈ l, l.foldl mn t ≤ x) ∧ (l.foldl mn t = t ∨ l.foldl mn t ∈ l) := by
  induction l with
  | nil => intro t; simp
  | cons x l ih =>
    intro t
    rw [List.foldl_cons]
    obtain ⟨h1, h2, h3⟩ := ih (mn t x)
    have m : (mn t x ≤ t ∧ mn t x ≤ x) ∧ (mn t x = t ∨ mn t x = x) := by
      unfold mn
      by_cases h : x < t
      · rw [if_pos h]; exact ⟨⟨by omega, Int.le_refl _⟩, Or.inr rfl⟩
      · rw [if_neg h]; exact ⟨⟨Int.le_refl _, by omega⟩, Or.inl rfl⟩
    obtain ⟨⟨m1, m2⟩, m3⟩ := m
    refine ⟨by omega, ?_, ?_⟩
    · intro y hy
      rcases List.mem_cons.1 hy with rfl | hy
      · omega
      · exact h2 y hy
    · rcases h3 with h3 | h3
      · rw [h3]
        rcases m3 with m3 | m3
        · exact Or.inl m3
        · exact Or.inr (by rw [m3]; simp)
      · exact Or.inr (List.mem_cons_of_mem _ h3)

theorem implMin (l : List Int) (hp : 0 < l.length) (hl : l.length ≤ 1000) (k : Nat) (hk : 1100 < k) : slices_Min_int64_int64.f k l = some ((l.drop 1).foldl mn l[0]) := by
  unfold slices_Min_int64_int64.f
  rw [if_neg (by omega), if_pos (by omega)]
  have : ∀ (n i : Nat) (t : Int) (k : Nat), i + n = l.length → n < k → slices_Min_int64_int64.l0 k l t (i : Int) = some ((l.drop i).foldl mn t) := by
    intro n
    induction n with
    | zero =>
      intro i t k hi hk
      obtain ⟨k, rfl⟩ : ∃ m, k = m + 1 := ⟨k - 1, by omega⟩
      obtain rfl : i = l.length := by omega
      simp only [slices_Min_int64_int64.l0]
      rw [if_neg (by omega), List.drop_length]; rfl
    | succ n ih =>
      intro i t k hi hk
      obtain ⟨k, rfl⟩ : ∃ m, k = m + 1 := ⟨k - 1, by omega⟩
      have hlt : i < l.length := by omega
      simp only [slices_Min_int64_int64.l0]
      rw [if_pos (by omega), if_pos (by omega), rdi l i hlt, wnat (by omega), ih (i + 1) _ k (by omega) (by omega), List.drop_eq_getElem_cons hlt, List.foldl_cons]
  rw [show rd l 0 = l[0] from rdi l 0 hp]
  exact this (l.length - 1) 1 _ k (by omega) (by omega)

theorem cons_drop (l : List Int) (hp : 0 < l.length) : l = l[0] :: l.drop 1 := by
  have := List.drop_eq_getElem_cons hp
  rwa [List.drop_zero] at this

theorem max_top (l : List Int) (hp : 0 < l.length) (h0 : ∀ x ∈ l, 0 ≤ x) : (l.drop 1).foldl mx l[0] = top l - 1 := by
  rw [foldmx]
  obtain ⟨a1, a2, a3⟩ := foldmax (l.drop 1) l[0]
  have hc := cons_drop l hp
  have e := top_of (l := l) (m := (l.drop 1).foldl mxf l[0]) (fun x hx => by
    rw [hc] at hx
    rcases List.mem_cons.1 hx with rfl | hx
    · exact a1
    · exact a2 x hx) (by
    rcases a3 with a3 | a3
    · rw [a3]; exact List.getElem_mem hp
    · exact List.mem_of_mem_drop a3) h0
  omega

theorem implIndexOf (l : List Int) (hl : l.length ≤ 1000) (kk : Int) (k : Nat) (hk : 1100 < k) : slices_Index_int64_int64.f k l kk = some (fstOf kk 0 l) := by
  unfold slices_Index_int64_int64.f
  have : ∀ (n i : Nat) (k : Nat), i + n = l.length → n < k → slices_Index_int64_int64.l0 k l kk (l.length : Int) (i : Int) = some (fstOf kk i (l.drop i)) := by
    intro n
    induction n with
    | zero =>
      intro i k hi hk
      obtain ⟨k, rfl⟩ : ∃ m, k = m + 1 := ⟨k - 1, by omega⟩
      obtain rfl : i = l.length := by omega
      simp only [slices_Index_int64_int64.l0]
      rw [if_neg (by omega), List.drop_length]; rfl
    | succ n ih =>
      intro i k hi hk
      obtain ⟨k, rfl⟩ : ∃ m, k = m + 1 := ⟨k - 1, by omega⟩
      have hlt : i < l.length := by omega
      simp only [slices_Index_int64_int64.l0]
      rw [if_pos (by omega), if_pos (by omega), if_pos (by omega), rdi l i hlt, wnat (by omega), ih (i + 1) k (by omega) (by omega), List.drop_eq_getElem_cons hlt]
      show _ = some (if l[i] = kk then (i : Int) else fstOf kk ((i : Int) + 1) (l.drop (i + 1)))
      by_cases h : kk = l[i]
      · rw [if_pos h, if_pos h.symm]
      · rw [if_neg h, if_neg (fun e => h e.symm)]; rfl
  exact this l.length 0 k (by omega) (by omega)

/-- what the list of flags tells -/
def Flags (N : Nat) (met : List Bool) (q : List Int) : Prop := met.length = N ∧ ∀ c : Int, 0 ≤ c → c < N → rdOf false met c = decide (c ∈ q)

theorem flags_set {N : Nat} {met : List Bool} {q : List Int} (h : Flags N met q) (c : Int) (c0 : 0 ≤ c) (c1 : c < N) : Flags N (met.set c.toNat true) (q ++ [c]) := by
  refine ⟨by rw [List.length_set]; exact h.1, fun x x0 x1 => ?_⟩
  have hx := h.2 x x0 x1
  have hl := h.1
  unfold rdOf at hx ⊢
  simp only [List.getD_eq_getElem?_getD, List.getElem?_set] at hx ⊢
  by_cases e : c.toNat = x.toNat
  · obtain rfl : c = x := by omega
    rw [if_pos rfl, if_pos (by omega)]
    simp
  · rw [if_neg e, hx]
    have : ¬ x = c := fun e2 => e (by rw [e2])
    simp [this]

theorem implIn {a b : Int} {l : List Int} (kk cnt i nn kk2 c0 c1 c2 c3 : Int) : ∀ (cs dn q : List Int) (met : List Bool), Flags l.length met q → [c0, c1, c2, c3] = dn ++ cs → q.length + cs.length ≤ 400 → (∀ c ∈ cs, 0 ≤ c ∧ c < (l.length : Int)) → ∃ met', Flags l.length met' (pushes (fun c => decide (rd l c = kk)) q cs) ∧ ∀ (f k : Nat), f = k + cs.length + 1 →
    impl_ValidTiling.l2 f kk met q cnt i nn kk2 (dn.length : Int) c0 c1 c2 c3 a b l = impl_ValidTiling.l1 k kk met' (pushes (fun c => decide (rd l c = kk)) q cs) cnt (wrap64 (i + 1)) nn kk2 a b l := by
  intro cs
  induction cs with
  | nil =>
    intro dn q met hf hd hq hc
    refine ⟨met, hf, fun f k hfk => ?_⟩
    obtain rfl : f = k + 1 := by simpa using hfk
    have h4 : dn.length = 4 := by have := congrArg List.length hd; simpa using this.symm
    simp only [impl_ValidTiling.l2]
    rw [if_neg (by omega)]
    rfl
  | cons c cs ih =>
    intro dn q met hf hd hq hc
    rw [List.length_cons] at hq
    have h4 : dn.length + cs.length + 1 = 4 := by have := congrArg List.length hd; simp at this; omega
    obtain ⟨d0, d1⟩ := hc c (by simp)
    have hrd : rd [c0, c1, c2, c3] (dn.length : Int) = c := by rw [hd]; exact rd_mid dn c cs
    have hi := fun q' met' hf' (hq' : q'.length ≤ q.length + 1) => ih (dn ++ [c]) q' met' hf' (by rw [hd]; simp) (by omega) (fun x hx => hc x (List.mem_cons_of_mem _ hx))
    rw [List.length_append, List.length_singleton] at hi
    have step : ∀ f, impl_ValidTiling.l2 (f + 1) kk met q cnt i nn kk2 (dn.length : Int) c0 c1 c2 c3 a b l = (if rd l c = kk then (if decide (c ∈ q) = true then impl_ValidTiling.l2 f kk met q cnt i nn kk2 ((dn.length + 1 : Nat) : Int) c0 c1 c2 c3 a b l else impl_ValidTiling.l2 f kk (met.set c.toNat true) (q ++ [c]) cnt i nn kk2 ((dn.length + 1 : Nat) : Int) c0 c1 c2 c3 a b l) else impl_ValidTiling.l2 f kk met q cnt i nn kk2 ((dn.length + 1 : Nat) : Int) c0 c1 c2 c3 a b l) := by
      intro f
      have hl := hf.1
      simp only [impl_ValidTiling.l2, hrd]
      rw [if_pos (by omega), if_pos (by omega), if_pos d0, if_pos d1, wnat (by omega), if_pos (by omega : c < (met.length : Int)), hf.2 c d0 d1, if_pos (by omega : q.length < 17592186044416)]
    show ∃ met', Flags l.length met' (pushes (fun c => decide (rd l c = kk)) (push (fun c => decide (rd l c = kk)) q c) cs) ∧ _
    by_cases hp : rd l c = kk
    · by_cases hm : c ∈ q
      · have e : push (fun c => decide (rd l c = kk)) q c = q := by unfold push; rw [if_neg (by simp [hm])]
        rw [e]
        obtain ⟨met', g1, g2⟩ := hi q met hf (by omega)
        refine ⟨met', g1, fun f k hfk => ?_⟩
        rw [List.length_cons] at hfk
        obtain ⟨f, rfl⟩ : ∃ m, f = m + 1 := ⟨f - 1, by omega⟩
        rw [step f, if_pos hp, if_pos (by simp [hm]), g2 f k (by omega)]
        show _ = impl_ValidTiling.l1 k kk met' (pushes _ (push _ q c) cs) _ _ _ _ _ _ _
        rw [e]
      · have e : push (fun c => decide (rd l c = kk)) q c = q ++ [c] := by unfold push; rw [if_pos (by simp [hm, hp])]
        rw [e]
        obtain ⟨met', g1, g2⟩ := hi (q ++ [c]) (met.set c.toNat true) (flags_set hf c d0 d1) (by simp)
        refine ⟨met', g1, fun f k hfk => ?_⟩
        rw [List.length_cons] at hfk
        obtain ⟨f, rfl⟩ : ∃ m, f = m + 1 := ⟨f - 1, by omega⟩
        rw [step f, if_pos hp, if_neg (by simp [hm]), g2 f k (by omega)]
        show _ = impl_ValidTiling.l1 k kk met' (pushes _ (push _ q c) cs) _ _ _ _ _ _ _
        rw [e]
    · have e : push (fun c => decide (rd l c = kk)) q c = q := by unfold push; rw [if_neg (by simp [hp])]
      rw [e]
      obtain ⟨met', g1, g2⟩ := hi q met hf (by omega)
      refine ⟨met', g1, fun f k hfk => ?_⟩
      rw [List.length_cons] at hfk
      obtain ⟨f, rfl⟩ : ∃ m, f = m + 1 := ⟨f - 1, by omega⟩
      rw [step f, if_neg hp, g2 f k (by omega)]
      show _ = impl_ValidTiling.l1 k kk met' (pushes _ (push _ q c) cs) _ _ _ _ _ _ _
      rw [e]

theorem implOut {a b : Int} {l : List Int} (ha : 1 ≤ a ∧ a ≤ 12) (hb : 1 ≤ b ∧ b ≤ 12) (hm : (l.length : Int) = a * b) (kk nn kk2 first : Int) (R : Int → Option Bool) (K1 : Nat)
    (hR : ∀ k c, K1 < k → 0 ≤ c → c ≤ 400 → impl_ValidTiling.l3 k kk c nn kk2 l (l.length : Int) 0 a b l = R c) : ∀ (n : Nat) (q : List Int) (met : List Bool) (i : Nat), l.length ≤ i + n → Met (fun c => decide (rd l c = kk)) (nbI a b) first q i → Flags l.length met q → (∀ x ∈ q, 0 ≤ x ∧ x < (l.length : Int)) → ∀ k, 6 * n + K1 + 400 < k →
    impl_ValidTiling.l1 k kk met q (i : Int) (i : Int) nn kk2 a b l = R ((flood (fun c => decide (rd l c = kk)) (nbI a b) n q i).length : Int) := by
  have m12 := mul12 ha hb
  intro n
  induction n with
  | zero =>
    intro q met i hi m hf hq k hk
    have := m.few l.length hq
    have := m.hi
    obtain ⟨k, rfl⟩ : ∃ m, k = m + 1 := ⟨k - 1, by omega⟩
    simp only [impl_ValidTiling.l1]
    rw [if_neg (by omega), hR k _ (by omega) (by omega) (by omega)]
    obtain rfl : i = q.length := by omega
    rfl
  | succ n ih =>
    intro q met i hi m hf hq k hk
    have h1 := m.few l.length hq
    have h2 := m.hi
    obtain ⟨k, rfl⟩ : ∃ m, k = m + 6 := ⟨k - 6, by omega⟩
    by_cases h : i < q.length
    · have hx := hq _ (List.getElem_mem h)
      have hn : ∀ c ∈ nbI a b q[i], 0 ≤ c ∧ c < (l.length : Int) := fun c hc => by rw [hm]; exact nbS_in ha hb _ c ((nb_same a b _ c).2 hc)
      obtain ⟨met', g1, g2⟩ := implIn (a := a) (b := b) kk ((i + 1 : Nat) : Int) i nn kk2 _ _ _ _ (nbI a b q[i]) [] q met hf rfl (by show q.length + 4 ≤ 400; omega) hn
      rw [show impl_ValidTiling.l1 (k + 6) kk met q (i : Int) (i : Int) nn kk2 a b l = impl_ValidTiling.l2 (k + 5) kk met q ((i + 1 : Nat) : Int) (i : Int) nn kk2 ((([] : List Int).length : Nat) : Int) (idx a b (q[i] % a + 1) (q[i] / a)) (idx a b (q[i] % a - 1) (q[i] / a)) (idx a b (q[i] % a) (q[i] / a + 1)) (idx a b (q[i] % a) (q[i] / a - 1)) a b l by
        simp only [impl_ValidTiling.l1]
        rw [if_pos (by omega), if_pos (by omega), rdi q i h, implAround l ha hb _ (by omega)]
        simp only [Option.bind_some]
        rw [wnat (by omega)]
        rfl]
      rw [g2 (k + 5) k rfl, wnat (by omega)]
      rw [ih _ met' (i + 1) (by omega) (m.next h) g1 (pushes_in hq hn) k (by omega)]
      rw [show flood (fun c => decide (rd l c = kk)) (nbI a b) (n + 1) q i = flood (fun c => decide (rd l c = kk)) (nbI a b) n (pushes (fun c => decide (rd l c = kk)) q (nbI a b q[i])) (i + 1) by
        simp only [flood]; rw [dif_pos h]]
    · rw [show flood (fun c => decide (rd l c = kk)) (nbI a b) (n + 1) q i = q by simp only [flood]; rw [dif_neg h]]
      simp only [impl_ValidTiling.l1]
      rw [if_neg (by omega), hR _ _ (by omega) (by omega) (by omega)]
      obtain rfl : i = q.length := by omega
      rfl

theorem implCount {a b : Int} {l : List Int} (hl : l.length ≤ 1000) (kk nn kk2 : Int) (R : Option Bool) (K1 : Nat) (hR : ∀ k, K1 < k → impl_ValidTiling.l0 k nn (wrap64 (kk2 + 1)) a b l = R) : ∀ (n i : Nat) (c : Int) (k : Nat), i + n = l.length → K1 + n + 1 < k → -2000 ≤ c - n → c ≤ 2000 →
    impl_ValidTiling.l3 k kk c nn kk2 l (l.length : Int) (i : Int) a b l = if c = (many kk (l.drop i) : Int) then R else some false := by
  intro n
  induction n with
  | zero =>
    intro i c k hi hk h0 h1
    obtain ⟨k, rfl⟩ : ∃ m, k = m + 1 := ⟨k - 1, by omega⟩
    obtain rfl : i = l.length := by omega
    simp only [impl_ValidTiling.l3]
    rw [if_neg (by omega), hR k (by omega), List.drop_length]
    rfl
  | succ n ih =>
    intro i c k hi hk h0 h1
    obtain ⟨k, rfl⟩ : ∃ m, k = m + 1 := ⟨k - 1, by omega⟩
    have hlt : i < l.length := by omega
    simp only [impl_ValidTiling.l3]
    rw [if_pos (by omega), if_pos (by omega), if_pos (by omega), rdi l i hlt, wnat (by omega)]
    by_cases h : l[i] = kk
    · have e : many kk (l.drop i) = many kk (l.drop (i + 1)) + 1 := by
        rw [List.drop_eq_getElem_cons hlt]
        unfold many; rw [List.filter_cons_of_pos (by simp [h]), List.length_cons]
      rw [if_pos h, w64 (x := c - 1) (by omega) (by omega), ih (i + 1) (c - 1) k (by omega) (by omega) (by omega) (by omega), e]
      by_cases h2 : c - 1 = (many kk (l.drop (i + 1)) : Int)
      · rw [if_pos h2, if_pos (by omega)]
      · rw [if_neg h2, if_neg (by omega)]
    · have e : many kk (l.drop i) = many kk (l.drop (i + 1)) := by
        rw [List.drop_eq_getElem_cons hlt]
        unfold many; rw [List.filter_cons_of_neg (by simp [h])]
      rw [if_neg h, ih (i + 1) c k (by omega) (by omega) (by omega) (by omega), e]

theorem implTiles {a b : Int} {l : List Int} (ha : 1 ≤ a ∧ a ≤ 12) (hb : 1 ≤ b ∧ b ≤ 12) (hm : (l.length : Int) = a * b) (nn : Nat) (hnn : nn ≤ 36) : ∀ (m j k : Nat), j + m = nn → 2000 * m + 10 < k →
    impl_ValidTiling.l0 k (nn : Int) (j : Int) a b l = some ((List.range' j m).all (fun k => decide ((k : Int) ∈ l) && conn a b l k)) := by
  have m12 := mul12 ha hb
  intro m
  induction m with
  | zero =>
    intro j k hj hk
    obtain ⟨k, rfl⟩ : ∃ m, k = m + 1 := ⟨k - 1, by omega⟩
    simp only [impl_ValidTiling.l0]
    rw [if_neg (by omega)]
    rfl
  | succ m ih =>
    intro j k hj hk
    obtain ⟨k, rfl⟩ : ∃ m, k = m + 1 := ⟨k - 1, by omega⟩
    rw [List.range'_succ, List.all_cons]
    simp only [impl_ValidTiling.l0]
    rw [if_pos (by omega), implIndexOf l (by omega) j k (by omega)]
    simp only [Option.bind_some]
    have hf := fstOf_in (j : Int) l 0 (by omega)
    by_cases hk2 : (j : Int) ∈ l
    · rw [if_pos hk2] at hf
      rw [if_neg (by omega), if_pos (by omega), if_pos (by omega), if_pos hf.1, List.length_replicate, if_pos (by omega)]
      have hs : ∀ x ∈ [fstOf (j : Int) 0 l], 0 ≤ x ∧ x < (l.length : Int) := fun x hx => by rw [List.mem_singleton] at hx; subst hx; omega
      have hfl : Flags l.length ((List.replicate ((l.length : Int)).toNat false).set (fstOf (j : Int) 0 l).toNat true) [fstOf (j : Int) 0 l] := by
        have : Flags l.length (List.replicate ((l.length : Int)).toNat false) [] := ⟨by simp, fun c c0 c1 => by
          unfold rdOf
          simp [List.getD_eq_getElem?_getD, List.getElem?_replicate]
          split <;> rfl⟩
        exact flags_set this _ hf.1 (by omega)
      have ho := implOut ha hb hm (j : Int) (nn : Int) (j : Int) (fstOf (j : Int) 0 l) (fun c => if c = (many (j : Int) l : Int) then some ((List.range' (j + 1) m).all (fun k => decide ((k : Int) ∈ l) && conn a b l k)) else some false) (2000 * m + 170) (by
        intro k c hk c0 c1
        have := implCount (a := a) (b := b) (l := l) (by omega) (j : Int) (nn : Int) (j : Int) (some ((List.range' (j + 1) m).all (fun k => decide ((k : Int) ∈ l) && conn a b l k))) (2000 * m + 10) (fun k hk => by rw [wnat (by omega)]; exact ih (j + 1) k (by omega) hk) l.length 0 c k (by omega) (by omega) (by omega) (by omega)
        rw [show ((0 : Nat) : Int) = 0 from rfl, List.drop_zero] at this
        exact this) l.length [fstOf (j : Int) 0 l] _ 0 (by omega) (Met.start _ _ _) hfl hs k (by omega)
      rw [show ((0 : Nat) : Int) = 0 from rfl] at ho
      rw [ho, conn_I ha hb hm hk2]
      unfold conn
      simp only [hk2, decide_true, Bool.true_and]
      by_cases h : (flood (fun c => decide (rd l c = (j : Int))) (nbS a b) l.length [fstOf (j : Int) 0 l] 0).length = many (j : Int) l
      · rw [if_pos (by omega)]; simp [h]
      · rw [if_neg (by omega)]; simp [h]
    · rw [if_neg hk2] at hf
      rw [if_pos (by omega)]
      simp [hk2]

theorem implTiling {a b : Int} {l : List Int} (k : Nat) (hk : 90000 < k) : impl_ValidTiling.f k a b l = some (okT a b l) := by
  obtain ⟨k, rfl⟩ : ∃ m, k = m + 2 := ⟨k - 2, by omega⟩
  unfold impl_ValidTiling.f okT
  rw [within_eq, within_eq]
  simp only [Option.bind_some, impl_ValidTiling.j0]
  by_cases ha : 1 ≤ a ∧ a ≤ 12
  · by_cases hb : 1 ≤ b ∧ b ≤ 12
    · have m12 := mul12 ha hb
      rw [w64 (x := a * b) (by omega) (by omega)]
      by_cases hm : (l.length : Int) = a * b
      · have hp : 0 < l.length := by omega
        simp only [ha, hb, hm, and_self, decide_true, if_true, bne_self_eq_false, Bool.false_eq_true, if_false, Bool.true_and]
        rw [implMin l hp (by omega) (k + 1) (by omega), implMax l hp (by omega) (k + 1) (by omega)]
        simp only [Option.bind_some]
        show _ = some ((l.all inR) && _)
        obtain ⟨a1, a2, a3⟩ := foldmin (l.drop 1) l[0]
        obtain ⟨b1, b2, b3⟩ := foldmax (l.drop 1) l[0]
        have hc := cons_drop l hp
        by_cases h1 : (l.drop 1).foldl mn l[0] < 0
        · rw [if_pos h1]
          simp only [impl_ValidTiling.j1, if_true]
          rw [show l.all inR = false by
            rw [Bool.eq_false_iff]
            intro h
            have hx : (l.drop 1).foldl mn l[0] ∈ l := by
              rcases a3 with a3 | a3
              · rw [a3]; exact List.getElem_mem hp
              · exact List.mem_of_mem_drop a3
            have := List.all_eq_true.1 h _ hx
            unfold inR at this
            rw [decide_eq_true_eq] at this
            omega]
          rfl
        · rw [if_neg h1]
          have h0 : ∀ x ∈ l, 0 ≤ x := by
            intro x hx
            rw [hc] at hx
            rcases List.mem_cons.1 hx with rfl | hx
            · omega
            · have := a2 x hx; omega
          rw [max_top l hp h0]
          by_cases h2 : top l - 1 ≥ 36
          · simp only [h2, decide_true, impl_ValidTiling.j1, if_true]
            rw [show l.all inR = false by
              rw [Bool.eq_false_iff]
              intro h
              have hall : ∀ x ∈ l, 0 ≤ x ∧ x ≤ 35 := fun x hx => by simpa [inR] using List.all_eq_true.1 h x hx
              have := top_pos hp hall
              omega]
            rfl
          · have hin : l.all inR = true := by
              rw [List.all_eq_true]
              intro x hx
              have e := max_top l hp h0
              rw [foldmx] at e
              have h3 := h0 x hx
              have h4 : x ≤ (l.drop 1).foldl mxf l[0] := by
                rw [hc] at hx
                rcases List.mem_cons.1 hx with rfl | hx
                · exact b1
                · exact b2 x hx
              unfold inR
              rw [decide_eq_true_eq]
              omega
            have hall : ∀ x ∈ l, 0 ≤ x ∧ x ≤ 35 := fun x hx => by simpa [inR] using List.all_eq_true.1 hin x hx
            have htp := top_pos hp hall
            simp only [h2, decide_false, impl_ValidTiling.j1, Bool.false_eq_true, if_false, impl_tiles.f]
            rw [implMax l hp (by omega) k (by omega), max_top l hp h0]
            simp only [Option.bind_some]
            rw [w64 (by omega) (by omega), show top l - 1 + 1 = (((top l).toNat : Nat) : Int) by omega]
            have := implTiles ha hb hm (top l).toNat (by omega) (top l).toNat 0 k (by omega) (by omega)
            rw [show ((0 : Nat) : Int) = 0 from rfl] at this
            rw [this, hin, List.range_eq_range']
            rfl
      · simp [ha, hb, hm]
    · simp [ha, hb]
  · simp [ha]

theorem okT_spec {a b : Int} {l : List Int} (h : okT a b l = true) : (1 ≤ a ∧ a ≤ 12) ∧ (1 ≤ b ∧ b ≤ 12) ∧ (l.length : Int) = a * b ∧ (∀ x ∈ l, 0 ≤ x ∧ x ≤ 35) := by
  unfold okT at h
  simp only [Bool.and_eq_true, decide_eq_true_eq, List.all_eq_true] at h
  exact ⟨h.1, h.2.1, h.2.2.1, h.2.2.2.1⟩

theorem okT_use {a b : Int} {l : List Int} (h : okT a b l = true) : (1 ≤ a ∧ a ≤ 12) ∧ (1 ≤ b ∧ b ≤ 12) ∧ (l.length : Int) = a * b ∧ ∀ x ∈ l, 0 ≤ x ∧ x ≤ 35 := by
  unfold okT at h
  simp only [Bool.and_eq_true, decide_eq_true_eq] at h
  obtain ⟨ha, hb, hm, hx, _⟩ := h
  refine ⟨ha, hb, hm, fun x h => ?_⟩
  have := List.all_eq_true.1 hx x h
  simpa using this

theorem itoa_len (n : Int) (h0 : -9223372036854775808 ≤ n) (h1 : n ≤ 9223372036854775807) : (Lib.itoa n).length ≤ 21 := Lib.itoa_length_le n h0 h1

theorem fmt_eq (n : Int) (h0 : -9223372036854775808 ≤ n) (h1 : n ≤ 9223372036854775807) : impl_Decimal.f n [()] = some ⟨(Lib.itoa n).toArray⟩ := by
  unfold impl_Decimal.f Go.Proofs.YtopopjkoanpjiaaDoorX.strconv_FormatInt.f
  rw [if_pos ⟨rfl, rfl, h0, h1⟩]; rfl

def bs (l : List UInt8) : ByteArray := ⟨l.toArray⟩
theorem bs_list (l : List UInt8) : (bs l).data.toList = l := rfl
theorem bs_of (s : ByteArray) : bs s.data.toList = s := by apply ByteArray.ext; simp [bs]
theorem bs_size (l : List UInt8) : (bs l).size = l.length := by simp [bs, ByteArray.size]
theorem bs_toList (l : List UInt8) : (bs l).toList = l := by rw [ByteArray.toList_eq]; rfl
theorem bs_inj {a b : List UInt8} (h : bs a = bs b) : a = b := by have := congrArg (fun s => s.data.toList) h; simpa [bs] using this
theorem size_list (s : ByteArray) : s.size = s.data.toList.length := by rw [Array.length_toList]; rfl
theorem extract_bs (l : List UInt8) (a b : Nat) : (bs l).extract a b = bs ((l.drop a).take (b - a)) := by
  rw [← bs_of ((bs l).extract a b), Lib.extract_data, bs_list]
theorem bt_bs (l : List UInt8) (i : Nat) (h : i < l.length) : bt (bs l) (i : Int) = (l[i].toNat : Int) := by
  unfold bt
  rw [dif_pos (by rw [bs_size]; simpa using h)]
  simp [bs, ByteArray.getElem_eq_getElem_data]

/-- a text divided at each byte c -/
def splitL (c : UInt8) : List UInt8 → List (List UInt8)
  | [] => [[]]
  | b :: l => if b = c then [] :: splitL c l else match splitL c l with
    | [] => [[b]]
    | x :: r => (b :: x) :: r

def hd (cur : List UInt8) : List (List UInt8) → List (List UInt8)
  | [] => [cur]
  | x :: r => (cur ++ x) :: r

theorem splitL_ne (c : UInt8) (l : List UInt8) : splitL c l ≠ [] := by
  cases l with
  | nil => simp [splitL]
  | cons b l =>
    rw [splitL]
    split
    · simp
    · split <;> simp

theorem splitL_cons_ne {c b : UInt8} (h : b ≠ c) (l : List UInt8) : splitL c (b :: l) = hd [b] (splitL c l) := by
  rw [splitL, if_neg h]
  cases splitL c l <;> rfl

theorem hd_hd (a b : List UInt8) (x : List (List UInt8)) : hd a (hd b x) = hd (a ++ b) x := by
  cases x <;> simp [hd]

theorem hd_nil (c : UInt8) (l : List UInt8) : hd [] (splitL c l) = splitL c l := by
  have := splitL_ne c l
  cases h : splitL c l with
  | nil => exact absurd h this
  | cons x r => rfl

theorem specSplit (l : List UInt8) (c : UInt8) (hl : l.length ≤ 1048576) (k : Nat) (hk : l.length < k) : spec_l01Split.f k (bs l) (c.toNat : Int) = some ((splitL c l).map bs) := by
  unfold spec_l01Split.f
  have key : ∀ (d i k fr : Nat) (out : List (List UInt8)), i + d = l.length → d < k → fr ≤ i → out.length ≤ i →
      spec_l01Split.l0 k (bs l) (c.toNat : Int) (out.map bs) (fr : Int) (i : Int) = some ((out ++ hd ((l.drop fr).take (i - fr)) (splitL c (l.drop i))).map bs) := by
    intro d
    induction d with
    | zero =>
      intro i k fr out hi hk hf ho
      obtain ⟨k, rfl⟩ : ∃ m, k = m + 1 := ⟨k - 1, by omega⟩
      simp only [spec_l01Split.l0]
      rw [bs_size, if_neg (by omega), if_pos (by omega), if_pos (by omega), if_pos (by rw [List.length_map]; omega), List.drop_of_length_le (by omega : l.length ≤ i), extract_bs]
      simp only [splitL, hd, Int.toNat_natCast, List.append_nil, List.map_append, List.map_cons, List.map_nil]
      rw [show i = l.length by omega]
    | succ d ih =>
      intro i k fr out hi hk hf ho
      obtain ⟨k, rfl⟩ : ∃ m, k = m + 1 := ⟨k - 1, by omega⟩
      have hlt : i < l.length := by omega
      simp only [spec_l01Split.l0]
      rw [bs_size, if_pos (by omega), if_pos (by omega), bt_bs l i hlt, List.drop_eq_getElem_cons hlt]
      by_cases hc : l[i] = c
      · rw [if_pos (by rw [hc]), if_pos (by omega), if_pos (by omega), if_pos (by omega), if_pos (by rw [List.length_map]; omega), wnat (by omega), extract_bs]
        have := ih (i + 1) k (i + 1) (out ++ [(l.drop fr).take (i - fr)]) (by omega) (by omega) (by omega) (by simp; omega)
        rw [List.map_append, List.map_cons, List.map_nil] at this
        simp only [Int.toNat_natCast]
        rw [this, splitL, if_pos hc, Nat.sub_self, List.take_zero, hd_nil]
        simp [hd]
      · rw [if_neg (fun h => hc (UInt8.toNat_inj.1 (by omega))), wnat (by omega), ih (i + 1) k fr out (by omega) (by omega) (by omega) (by omega), splitL_cons_ne hc, hd_hd]
        have e : (l.drop fr).take (i + 1 - fr) = (l.drop fr).take (i - fr) ++ [l[i]] := by
          rw [show i + 1 - fr = (i - fr) + 1 by omega, List.take_succ_eq_append_getElem (by simp; omega), List.getElem_drop]
          congr 2
          simp only [show fr + (i - fr) = i by omega]
        rw [e]
  have := key l.length 0 k 0 [] (by omega) hk (by omega) (by simp)
  simp only [List.map_nil, Nat.sub_self, List.take_zero, List.drop_zero, List.nil_append, hd_nil] at this
  exact this

theorem index_one (c : UInt8) : ∀ l : List UInt8, (c ∉ l ∧ Lib.index l [c] = -1) ∨ (∃ a r, l = a ++ c :: r ∧ c ∉ a ∧ Lib.index l [c] = (a.length : Int))
  | [] => .inl ⟨by simp, rfl⟩
  | b :: l => by
    by_cases h : b = c
    · subst h
      exact .inr ⟨[], l, rfl, by simp, by rw [Lib.index]; simp [List.isPrefixOf]⟩
    · have hp : ([c] : List UInt8).isPrefixOf (b :: l) = false := by simp [List.isPrefixOf, Ne.symm h]
      rcases index_one c l with ⟨h1, h2⟩ | ⟨a, r, h1, h2, h3⟩
      · exact .inl ⟨by simp [h1, Ne.symm h], by rw [Lib.index, hp, h2]; rfl⟩
      · refine .inr ⟨b :: a, r, by rw [h1]; rfl, by simp [h2, Ne.symm h], ?_⟩
        rw [Lib.index, hp, h3]
        rw [if_neg (by simp), if_neg (by rw [beq_iff_eq]; omega)]
        simp

theorem splitL_none (c : UInt8) : ∀ l : List UInt8, c ∉ l → splitL c l = [l]
  | [], _ => rfl
  | b :: l, h => by
    simp only [List.mem_cons, not_or] at h
    rw [splitL_cons_ne (Ne.symm h.1), splitL_none c l h.2]; rfl

theorem splitL_app (c : UInt8) (r : List UInt8) : ∀ a : List UInt8, c ∉ a → splitL c (a ++ c :: r) = a :: splitL c r
  | [], _ => by rw [List.nil_append, splitL, if_pos rfl]
  | b :: a, h => by
    simp only [List.mem_cons, not_or] at h
    rw [List.cons_append, splitL_cons_ne (Ne.symm h.1), splitL_app c r a h.2]; rfl

theorem count_app (c : UInt8) (a r : List UInt8) (h : c ∉ a) : (a ++ c :: r).count c = r.count c + 1 := by
  rw [List.count_append, List.count_eq_zero.2 h, List.count_cons_self]; omega

theorem splitK_eq (c : UInt8) : ∀ (n : Nat) (l : List UInt8), l.count c = n → Lib.splitK [c] 0 n l = splitL c l
  | 0, l, h => by rw [splitL_none c l (List.count_eq_zero.1 h)]; rfl
  | n + 1, l, h => by
    rcases index_one c l with ⟨h1, _⟩ | ⟨a, r, h1, h2, h3⟩
    · rw [List.count_eq_zero.2 h1] at h; omega
    · subst h1
      rw [count_app c a r h2] at h
      rw [Lib.splitK, if_neg (by rw [h3, beq_iff_eq]; omega), h3, splitL_app c r a h2]
      have := splitK_eq c n r (by omega)
      simp only [Int.toNat_natCast, Nat.add_zero, List.length_singleton]
      rw [List.take_left' rfl, show List.drop (a.length + 1) (a ++ c :: r) = r by rw [← List.drop_drop, List.drop_left' rfl]; rfl, this]

theorem map_data_inj : ∀ {x y : List ByteArray}, x.map (·.data.toList) = y.map (·.data.toList) → x = y
  | [], [], _ => rfl
  | [], _ :: _, h => by simp at h
  | _ :: _, [], h => by simp at h
  | a :: x, b :: y, h => by
    simp only [List.map_cons, List.cons.injEq] at h
    rw [map_data_inj h.2, ← bs_of a, ← bs_of b, h.1]

theorem splitB_eq (l : List UInt8) (c : UInt8) : Lib.splitB (bs [c]) 0 (Lib.countB (bs l) (bs [c])) (bs l) = (splitL c l).map bs := by
  apply map_data_inj
  rw [Lib.splitB_data, bs_list, bs_list, List.map_map]
  have e : ((fun x : ByteArray => x.data.toList) ∘ bs) = id := by funext x; rfl
  rw [e, List.map_id]
  have hc : Lib.countB (bs l) (bs [c]) = l.count c := by
    rw [show Lib.countB (bs l) (bs [c]) = Lib.count (bs l).data.toList (bs [c]).data.toList from rfl, bs_list, bs_list, Lib.count_one]
  rw [hc]
  exact splitK_eq c _ l rfl

theorem splitL_len (c : UInt8) : ∀ l : List UInt8, (splitL c l).length ≤ l.length + 1
  | [] => by simp [splitL]
  | b :: l => by
    have := splitL_len c l
    by_cases h : b = c
    · rw [splitL, if_pos h]; simp; omega
    · rw [splitL_cons_ne h]
      cases hs : splitL c l with
      | nil => simp [hd]
      | cons x r => rw [hs] at this; simp [hd] at this ⊢; omega

theorem implSplit (l : List UInt8) (c : UInt8) (hl : l.length ≤ 1048576) : Go.Proofs.YtopopjkoanpjiaaDoorX.strings_Split.f (bs l) (bs [c]) [()] = some ((splitL c l).map bs) := by
  unfold Go.Proofs.YtopopjkoanpjiaaDoorX.strings_Split.f
  rw [if_pos ⟨rfl, by rw [bs_size]; omega, by rw [bs_size]; simp⟩, splitB_eq]

theorem splitL_mem {c b : UInt8} (hb : b ≠ c) : ∀ {l : List UInt8}, b ∈ l → ∃ p ∈ splitL c l, b ∈ p
  | x :: l, h => by
    by_cases hx : x = c
    · rw [splitL, if_pos hx]
      rcases List.mem_cons.1 h with rfl | h
      · exact absurd hx hb
      · obtain ⟨p, hp, h2⟩ := splitL_mem hb h
        exact ⟨p, List.mem_cons_of_mem _ hp, h2⟩
    · rw [splitL_cons_ne hx]
      have hne := splitL_ne c l
      cases hs : splitL c l with
      | nil => exact absurd hs hne
      | cons y r =>
        rcases List.mem_cons.1 h with rfl | h
        · exact ⟨[b] ++ y, by simp [hd], by simp⟩
        · obtain ⟨p, hp, h2⟩ := splitL_mem hb h
          rw [hs] at hp
          rcases List.mem_cons.1 hp with rfl | hp
          · exact ⟨[x] ++ p, by simp [hd], by simp [h2]⟩
          · exact ⟨p, by simp [hd, hp], h2⟩

theorem splitL_part {c : UInt8} : ∀ {l p : List UInt8}, p ∈ splitL c l → p.length ≤ l.length ∧ ∀ b ∈ p, b ∈ l
  | [], p, h => by simp [splitL] at h; subst h; simp
  | x :: l, p, h => by
    by_cases hx : x = c
    · rw [splitL, if_pos hx] at h
      rcases List.mem_cons.1 h with rfl | h
      · simp
      · have := splitL_part h
        exact ⟨by simp; omega, fun b hb => List.mem_cons_of_mem _ (this.2 b hb)⟩
    · rw [splitL_cons_ne hx] at h
      have hne := splitL_ne c l
      cases hs : splitL c l with
      | nil => exact absurd hs hne
      | cons y r =>
        rw [hs] at h
        rcases List.mem_cons.1 h with rfl | h
        · have := splitL_part (show y ∈ splitL c l by rw [hs]; exact List.mem_cons_self)
          refine ⟨by simp; omega, fun b hb => ?_⟩
          rcases List.mem_cons.1 hb with rfl | hb
          · exact List.mem_cons_self
          · exact List.mem_cons_of_mem _ (this.2 b hb)
        · have := splitL_part (show p ∈ splitL c l by rw [hs]; exact List.mem_cons_of_mem _ h)
          exact ⟨by simp; omega, fun b hb => List.mem_cons_of_mem _ (this.2 b hb)⟩

def dgt (c : UInt8) : Bool := decide (48 ≤ c.toNat ∧ c.toNat ≤ 57)
def valf : List UInt8 → Int → Int
  | [], n => n
  | c :: l, n => valf l (10 * n + ((c.toNat : Int) - 48))

theorem valf_snoc (c : UInt8) : ∀ (l : List UInt8) (n : Int), valf (l ++ [c]) n = 10 * valf l n + ((c.toNat : Int) - 48)
  | [], n => rfl
  | b :: l, n => valf_snoc c l _

theorem valf_bound : ∀ (l : List UInt8) (n : Int) (d : Nat), l.all dgt = true → 0 ≤ n → n < 10 ^ d → 0 ≤ valf l n ∧ valf l n < 10 ^ (d + l.length)
  | [], n, d, _, h0, h1 => ⟨h0, h1⟩
  | c :: l, n, d, h, h0, h1 => by
    rw [List.all_cons, Bool.and_eq_true] at h
    have hc : 48 ≤ c.toNat ∧ c.toNat ≤ 57 := by simpa [dgt] using h.1
    have := valf_bound l (10 * n + ((c.toNat : Int) - 48)) (d + 1) h.2 (by omega) (by rw [Int.pow_succ]; omega)
    rw [List.length_cons, show d + (l.length + 1) = d + 1 + l.length by omega]
    exact this

/-- the number with a decimal form, if there is one -/
def num (l : List UInt8) : Int × Bool :=
  let D := if l.head? = some 45 then l.drop 1 else l
  if 1 ≤ D.length ∧ D.length ≤ 18 ∧ ¬ (D.head? = some 48 ∧ 1 < l.length) ∧ D.all dgt = true then (if l.head? = some 45 then -valf D 0 else valf D 0, true) else (0, false)

theorem dgt_eq (c : UInt8) : spec_l01Digit.f (c.toNat : Int) = some (dgt c) := by
  unfold spec_l01Digit.f dgt
  by_cases h : (c.toNat : Int) ≥ 48
  · rw [if_pos h]
    have : 48 ≤ c.toNat := by omega
    simp [this]; omega
  · rw [if_neg h]
    have : ¬ (48 ≤ c.toNat ∧ c.toNat ≤ 57) := by omega
    simp [this]

theorem wstep (n : Int) (c : UInt8) (hc : dgt c = true) (h0 : 0 ≤ n) (h1 : n < 10 ^ 17) : wrap64 (wrap64 (10 * n) + ((c.toNat : Int) - 48) % 256) = 10 * n + ((c.toNat : Int) - 48) := by
  have hc : 48 ≤ c.toNat ∧ c.toNat ≤ 57 := by simpa [dgt] using hc
  rw [w64 (x := 10 * n) (by omega) (by omega), w64 (by omega) (by omega)]; omega
theorem wstep' (n : Int) (c : UInt8) (hc : dgt c = true) (h0 : 0 ≤ n) (h1 : n < 10 ^ 17) : wrap64 (wrap64 (n * 10) + ((c.toNat : Int) - 48) % 256) = 10 * n + ((c.toNat : Int) - 48) := by
  rw [Int.mul_comm]; exact wstep n c hc h0 h1

theorem specNum_l0 (l : List UInt8) (hl : l.length ≤ 19) (at_ : Nat) (ha : at_ ≤ 1) (hD : l.length - at_ ≤ 18) : ∀ (d i k : Nat) (n : Int), i + d = l.length → at_ ≤ i → d < k → 0 ≤ n → n < 10 ^ (i - at_) →
    spec_l01Number.l0 k (bs l) (at_ : Int) n (i : Int) = some (if (l.drop i).all dgt = true then (if at_ = 1 then -valf (l.drop i) n else valf (l.drop i) n, true) else (0, false)) := by
  intro d
  induction d with
  | zero =>
    intro i k n hi hai hk h0 h1
    obtain ⟨k, rfl⟩ : ∃ m, k = m + 1 := ⟨k - 1, by omega⟩
    have hb : n < 10 ^ 18 := Int.lt_of_lt_of_le h1 (by
      have := Nat.pow_le_pow_right (show 0 < 10 by omega) (show i - at_ ≤ 18 by omega)
      exact_mod_cast this)
    simp only [spec_l01Number.l0]
    rw [bs_size, if_neg (by omega), List.drop_of_length_le (by omega)]
    by_cases h : at_ = 1
    · rw [if_pos (by omega), w64 (by omega) (by omega)]; simp [h, valf]
    · rw [if_neg (by omega)]; simp [h, valf]
  | succ d ih =>
    intro i k n hi hai hk h0 h1
    obtain ⟨k, rfl⟩ : ∃ m, k = m + 1 := ⟨k - 1, by omega⟩
    have hlt : i < l.length := by omega
    have hb : n < 10 ^ 17 := Int.lt_of_lt_of_le h1 (by
      have := Nat.pow_le_pow_right (show 0 < 10 by omega) (show i - at_ ≤ 17 by omega)
      exact_mod_cast this)
    simp only [spec_l01Number.l0]
    rw [bs_size, if_pos (by omega), if_pos (by omega), bt_bs l i hlt, dgt_eq, List.drop_eq_getElem_cons hlt, List.all_cons]
    simp only [Option.bind_some]
    cases hc : dgt l[i] with
    | false => simp
    | true =>
      have hc' : 48 ≤ (l[i]).toNat ∧ (l[i]).toNat ≤ 57 := by simpa [dgt] using hc
      rw [if_pos rfl, wstep n _ hc h0 hb, wnat (by omega), ih (i + 1) k _ (by omega) (by omega) (by omega) (by omega) (by
        rw [show i + 1 - at_ = (i - at_) + 1 by omega, Int.pow_succ]; omega)]
      simp [valf]

theorem head_at (l : List UInt8) (c : UInt8) (h : 0 < l.length) : (bt (bs l) 0 == (c.toNat : Int)) = decide (l.head? = some c) := by
  have := bt_bs l 0 h
  rw [show ((0 : Nat) : Int) = 0 from rfl] at this
  rw [this]
  cases l with
  | nil => simp at h
  | cons b r =>
    simp only [List.getElem_cons_zero, List.head?_cons, Option.some.injEq]
    by_cases e : b = c
    · subst e; simp
    · have : ¬ ((b.toNat : Int) = c.toNat) := fun h => e (UInt8.toNat_inj.1 (by omega))
      simp [e, this]

theorem specNum_j1 (l : List UInt8) (hl : l.length ≤ 1048576) (at_ : Nat) (ha : (at_ = 1 ∧ l.head? = some 45) ∨ (at_ = 0 ∧ ¬ l.head? = some 45)) (k : Nat) (hk : 100 < k) : spec_l01Number.j1 k (bs l) (at_ : Int) = some (num l) := by
  obtain ⟨k, rfl⟩ : ∃ m, k = m + 2 := ⟨k - 2, by omega⟩
  have hD : (if l.head? = some 45 then l.drop 1 else l) = l.drop at_ := by
    rcases ha with ⟨h1, h2⟩ | ⟨h1, h2⟩
    · rw [if_pos h2, h1]
    · rw [if_neg h2, h1]; rfl
  have hat : at_ ≤ 1 := by omega
  have hal : at_ ≤ l.length := by
    rcases ha with ⟨h1, h2⟩ | ⟨h1, h2⟩
    · cases l with
      | nil => simp at h2
      | cons b r => simp; omega
    · omega
  have hneg : (if l.head? = some 45 then -valf (l.drop at_) 0 else valf (l.drop at_) 0) = (if at_ = 1 then -valf (l.drop at_) 0 else valf (l.drop at_) 0) := by
    rcases ha with ⟨h1, h2⟩ | ⟨h1, h2⟩
    · rw [if_pos h2, if_pos h1]
    · rw [if_neg h2, if_neg (by omega)]
  unfold num
  simp only [hD, List.length_drop, hneg]
  simp only [spec_l01Number.j1]
  rw [bs_size]
  by_cases h1 : l.length = at_
  · rw [if_pos (by omega), if_neg (by omega)]
    simp [spec_l01Number.j2]
  · rw [if_neg (by omega), w64 (by omega) (by omega)]
    by_cases h2 : (l.length : Int) - at_ > 18
    · rw [if_pos h2, if_neg (by omega)]
      simp [spec_l01Number.j2]
    · have hlt : at_ < l.length := by omega
      rw [if_neg h2, if_pos (by omega), if_pos (by omega), bt_bs l at_ hlt]
      have hh : (l.drop at_).head? = some l[at_] := by rw [List.drop_eq_getElem_cons hlt]; rfl
      have hl0 := specNum_l0 l (by omega) at_ hat (by omega) (l.length - at_) at_ k 0 (by omega) (Nat.le_refl _) (by omega) (by omega) (by simp)
      by_cases h3 : l[at_] = 48
      · rw [if_pos (by rw [h3]; rfl)]
        by_cases h4 : (l.length : Int) > 1
        · rw [show decide ((l.length : Int) > 1) = true from decide_eq_true h4, if_neg (by rw [hh, h3]; rintro ⟨_, _, h, _⟩; exact h ⟨rfl, by omega⟩)]
          simp [spec_l01Number.j2]
        · rw [show decide ((l.length : Int) > 1) = false from decide_eq_false h4]
          simp only [spec_l01Number.j2, Bool.false_eq_true, if_false]
          rw [hl0]
          by_cases h5 : (l.drop at_).all dgt = true
          · have hc : 1 ≤ l.length - at_ ∧ l.length - at_ ≤ 18 ∧ ¬ ((l.drop at_).head? = some 48 ∧ 1 < l.length) ∧ (l.drop at_).all dgt = true := ⟨by omega, by omega, fun h => by omega, h5⟩
            rw [if_pos h5, if_pos hc]
          · rw [if_neg h5, if_neg (fun h => h5 h.2.2.2)]
      · rw [if_neg (fun h => h3 (UInt8.toNat_inj.1 (by rw [show (48 : UInt8).toNat = 48 from rfl]; omega)))]
        simp only [spec_l01Number.j2, Bool.false_eq_true, if_false]
        rw [hl0]
        by_cases h5 : (l.drop at_).all dgt = true
        · have hc : 1 ≤ l.length - at_ ∧ l.length - at_ ≤ 18 ∧ ¬ ((l.drop at_).head? = some 48 ∧ 1 < l.length) ∧ (l.drop at_).all dgt = true := ⟨by omega, by omega, fun h => h3 (by rw [hh] at h; exact Option.some.inj h.1), h5⟩
          rw [if_pos h5, if_pos hc]
        · rw [if_neg h5, if_neg (fun h => h5 h.2.2.2)]

theorem specNum (l : List UInt8) (hl : l.length ≤ 1048576) (k : Nat) (hk : 200 < k) : spec_l01Number.f k (bs l) = some (num l) := by
  unfold spec_l01Number.f
  obtain ⟨k, rfl⟩ : ∃ m, k = m + 1 := ⟨k - 1, by omega⟩
  rw [bs_size]
  by_cases h : l.length = 0
  · have : l = [] := List.eq_nil_of_length_eq_zero h
    rw [if_neg (by omega)]
    simp only [spec_l01Number.j0, Bool.false_eq_true, if_false]
    exact specNum_j1 l hl 0 (.inr ⟨rfl, by rw [this]; simp⟩) k (by omega)
  · rw [if_pos (by omega), if_pos (by omega), show (45 : Int) = ((45 : UInt8).toNat : Int) from rfl, head_at l 45 (by omega)]
    simp only [spec_l01Number.j0, decide_eq_true_eq]
    by_cases h2 : l.head? = some 45
    · rw [if_pos h2]; exact specNum_j1 l hl 1 (.inl ⟨rfl, h2⟩) k (by omega)
    · rw [if_neg h2]; exact specNum_j1 l hl 0 (.inr ⟨rfl, h2⟩) k (by omega)

theorem head_app (a b : List UInt8) (h : a ≠ []) : (a ++ b).head? = a.head? := by
  cases a with
  | nil => exact absurd rfl h
  | cons x r => rfl

theorem decDigits_head : ∀ u : Nat, 0 < u → ∀ c, (Lib.decDigits u).head? = some c → c ≠ 48 := by
  intro u
  induction u using Nat.strongRecOn with
  | ind u ih =>
    intro hu c hc
    by_cases h : u < 10
    · rw [Lib.decDigits_one h] at hc
      simp only [List.head?_cons, Option.some.injEq] at hc
      subst hc
      intro h2
      have := congrArg UInt8.toNat h2
      rw [UInt8.toNat_ofNat', show (48 : UInt8).toNat = 48 from rfl] at this
      omega
    · rw [show Lib.decDigits u = Lib.decDigits (u / 10) ++ [UInt8.ofNat (48 + u % 10)] by rw [Lib.decDigits, dif_neg h]] at hc
      have hne : Lib.decDigits (u / 10) ≠ [] := by
        intro h2
        have := Lib.decDigits_length (u / 10)
        rw [h2] at this
        have := Lib.nDigits_pos (u / 10)
        simp at *; omega
      rw [head_app _ _ hne] at hc
      exact ih (u / 10) (by omega) (by omega) c hc

theorem ofNat_dgt (c : UInt8) (h : 48 ≤ c.toNat ∧ c.toNat ≤ 57) : UInt8.ofNat (48 + (c.toNat - 48)) = c := by
  apply UInt8.toNat_inj.1
  rw [UInt8.toNat_ofNat']
  omega

/-- digits without a leading zero are the digits of their value -/
theorem decDigits_valf : ∀ (n : Nat) (l : List UInt8), l.length = n + 1 → l.all dgt = true → ((l.head? = some 48) → n = 0) → 0 ≤ valf l 0 ∧ Lib.decDigits (valf l 0).toNat = l ∧ (l.head? ≠ some 48 → 0 < valf l 0) := by
  intro n
  induction n with
  | zero =>
    intro l hl ha _
    match l, hl with
    | [c], _ =>
      have hc : 48 ≤ c.toNat ∧ c.toNat ≤ 57 := by simpa [dgt] using ha
      have e : valf [c] 0 = ((c.toNat - 48 : Nat) : Int) := by simp only [valf]; omega
      refine ⟨by rw [e]; omega, ?_, fun h => ?_⟩
      · rw [e, Int.toNat_natCast, Lib.decDigits_one (by omega), ofNat_dgt c hc]
      · rw [e]
        have : c ≠ 48 := fun h2 => h (by rw [h2]; rfl)
        have : c.toNat ≠ 48 := fun h2 => this (UInt8.toNat_inj.1 h2)
        omega
  | succ n ih =>
    intro l hl ha hz
    have hne : l ≠ [] := by intro h; rw [h] at hl; simp at hl
    obtain ⟨m, c, rfl⟩ : ∃ m c, l = m ++ [c] := ⟨l.dropLast, l.getLast hne, (List.dropLast_concat_getLast hne).symm⟩
    rw [List.all_append, Bool.and_eq_true] at ha
    have hc : 48 ≤ c.toNat ∧ c.toNat ≤ 57 := by simpa [dgt] using ha.2
    have hm : m.length = n + 1 := by simpa using hl
    have hmn : m ≠ [] := by intro h; rw [h] at hm; simp at hm
    rw [head_app _ _ hmn] at hz ⊢
    have h48 : m.head? ≠ some 48 := fun h => by have := hz h; omega
    obtain ⟨h1, h2, h3⟩ := ih m hm ha.1 (fun h => absurd h h48)
    have h4 := h3 h48
    have e : valf (m ++ [c]) 0 = ((10 * (valf m 0).toNat + (c.toNat - 48) : Nat) : Int) := by rw [valf_snoc]; omega
    refine ⟨by rw [e]; omega, ?_, fun _ => by rw [e]; omega⟩
    rw [e, Int.toNat_natCast, Lib.decDigits, dif_neg (by omega), show (10 * (valf m 0).toNat + (c.toNat - 48)) / 10 = (valf m 0).toNat by omega, h2, show (10 * (valf m 0).toNat + (c.toNat - 48)) % 10 = c.toNat - 48 by omega, ofNat_dgt c hc]

theorem decDigits_no (l : List UInt8) (u : Nat) (h : l.head? = some 48) (hl : 1 < l.length) : Lib.decDigits u ≠ l := by
  intro e
  by_cases hu : u = 0
  · subst hu
    rw [Lib.decDigits_one (by omega)] at e
    rw [← e] at hl; simp at hl
  · exact decDigits_head u (by omega) 48 (by rw [e]; exact h) rfl

theorem hasPrefix_neg (l : List UInt8) : Lib.hasPrefix l [45] = decide (l.head? = some 45) := by
  unfold Lib.hasPrefix
  cases l with
  | nil => rfl
  | cons b r =>
    simp only [List.isPrefixOf, List.head?_cons, Option.some.injEq, Bool.and_true]
    by_cases h : b = 45
    · subst h; rfl
    · have : ((45 : UInt8) == b) = false := by simpa using Ne.symm h
      rw [this]; simp [h]

theorem bs_eq_toList (a b : List UInt8) : ((bs a).toList = (bs b).toList) = (a = b) := by rw [bs_toList, bs_toList]

theorem implNum_l0 (l D : List UInt8) (neg : Bool) (hN : (neg = true ∧ l = 45 :: D) ∨ (neg = false ∧ l = D)) (hD : D.length ≤ 18) (h1 : 1 ≤ D.length) : ∀ (d i k : Nat) (n : Int), i + d = D.length → d < k → (D.take i).all dgt = true → n = valf (D.take i) 0 →
    impl_ReadDecimal.l0 k (bs l) (bs D) n (i : Int) [()] = some (if ¬ (D.head? = some 48 ∧ 1 < l.length) ∧ D.all dgt = true then (if neg = true then -valf D 0 else valf D 0, true) else (0, false)) := by
  intro d
  induction d with
  | zero =>
    intro i k n hi hk hp hn
    obtain ⟨k, rfl⟩ : ∃ m, k = m + 1 := ⟨k - 1, by omega⟩
    have ht : D.take i = D := List.take_of_length_le (by omega)
    rw [ht] at hp hn
    obtain ⟨b0, b1⟩ := valf_bound D 0 0 hp (by omega) (by simp)
    have hb : valf D 0 < 10 ^ 18 := Int.lt_of_lt_of_le b1 (by
      have := Nat.pow_le_pow_right (show 0 < 10 by omega) (show 0 + D.length ≤ 18 by omega)
      exact_mod_cast this)
    subst hn
    simp only [impl_ReadDecimal.l0]
    rw [bs_size, bs_size, if_neg (by omega)]
    rcases hN with ⟨rfl, rfl⟩ | ⟨rfl, rfl⟩
    · rw [if_pos (by simp only [List.length_cons]; omega), w64 (by omega) (by omega), fmt_eq _ (by omega) (by omega)]
      simp only [Option.bind_some]
      rw [show (⟨(Lib.itoa (-valf D 0)).toArray⟩ : ByteArray) = bs (Lib.itoa (-valf D 0)) from rfl]
      simp only [bs_eq_toList]
      by_cases h48 : D.head? = some 48
      · have hcn : ¬ (¬ (D.head? = some 48 ∧ 1 < (45 :: D).length) ∧ D.all dgt = true) := fun h => h.1 ⟨h48, by simp only [List.length_cons]; omega⟩
        have hne : ¬ (Lib.itoa (-valf D 0) = 45 :: D) := by
          intro e
          by_cases hv : valf D 0 = 0
          · rw [hv] at e
            have : Lib.itoa (-0) = [48] := by unfold Lib.itoa; rw [if_neg (by omega)]; exact Lib.decDigits_one (by omega)
            rw [this] at e
            simp at e
          · unfold Lib.itoa at e
            rw [if_pos (by omega), List.cons.injEq] at e
            exact decDigits_head (-valf D 0).natAbs (by omega) 48 (by rw [e.2]; exact h48) rfl
        rw [if_neg hne, if_neg hcn]
      · obtain ⟨_, e2, e3⟩ := decDigits_valf (D.length - 1) D (by omega) hp (fun h => absurd h h48)
        have hv := e3 h48
        have hcp : ¬ (D.head? = some 48 ∧ 1 < (45 :: D).length) ∧ D.all dgt = true := ⟨fun h => h48 h.1, hp⟩
        have heq : Lib.itoa (-valf D 0) = 45 :: D := by
          unfold Lib.itoa
          rw [if_pos (by omega), show (-valf D 0).natAbs = (valf D 0).toNat by omega, e2]
        rw [if_pos heq, if_pos hcp]; simp
    · rw [if_neg (by omega), fmt_eq _ (by omega) (by omega)]
      simp only [Option.bind_some]
      rw [show (⟨(Lib.itoa (valf l 0)).toArray⟩ : ByteArray) = bs (Lib.itoa (valf l 0)) from rfl]
      simp only [bs_eq_toList]
      have hit : Lib.itoa (valf l 0) = Lib.decDigits (valf l 0).toNat := by unfold Lib.itoa; rw [if_neg (by omega)]
      rw [hit]
      by_cases h48 : l.head? = some 48 ∧ 1 < l.length
      · have hcn : ¬ (¬ (l.head? = some 48 ∧ 1 < l.length) ∧ l.all dgt = true) := fun h => h.1 h48
        rw [if_neg (decDigits_no l _ h48.1 h48.2), if_neg hcn]
      · obtain ⟨_, e2, _⟩ := decDigits_valf (l.length - 1) l (by omega) hp (fun h => by
          have : ¬ 1 < l.length := fun h2 => h48 ⟨h, h2⟩
          omega)
        have hcp : ¬ (l.head? = some 48 ∧ 1 < l.length) ∧ l.all dgt = true := ⟨h48, hp⟩
        rw [if_pos e2, if_pos hcp]; simp
  | succ d ih =>
    intro i k n hi hk hp hn
    obtain ⟨k, rfl⟩ : ∃ m, k = m + 1 := ⟨k - 1, by omega⟩
    have hlt : i < D.length := by omega
    obtain ⟨b0, b1⟩ := valf_bound (D.take i) 0 0 hp (by omega) (by simp)
    have hb : valf (D.take i) 0 < 10 ^ 17 := Int.lt_of_lt_of_le b1 (by
      have := Nat.pow_le_pow_right (show 0 < 10 by omega) (show 0 + (D.take i).length ≤ 17 by simp; omega)
      exact_mod_cast this)
    have ht : D.take (i + 1) = D.take i ++ [D[i]] := List.take_succ_eq_append_getElem hlt
    simp only [impl_ReadDecimal.l0]
    rw [bs_size, if_pos (by omega), if_pos (by omega), bt_bs D i hlt]
    cases hc : dgt D[i] with
    | false =>
      have hall : ¬ D.all dgt = true := by
        intro h
        rw [List.all_eq_true] at h
        rw [h _ (List.getElem_mem hlt)] at hc
        cases hc
      have hcn : ¬ (¬ (D.head? = some 48 ∧ 1 < l.length) ∧ D.all dgt = true) := fun h => hall h.2
      have hc' : ¬ (48 ≤ (D[i]).toNat ∧ (D[i]).toNat ≤ 57) := by
        intro h2
        have : dgt D[i] = true := decide_eq_true h2
        rw [this] at hc; cases hc
      rw [if_neg hcn]
      by_cases h2 : ((D[i]).toNat : Int) < 48
      · rw [if_pos h2]
      · rw [if_neg h2, if_pos (by omega)]
    | true =>
      have hc' : 48 ≤ (D[i]).toNat ∧ (D[i]).toNat ≤ 57 := by simpa [dgt] using hc
      rw [if_neg (by omega), if_neg (by omega), wnat (by omega), hn, wstep' _ _ hc b0 hb]
      exact ih (i + 1) k _ (by omega) (by omega) (by rw [ht, List.all_append, hp]; simp [hc]) (by rw [ht, valf_snoc])

theorem implNum (l : List UInt8) (hl : l.length ≤ 1048576) (k : Nat) (hk : 200 < k) : impl_ReadDecimal.f k (bs l) [()] = some (num l) := by
  obtain ⟨k, rfl⟩ : ∃ m, k = m + 2 := ⟨k - 2, by omega⟩
  unfold impl_ReadDecimal.f Go.Proofs.YtopopjkoanpjiaaDoorX.strings_HasPrefix.f
  rw [show (⟨#[45]⟩ : ByteArray) = bs [45] from rfl, bs_list, bs_list, hasPrefix_neg]
  simp only [Option.bind_some, decide_eq_true_eq]
  have fin : ∀ (D : List UInt8) (neg : Bool), ((neg = true ∧ l = 45 :: D) ∨ (neg = false ∧ l = D)) → (neg = true ↔ l.head? = some 45) → impl_ReadDecimal.j0 (k + 2) (bs l) (bs D) [()] = some (num l) := by
    intro D neg hN hneg
    have hD : (if l.head? = some 45 then l.drop 1 else l) = D := by
      rcases hN with ⟨h1, h2⟩ | ⟨h1, h2⟩
      · rw [if_pos (hneg.1 h1), h2]; rfl
      · rw [if_neg (fun h => by rw [hneg.2 h] at h1; cases h1), h2]
    have hv : (if l.head? = some 45 then -valf D 0 else valf D 0) = (if neg = true then -valf D 0 else valf D 0) := by
      cases neg with
      | true => rw [if_pos (hneg.1 rfl), if_pos rfl]
      | false => rw [if_neg (fun h => by have := hneg.2 h; cases this), if_neg (by simp)]
    have hDl : D.length ≤ l.length := by rcases hN with ⟨_, h2⟩ | ⟨_, h2⟩ <;> rw [h2] <;> simp
    unfold num
    simp only [hD, hv]
    simp only [impl_ReadDecimal.j0]
    rw [bs_size]
    by_cases h1 : (D.length : Int) < 1
    · rw [if_pos h1, if_neg (by omega)]
      simp [impl_ReadDecimal.j1]
    · rw [if_neg h1]
      by_cases h2 : (D.length : Int) > 18
      · rw [decide_eq_true h2, if_neg (by omega)]
        simp [impl_ReadDecimal.j1]
      · rw [decide_eq_false h2]
        simp only [impl_ReadDecimal.j1, Bool.false_eq_true, if_false]
        have := implNum_l0 l D neg hN (by omega) (by omega) D.length 0 k 0 (by omega) (by omega) (by simp) (by simp [valf])
        rw [show ((0 : Nat) : Int) = 0 from rfl] at this
        rw [this]
        by_cases h3 : ¬ (D.head? = some 48 ∧ 1 < l.length) ∧ D.all dgt = true
        · have hc : 1 ≤ D.length ∧ D.length ≤ 18 ∧ ¬ (D.head? = some 48 ∧ 1 < l.length) ∧ D.all dgt = true := ⟨by omega, by omega, h3.1, h3.2⟩
          rw [if_pos h3, if_pos hc]
        · have hc : ¬ (1 ≤ D.length ∧ D.length ≤ 18 ∧ ¬ (D.head? = some 48 ∧ 1 < l.length) ∧ D.all dgt = true) := fun h => h3 ⟨h.2.2.1, h.2.2.2⟩
          rw [if_neg h3, if_neg hc]
  by_cases h : l.head? = some 45
  · cases l with
    | nil => simp at h
    | cons b r =>
      simp only [List.head?_cons, Option.some.injEq] at h
      subst h
      rw [if_pos (show (45 :: r).head? = some 45 from rfl), bs_size, if_pos (by simp only [List.length_cons]; omega), extract_bs]
      have := fin r true (.inl ⟨rfl, rfl⟩) (by simp)
      simpa using this
  · rw [if_neg h]
    exact fin l false (.inr ⟨rfl, rfl⟩) (by simp [h])

theorem num_bytes {l : List UInt8} (h : (num l).2 = true) : ∀ b ∈ l, b = 45 ∨ dgt b = true := by
  unfold num at h
  simp only at h
  generalize hD : (if l.head? = some 45 then l.drop 1 else l) = D at h
  by_cases hc : 1 ≤ D.length ∧ D.length ≤ 18 ∧ ¬ (D.head? = some 48 ∧ 1 < l.length) ∧ D.all dgt = true
  · have hall := hc.2.2.2
    rw [List.all_eq_true] at hall
    intro b hb
    by_cases h45 : l.head? = some 45
    · rw [if_pos h45] at hD
      cases l with
      | nil => simp at hb
      | cons x r =>
        rcases List.mem_cons.1 hb with rfl | hb
        · left; simpa using h45
        · right; exact hall b (by rw [← hD]; simpa using hb)
    · rw [if_neg h45] at hD
      right; exact hall b (by rw [← hD]; exact hb)
  · rw [if_neg hc] at h; cases h

/-- within the bounds of a list's numbers -/
def inB (n : Int) : Bool := decide (-1000000000000 ≤ n ∧ n ≤ 1000000000000)
def okP (p : List UInt8) : Bool := (num p).2 && inB (num p).1

/-- the list with a text -/
def rl (l : List UInt8) : List Int × Bool :=
  if l = [45] then ([], true) else if (splitL 44 l).all okP = true ∧ (splitL 44 l).length ≤ 64 then ((splitL 44 l).map fun p => (num p).1, true) else ([], false)

theorem rdS (xs : List (List UInt8)) (i : Nat) (h : i < xs.length) : rdOf ByteArray.empty (xs.map bs) (i : Int) = bs xs[i] := by
  unfold rdOf; simp [List.getD, h]

theorem toList45 (l : List UInt8) : ((bs l).toList = ([45] : List UInt8)) = (l = [45]) := by rw [bs_toList]

theorem specRL (l : List UInt8) (hl : l.length ≤ 1048576) (k : Nat) (hk : 1100000 < k) : spec_ReadList.f k (bs l) = some (rl l) := by
  unfold spec_ReadList.f rl
  simp only [toList45]
  by_cases h : l = [45]
  · rw [if_pos h, if_pos h]
  rw [if_neg h, if_neg h, show (44 : Int) = ((44 : UInt8).toNat : Int) from rfl, specSplit l 44 hl k (by omega)]
  simp only [Option.bind_some, List.length_map]
  by_cases h64 : (splitL 44 l).length ≤ 64
  · rw [if_neg (by omega)]
    have hp : ∀ p ∈ splitL 44 l, p.length ≤ 1048576 := fun p hp => by have := (splitL_part hp).1; omega
    generalize splitL 44 l = ps at h64 hp
    have key : ∀ (d i k : Nat), i + d = ps.length → 300 + d < k → (ps.take i).all okP = true → spec_ReadList.l0 k (ps.map bs) ((ps.take i).map fun p => (num p).1) (i : Int) = some (if ps.all okP = true then (ps.map fun p => (num p).1, true) else ([], false)) := by
      intro d
      induction d with
      | zero =>
        intro i k hi hk ha
        obtain ⟨k, rfl⟩ : ∃ m, k = m + 1 := ⟨k - 1, by omega⟩
        rw [List.take_of_length_le (by omega)] at ha ⊢
        simp only [spec_ReadList.l0]
        rw [List.length_map, if_neg (by omega), if_pos ha]
      | succ d ih =>
        intro i k hi hk ha
        obtain ⟨k, rfl⟩ : ∃ m, k = m + 1 := ⟨k - 1, by omega⟩
        have hlt : i < ps.length := by omega
        have ht : ps.take (i + 1) = ps.take i ++ [ps[i]] := List.take_succ_eq_append_getElem hlt
        simp only [spec_ReadList.l0]
        rw [List.length_map, if_pos (by omega), if_pos (by omega), rdS ps i hlt, specNum _ (hp _ (List.getElem_mem hlt)) k (by omega)]
        simp only [Option.bind_some, l00In_eq]
        cases h1 : (num ps[i]).2 with
        | false =>
          have hn : ¬ ps.all okP = true := by
            intro h2; rw [List.all_eq_true] at h2
            have := h2 _ (List.getElem_mem hlt)
            unfold okP at this; rw [h1] at this; cases this
          rw [if_neg (by simp), if_neg hn]
        | true =>
          rw [if_pos rfl]
          cases h2 : inB (num ps[i]).1 with
          | false =>
            have hn : ¬ ps.all okP = true := by
              intro h3; rw [List.all_eq_true] at h3
              have := h3 _ (List.getElem_mem hlt)
              unfold okP at this; rw [h2, Bool.and_false] at this; cases this
            unfold inB at h2
            rw [h2, if_neg (by simp), if_neg hn]
          | true =>
            have h2' := h2
            unfold inB at h2
            rw [h2, if_pos rfl, if_pos (by rw [List.length_map, List.length_take]; omega), wnat (by omega)]
            have := ih (i + 1) k (by omega) (by omega) (by rw [ht, List.all_append, ha]; simp [okP, h1, h2'])
            rw [ht, List.map_append, List.map_cons, List.map_nil] at this
            exact this
    have := key ps.length 0 k (by omega) (by omega) (by simp)
    simp only [List.take_zero, List.map_nil] at this
    rw [show ((0 : Nat) : Int) = 0 from rfl] at this
    rw [this]
    by_cases ha : ps.all okP = true
    · rw [if_pos ha, if_pos ⟨ha, h64⟩]
    · rw [if_neg ha, if_neg (fun h => ha h.1)]
  · rw [if_pos (by omega), if_neg (fun h => h64 h.2)]

theorem implRL (l : List UInt8) (hl : l.length ≤ 1048576) (k : Nat) (hk : 1100000 < k) : impl_ReadList.f k (bs l) [()] = some (rl l) := by
  unfold impl_ReadList.f rl
  simp only [toList45]
  by_cases h : l = [45]
  · rw [if_pos h, if_pos h]
  rw [if_neg h, if_neg h, show (⟨#[44]⟩ : ByteArray) = bs [44] from rfl, implSplit l 44 hl]
  simp only [Option.bind_some, List.length_map]
  have hlen := splitL_len 44 l
  have hp : ∀ p ∈ splitL 44 l, p.length ≤ 1048576 := fun p hp => by have := (splitL_part hp).1; omega
  generalize splitL 44 l = ps at hlen hp
  have key : ∀ (d i k : Nat), i + d = ps.length → 300 + d < k → (ps.take i).all okP = true → impl_ReadList.l0 k ((ps.take i).map fun p => (num p).1) (ps.map bs) (ps.length : Int) (i : Int) [()] = some (if ps.all okP = true ∧ ps.length ≤ 64 then (ps.map fun p => (num p).1, true) else ([], false)) := by
    intro d
    induction d with
    | zero =>
      intro i k hi hk ha
      obtain ⟨k, rfl⟩ : ∃ m, k = m + 1 := ⟨k - 1, by omega⟩
      rw [List.take_of_length_le (by omega)] at ha ⊢
      simp only [impl_ReadList.l0]
      rw [if_neg (by omega), List.length_map]
      by_cases h64 : ps.length ≤ 64
      · rw [if_neg (by omega), if_pos ⟨ha, h64⟩]
      · rw [if_pos (by omega), if_neg (fun h => h64 h.2)]
    | succ d ih =>
      intro i k hi hk ha
      obtain ⟨k, rfl⟩ : ∃ m, k = m + 1 := ⟨k - 1, by omega⟩
      have hlt : i < ps.length := by omega
      have ht : ps.take (i + 1) = ps.take i ++ [ps[i]] := List.take_succ_eq_append_getElem hlt
      simp only [impl_ReadList.l0]
      rw [if_pos (by omega), if_pos (by omega), List.length_map, if_pos (by omega), rdS ps i hlt, implNum _ (hp _ (List.getElem_mem hlt)) k (by omega)]
      simp only [Option.bind_some, within_eq]
      cases h1 : (num ps[i]).2 with
      | false =>
        have hn : ¬ (ps.all okP = true ∧ ps.length ≤ 64) := by
          intro h2; have h2 := h2.1; rw [List.all_eq_true] at h2
          have := h2 _ (List.getElem_mem hlt)
          unfold okP at this; rw [h1] at this; cases this
        rw [if_neg (by simp), if_neg hn]
      | true =>
        rw [if_pos rfl]
        cases h2 : inB (num ps[i]).1 with
        | false =>
          have hn : ¬ (ps.all okP = true ∧ ps.length ≤ 64) := by
            intro h3; have h3 := h3.1; rw [List.all_eq_true] at h3
            have := h3 _ (List.getElem_mem hlt)
            unfold okP at this; rw [h2, Bool.and_false] at this; cases this
          unfold inB at h2
          rw [h2, if_neg (by simp), if_neg hn]
        | true =>
          have h2' := h2
          unfold inB at h2
          rw [h2, if_pos rfl, if_pos (by rw [List.length_map, List.length_take]; omega), wnat (by omega)]
          have := ih (i + 1) k (by omega) (by omega) (by rw [ht, List.all_append, ha]; simp [okP, h1, h2'])
          rw [ht, List.map_append, List.map_cons, List.map_nil] at this
          exact this
  have := key ps.length 0 k (by omega) (by omega) (by simp)
  simp only [List.take_zero, List.map_nil] at this
  exact this

theorem rl_bytes {l : List UInt8} (b : UInt8) (hb : b ∈ l) (h44 : b ≠ 44) (h45 : b ≠ 45) (hd : dgt b = false) : rl l = ([], false) := by
  unfold rl
  rw [if_neg (fun h => by rw [h, List.mem_singleton] at hb; exact h45 hb), if_neg]
  intro h
  obtain ⟨p, hp, hbp⟩ := splitL_mem h44 hb
  have h1 := h.1
  rw [List.all_eq_true] at h1
  have h2 := h1 p hp
  unfold okP at h2
  rw [Bool.and_eq_true] at h2
  rcases num_bytes h2.1 b hbp with h3 | h3
  · exact h45 h3
  · rw [hd] at h3; cases h3

theorem num_nil : num [] = (0, false) := by unfold num; simp
theorem rl_nil : rl [] = ([], false) := by
  unfold rl
  rw [if_neg (by simp), if_neg]
  intro h
  have h1 := h.1
  simp only [splitL, List.all_cons, List.all_nil, okP, num_nil] at h1
  cases h1

theorem rl_bound {l : List UInt8} : ∀ n ∈ (rl l).1, -1000000000000 ≤ n ∧ n ≤ 1000000000000 := by
  unfold rl
  split
  · simp
  · split
    · rename_i h
      intro n hn
      obtain ⟨p, hp, rfl⟩ := List.mem_map.1 hn
      have h1 := h.1
      rw [List.all_eq_true] at h1
      have := h1 p hp
      unfold okP inB at this
      rw [Bool.and_eq_true, decide_eq_true_eq] at this
      exact this.2
    · simp

def upTo : Nat → Int → List Int
  | 0, _ => []
  | n + 1, m => m :: upTo n (m + 1)

theorem upTo_len : ∀ (n : Nat) (m : Int), (upTo n m).length = n
  | 0, _ => rfl
  | n + 1, m => by simp [upTo, upTo_len n]

theorem upTo_get : ∀ (n : Nat) (m : Int) (i : Nat) (h : i < (upTo n m).length), (upTo n m)[i] = m + i
  | 0, m, i, h => by simp [upTo] at h
  | n + 1, m, 0, h => by simp [upTo]
  | n + 1, m, i + 1, h => by
    have h' : i < (upTo n (m + 1)).length := by simpa [upTo] using h
    have := upTo_get n (m + 1) i h'
    simp only [upTo, List.getElem_cons_succ, this]; omega

theorem markInts_eq (l : List Int) (hl : l.length ≤ 1048576) (m : Int) (h0 : 0 ≤ m) (h1 : m ≤ 100000000) (k : Nat) (hk : l.length < k) : laws_markInt64S.f k l m = some (m + l.length, upTo l.length m) := by
  have key : ∀ (n i k : Nat) (s : List Int), i + n = l.length → n < k → s.length = l.length → s.take i = (upTo l.length m).take i →
      laws_markInt64S.l0 k s (m + i) (i : Int) = some (m + l.length, upTo l.length m) := by
    intro n
    induction n with
    | zero =>
      intro i k s hi hk hs ht
      obtain ⟨k, rfl⟩ : ∃ m, k = m + 1 := ⟨k - 1, by omega⟩
      obtain rfl : i = l.length := by omega
      simp only [laws_markInt64S.l0]
      have e : s = upTo l.length m := by
        rw [List.take_of_length_le (by omega), List.take_of_length_le (by rw [upTo_len]; omega)] at ht; exact ht
      rw [if_neg (by omega), e]
    | succ n ih =>
      intro i k s hi hk hs ht
      obtain ⟨k, rfl⟩ : ∃ m, k = m + 1 := ⟨k - 1, by omega⟩
      simp only [laws_markInt64S.l0]
      rw [if_pos (by omega), if_pos (by omega), w64 (x := m + i + 1) (by omega) (by omega), wnat (by omega)]
      have hh := ih (i + 1) k (s.set (i : Int).toNat (m + i)) (by omega) (by omega) (by rw [List.length_set]; exact hs) (by
        have hlt : i < (upTo l.length m).length := by rw [upTo_len]; omega
        rw [List.take_succ_eq_append_getElem (by rw [List.length_set]; omega), List.take_succ_eq_append_getElem hlt, List.take_set_of_le (by omega), ht, upTo_get _ _ _ hlt]
        simp)
      rw [show m + ((i + 1 : Nat) : Int) = m + i + 1 by omega] at hh
      exact hh
  have := key l.length 0 k l (by omega) hk rfl (by simp)
  unfold laws_markInt64S.f
  simpa using this

theorem heldInts_eq (n : Nat) (hn : n ≤ 1048576) (m : Int) (h0 : 0 ≤ m) (h1 : m ≤ 100000000) (k : Nat) (hk : n < k) : laws_heldInt64S.f k (upTo n m) m = some (m + n) := by
  have key : ∀ (d i k : Nat), i + d = n → d < k → laws_heldInt64S.l0 k (upTo n m) (m + i) (i : Int) = some (m + n) := by
    intro d
    induction d with
    | zero =>
      intro i k hi hk
      obtain ⟨k, rfl⟩ : ∃ m, k = m + 1 := ⟨k - 1, by omega⟩
      obtain rfl : i = n := by omega
      simp only [laws_heldInt64S.l0]
      rw [if_neg (by rw [upTo_len]; omega)]
    | succ d ih =>
      intro i k hi hk
      obtain ⟨k, rfl⟩ : ∃ m, k = m + 1 := ⟨k - 1, by omega⟩
      simp only [laws_heldInt64S.l0]
      have hlt : i < (upTo n m).length := by rw [upTo_len]; omega
      rw [if_pos (by omega), if_pos (by omega), rdi _ i hlt, upTo_get _ _ _ hlt, if_pos rfl, w64 (x := m + i + 1) (by omega) (by omega), wnat (by omega)]
      have hh := ih (i + 1) k (by omega) (by omega)
      rw [show m + ((i + 1 : Nat) : Int) = m + i + 1 by omega] at hh
      exact hh
  have := key n 0 k (by omega) hk
  unfold laws_heldInt64S.f
  simpa using this

/-- the breadth and the cells of rows -/
def rtl : List (List UInt8) → Bool → Int → List Int → Option (Int × List Int)
  | [], _, w, c => some (w, c)
  | p :: ps, fst, w, c => if (rl p).2 = true ∧ (fst = true ∨ ((rl p).1.length : Int) = w) then rtl ps false ((rl p).1.length : Int) (c ++ (rl p).1) else none

/-- the tiling with a text -/
def rtN (n : Int) : Option (Int × List Int) → Int × Int × List Int × Bool
  | some (w, c) => if okT w n c = true then (w, n, c, true) else (0, 0, [], false)
  | none => (0, 0, [], false)

def rtT (l : List UInt8) : Int × Int × List Int × Bool := rtN ((splitL 47 l).length : Int) (rtl (splitL 47 l) true 0 [])

theorem rl_len (l : List UInt8) : (rl l).1.length ≤ 64 := by
  unfold rl
  split
  · simp
  · split
    · rename_i h; simp; exact h.2
    · simp

theorem specRT (l : List UInt8) (hl : l.length ≤ 1048576) (k : Nat) (hk : 2300000 < k) : spec_ReadTiling.f k (bs l) = some (rtT l) := by
  have hlen := splitL_len 47 l
  have hp : ∀ p ∈ splitL 47 l, p.length ≤ 1048576 := fun p hp => by have := (splitL_part hp).1; omega
  unfold spec_ReadTiling.f spec_l17Read.f rtT
  rw [show (47 : Int) = ((47 : UInt8).toNat : Int) from rfl, specSplit l 47 hl k (by omega)]
  simp only [Option.bind_some, List.length_map]
  generalize splitL 47 l = ps at hlen hp
  have key : ∀ (d i k : Nat) (w : Int) (c : List Int), i + d = ps.length → 1150000 + d < k → c.length ≤ 64 * i →
      spec_l17Read.l0 k (ps.map bs) (i : Int) w (ps.length : Int) c = some (rtN (ps.length : Int) (rtl (ps.drop i) (decide (i = 0)) w c)) := by
    intro d
    induction d with
    | zero =>
      intro i k w c hi hk hc
      obtain ⟨k, rfl⟩ : ∃ m, k = m + 1 := ⟨k - 1, by omega⟩
      simp only [spec_l17Read.l0]
      rw [List.length_map, if_neg (by omega), List.drop_of_length_le (by omega), specOk k (by omega)]
      simp only [Option.bind_some, rtl, rtN]
      split <;> rfl
    | succ d ih =>
      intro i k w c hi hk hc
      obtain ⟨k, rfl⟩ : ∃ m, k = m + 1 := ⟨k - 1, by omega⟩
      have hlt : i < ps.length := by omega
      have hr := rl_len ps[i]
      simp only [spec_l17Read.l0]
      rw [List.length_map, if_pos (by omega), if_pos (by omega), rdS ps i hlt, specRL _ (hp _ (List.getElem_mem hlt)) k (by omega), List.drop_eq_getElem_cons hlt, wnat (by omega)]
      simp only [Option.bind_some, rtl]
      cases h1 : (rl ps[i]).2 with
      | false => rw [if_neg (by simp), if_neg (by simp)]; rfl
      | true =>
        have hn := ih (i + 1) k ((rl ps[i]).1.length : Int) (c ++ (rl ps[i]).1) (by omega) (by omega) (by rw [List.length_append]; omega)
        rw [show decide (i + 1 = 0) = false from by simp] at hn
        rw [if_pos rfl, if_pos (show c.length + (rl ps[i]).1.length < 17592186044416 by omega), hn]
        by_cases h0 : i = 0
        · rw [if_neg (by omega), if_pos ⟨rfl, .inl (by simp [h0])⟩]
        · rw [if_pos (by omega)]
          by_cases h2 : ((rl ps[i]).1.length : Int) = w
          · rw [if_pos h2, if_pos ⟨rfl, .inr h2⟩]
          · rw [if_neg h2, if_neg (by simp [h0, h2])]; rfl
  have := key ps.length 0 k 0 [] (by omega) (by omega) (by simp)
  rw [show ((0 : Nat) : Int) = 0 from rfl] at this
  rw [this]
  rfl

theorem implRT (l : List UInt8) (hl : l.length ≤ 1048576) (k : Nat) (hk : 2300000 < k) : impl_ReadTiling.f k (bs l) [()] = some (rtT l) := by
  have hlen := splitL_len 47 l
  have hp : ∀ p ∈ splitL 47 l, p.length ≤ 1048576 := fun p hp => by have := (splitL_part hp).1; omega
  unfold impl_ReadTiling.f rtT
  rw [show (⟨#[47]⟩ : ByteArray) = bs [47] from rfl, implSplit l 47 hl]
  simp only [Option.bind_some, List.length_map]
  generalize splitL 47 l = ps at hlen hp
  have key : ∀ (d i k : Nat) (w : Int) (c : List Int), i + d = ps.length → 1150000 + d < k → c.length ≤ 64 * i →
      impl_ReadTiling.l0 k (ps.map bs) (ps.length : Int) (i : Int) [()] w (i : Int) c = some (rtN (ps.length : Int) (rtl (ps.drop i) (decide (i = 0)) w c)) := by
    intro d
    induction d with
    | zero =>
      intro i k w c hi hk hc
      obtain ⟨k, rfl⟩ : ∃ m, k = m + 1 := ⟨k - 1, by omega⟩
      obtain rfl : i = ps.length := by omega
      simp only [impl_ReadTiling.l0]
      rw [if_neg (by omega), List.drop_of_length_le (by omega), implTiling k (by omega)]
      simp only [Option.bind_some, rtl, rtN]
      split <;> rfl
    | succ d ih =>
      intro i k w c hi hk hc
      obtain ⟨k, rfl⟩ : ∃ m, k = m + 1 := ⟨k - 1, by omega⟩
      have hlt : i < ps.length := by omega
      have hr := rl_len ps[i]
      simp only [impl_ReadTiling.l0]
      rw [if_pos (by omega), if_pos (by omega), List.length_map, if_pos (by omega), rdS ps i hlt, implRL _ (hp _ (List.getElem_mem hlt)) k (by omega), List.drop_eq_getElem_cons hlt, wnat (by omega)]
      simp only [Option.bind_some, rtl]
      cases h1 : (rl ps[i]).2 with
      | false => rw [if_neg (by simp), if_neg (by simp)]; rfl
      | true =>
        have hn := ih (i + 1) k ((rl ps[i]).1.length : Int) (c ++ (rl ps[i]).1) (by omega) (by omega) (by rw [List.length_append]; omega)
        rw [show decide (i + 1 = 0) = false from by simp] at hn
        rw [if_pos rfl, if_pos (show c.length + (rl ps[i]).1.length < 17592186044416 by omega), hn]
        by_cases h0 : i = 0
        · rw [if_neg (by omega), if_pos ⟨rfl, .inl (by simp [h0])⟩]
        · rw [if_pos (by omega)]
          by_cases h2 : ((rl ps[i]).1.length : Int) = w
          · rw [if_pos h2, if_pos ⟨rfl, .inr h2⟩]
          · rw [if_neg h2, if_neg (by simp [h0, h2])]; rfl
  have := key ps.length 0 k 0 [] (by omega) (by omega) (by simp)
  rw [show ((0 : Nat) : Int) = 0 from rfl] at this
  rw [this]
  rfl

theorem rtT_len (l : List UInt8) : (rtT l).2.2.1.length ≤ 1000 := by
  unfold rtT rtN
  split
  · split
    · rename_i h
      obtain ⟨ha, hb, hm, _⟩ := okT_use h
      have := (mul12 ha hb).2
      simp only; omega
    · simp
  · simp

theorem FnExactReadTiling : laws_FnExactReadTiling.Pure := by
  intro s hs
  refine ⟨2300100, ?_⟩
  obtain ⟨k, hk⟩ : ∃ k : Nat, k = 2300098 := ⟨_, rfl⟩
  rw [show 2300100 = k + 1 + 1 by omega]
  unfold laws_FnExactReadTiling.f
  by_cases hz : (s.size : Int) > 1048576
  · rw [if_pos hz]
  rw [if_neg hz]
  obtain ⟨l, rfl⟩ : ∃ l, s = bs l := ⟨_, (bs_of s).symm⟩
  rw [bs_size] at hz
  have hl : l.length ≤ 1048576 := by omega
  have hr := rtT_len l
  have h1 := specRT l hl
  have h2 := implRT l hl
  generalize rtT l = r at hr h1 h2
  obtain ⟨w, h, c, ok⟩ := r
  simp only at hr
  have he : ∀ k, 2000 ≤ k → laws_eqTiling.f k w h c w h c = some true := fun k hk => eqTiling_eq w h c (by omega) k (by omega)
  have hm := markInts_eq c (by omega) 1 (by omega) (by omega)
  have hh := heldInts_eq c.length (by omega) 1 (by omega) (by omega)
  have hht : ∀ k, 2000 ≤ k → laws_heldTiling.f k w h (upTo c.length 1) 1 = some (1 + (c.length : Int)) := by
    intro k hk
    unfold laws_heldTiling.f
    rw [hh k (by omega)]
    simp only [Option.bind_some]
    rw [if_neg (by omega)]
  rw [h1 (k + 1 + 1) (by omega), h2 (k + 1 + 1) (by omega)]
  simp only [Option.bind_some, he (k + 1 + 1) (by omega), if_true, bne_self_eq_false, laws_FnExactReadTiling.j0, Bool.false_eq_true, if_false]
  unfold laws_markTiling.f
  rw [hm (k + 1) (by omega)]
  simp only [Option.bind_some, hht (k + 1) (by omega)]
  rw [if_neg (by omega)]
  simp only [if_true]
  rw [h2 (k + 1) (by omega)]
  simp only [Option.bind_some, he (k + 1) (by omega), if_true, bne_self_eq_false, laws_FnExactReadTiling.j1, Bool.false_eq_true, if_false, hht k (by omega)]
  rw [if_neg (by omega)]

end Go.Proofs.YtopopjkoanpjiaaDoor.Pure

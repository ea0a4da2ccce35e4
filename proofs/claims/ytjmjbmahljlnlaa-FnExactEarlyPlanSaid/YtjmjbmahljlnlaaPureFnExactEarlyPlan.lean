/- FnExactEarlyPlan: the program's EarlyPlan returns what the reference's returns, for all arguments; no condition. -/
import Derived.Test.YtjmjbmahljlnlaaGFnExactEarlyPlanx
namespace Go.Proofs.Ytjmjbmahljlnlaa.Pure
open Go.RowKit Go.Proofs.Ytjmjbmahljlnlaa.GFnExactEarlyPlan Go.Proofs.YtjmjbmahljlnlaaW.PrintWords Go.Proofs.YtjmjbmahljlnlaaW.PrintLast
set_option linter.unusedSimpArgs false
set_option linter.unusedVariables false

theorem w64 {x : Int} (h0 : -9223372036854775808 ≤ x) (h1 : x ≤ 9223372036854775807) : wrap64 x = x := by
  unfold wrap64; omega

theorem within_eq (a b c : Int) : impl_within.f a b c = some (decide (b ≤ a ∧ a ≤ c)) := by
  unfold impl_within.f
  by_cases h : a ≥ b
  · rw [if_pos h]; simp [h]
  · rw [if_neg h]; simp; omega

theorem l00In_eq (a b c : Int) : spec_l00In.f a b c = some (decide (b ≤ a ∧ a ≤ c)) := by
  unfold spec_l00In.f
  by_cases h : a ≥ b
  · rw [if_pos h]; simp [h]
  · rw [if_neg h]; simp; omega

/-- a loop over a list: from one state to the next, or out of it -/
def run {α σ β : Type} (st : σ → α → Nat → σ ⊕ β) (en : σ → β) : List α → σ → Nat → β
  | [], s, _ => en s
  | x :: xs, s, i => match st s x i with
    | .inl s' => run st en xs s' (i + 1)
    | .inr r => r

theorem loop_run {α σ β : Type} (xs : List α) (K0 : Nat) (Inv : σ → Nat → Prop) (L : Nat → σ → Int → Option β) (st : σ → α → Nat → σ ⊕ β) (en : σ → β)
    (hs : ∀ (k : Nat) (s : σ) (i : Nat) (h : i < xs.length), K0 ≤ k → Inv s i →
      (∃ s', st s xs[i] i = .inl s' ∧ Inv s' (i + 1) ∧ L (k + 1) s (i : Int) = L k s' ((i + 1 : Nat) : Int)) ∨ (∃ r, st s xs[i] i = .inr r ∧ L (k + 1) s (i : Int) = some r))
    (he : ∀ (k : Nat) (s : σ), K0 ≤ k → Inv s xs.length → L (k + 1) s (xs.length : Int) = some (en s)) :
    ∀ (n i k : Nat) (s : σ), i + n = xs.length → K0 + n < k → Inv s i → L k s (i : Int) = some (run st en (xs.drop i) s i) := by
  intro n
  induction n with
  | zero =>
    intro i k s hi hk hI
    obtain ⟨k, rfl⟩ : ∃ m, k = m + 1 := ⟨k - 1, by omega⟩
    obtain rfl : i = xs.length := by omega
    rw [he k s (by omega) hI, List.drop_length]; rfl
  | succ n ih =>
    intro i k s hi hk hI
    obtain ⟨k, rfl⟩ : ∃ m, k = m + 1 := ⟨k - 1, by omega⟩
    have hlt : i < xs.length := by omega
    rw [List.drop_eq_getElem_cons hlt]
    rcases hs k s i hlt (by omega) hI with ⟨s', h1, h2, h3⟩ | ⟨r, h1, h3⟩
    · rw [h3, ih (i + 1) k s' (by omega) (by omega) h2]
      simp only [run, h1]
    · rw [h3]
      simp only [run, h1]

theorem loop_run0 {α σ β : Type} (xs : List α) (K0 : Nat) (Inv : σ → Nat → Prop) (L : Nat → σ → Int → Option β) (st : σ → α → Nat → σ ⊕ β) (en : σ → β)
    (hs : ∀ (k : Nat) (s : σ) (i : Nat) (h : i < xs.length), K0 ≤ k → Inv s i →
      (∃ s', st s xs[i] i = .inl s' ∧ Inv s' (i + 1) ∧ L (k + 1) s (i : Int) = L k s' ((i + 1 : Nat) : Int)) ∨ (∃ r, st s xs[i] i = .inr r ∧ L (k + 1) s (i : Int) = some r))
    (he : ∀ (k : Nat) (s : σ), K0 ≤ k → Inv s xs.length → L (k + 1) s (xs.length : Int) = some (en s)) (k : Nat) (s : σ) (hk : K0 + xs.length < k) (hI : Inv s 0) :
    L k s 0 = some (run st en xs s 0) := by
  have := loop_run xs K0 Inv L st en hs he xs.length 0 k s (by omega) hk hI
  simpa using this

/-- a row that is made and then filled, element by element -/
theorem loop_map {α β : Type} (xs : List α) (z : β) (c : α → β) (L : Nat → List β → Int → Option (List β))
    (hs : ∀ (k : Nat) (s : List β) (i : Nat) (h : i < xs.length), s.length = xs.length → L (k + 1) s (i : Int) = L k (s.set i (c xs[i])) ((i + 1 : Nat) : Int))
    (he : ∀ (k : Nat) (s : List β), L (k + 1) s (xs.length : Int) = some s) (k : Nat) (hk : xs.length < k) :
    L k (List.replicate xs.length z) 0 = some (xs.map c) := by
  have key : ∀ (n i k : Nat) (s : List β), i + n = xs.length → n < k → s.length = xs.length → s.take i = (xs.map c).take i → L k s (i : Int) = some (xs.map c) := by
    intro n
    induction n with
    | zero =>
      intro i k s hi hk hl ht
      obtain ⟨k, rfl⟩ : ∃ m, k = m + 1 := ⟨k - 1, by omega⟩
      obtain rfl : i = xs.length := by omega
      have h1 : s.take xs.length = s := List.take_of_length_le (by omega)
      rw [he, ← h1, ht, List.take_of_length_le (by simp)]
    | succ n ih =>
      intro i k s hi hk hl ht
      obtain ⟨k, rfl⟩ : ∃ m, k = m + 1 := ⟨k - 1, by omega⟩
      have hlt : i < xs.length := by omega
      rw [hs k s i hlt hl]
      refine ih (i + 1) k _ (by omega) (by omega) (by rw [List.length_set]; exact hl) ?_
      rw [List.take_succ_eq_append_getElem (by rw [List.length_set]; omega), List.take_succ_eq_append_getElem (by rw [List.length_map]; omega), List.take_set_of_le (by omega), ht]
      simp
  have := key xs.length 0 k (List.replicate xs.length z) (by omega) hk (by simp) (by simp)
  simpa using this

theorem wnat {n : Nat} (h : n < 9223372036854775807) : wrap64 ((n : Int) + 1) = ((n + 1 : Nat) : Int) := by
  unfold wrap64; omega

theorem loop_all {β : Type} (n K0 : Nat) (L : Nat → Int → Option β) (r : β) (hs : ∀ (k i : Nat), K0 ≤ k → i < n → L (k + 1) (i : Int) = L k ((i + 1 : Nat) : Int)) (he : ∀ k : Nat, L (k + 1) (n : Int) = some r)
    (k : Nat) (hk : K0 + n < k) : L k 0 = some r := by
  have key : ∀ (m i k : Nat), i + m = n → K0 + m < k → L k (i : Int) = some r := by
    intro m
    induction m with
    | zero =>
      intro i k hi hk
      obtain ⟨k, rfl⟩ : ∃ m, k = m + 1 := ⟨k - 1, by omega⟩
      obtain rfl : i = n := by omega
      exact he k
    | succ m ih =>
      intro i k hi hk
      obtain ⟨k, rfl⟩ : ∃ m, k = m + 1 := ⟨k - 1, by omega⟩
      rw [hs k i (by omega) (by omega)]
      exact ih (i + 1) k (by omega) (by omega)
  simpa using key n 0 k (by omega) hk

theorem all_from {α β : Type} (xs : List α) (K0 : Nat) (p : α → Bool) (r0 r1 : β) (L : Nat → Int → Option β)
    (hs : ∀ (k i : Nat) (h : i < xs.length), K0 ≤ k → L (k + 1) (i : Int) = if p xs[i] = true then L k ((i + 1 : Nat) : Int) else some r0)
    (he : ∀ k : Nat, K0 ≤ k → L (k + 1) (xs.length : Int) = some r1) : ∀ (n i k : Nat), i + n = xs.length → K0 + n < k → L k (i : Int) = some (if (xs.drop i).all p = true then r1 else r0) := by
  intro n
  induction n with
  | zero =>
    intro i k hi hk
    obtain ⟨k, rfl⟩ : ∃ m, k = m + 1 := ⟨k - 1, by omega⟩
    obtain rfl : i = xs.length := by omega
    rw [he k (by omega), List.drop_length]; rfl
  | succ n ih =>
    intro i k hi hk
    obtain ⟨k, rfl⟩ : ∃ m, k = m + 1 := ⟨k - 1, by omega⟩
    have hlt : i < xs.length := by omega
    rw [hs k i hlt (by omega), List.drop_eq_getElem_cons hlt, List.all_cons]
    cases hp : p xs[i] with
    | true => rw [if_pos rfl, ih (i + 1) k (by omega) (by omega), Bool.true_and]
    | false => simp

theorem all_loop {α β : Type} (xs : List α) (K0 : Nat) (p : α → Bool) (r0 r1 : β) (L : Nat → Int → Option β)
    (hs : ∀ (k i : Nat) (h : i < xs.length), K0 ≤ k → L (k + 1) (i : Int) = if p xs[i] = true then L k ((i + 1 : Nat) : Int) else some r0)
    (he : ∀ k : Nat, K0 ≤ k → L (k + 1) (xs.length : Int) = some r1) (k : Nat) (hk : K0 + xs.length < k) : L k 0 = some (if xs.all p = true then r1 else r0) := by
  simpa using all_from xs K0 p r0 r1 L hs he xs.length 0 k (by omega) hk

theorem idx_from {α : Type} (xs : List α) (K0 : Nat) (q : α → Bool) (L : Nat → Int → Option Int)
    (hs : ∀ (k i : Nat) (h : i < xs.length), K0 ≤ k → L (k + 1) (i : Int) = if q xs[i] = true then some (i : Int) else L k ((i + 1 : Nat) : Int))
    (he : ∀ k : Nat, K0 ≤ k → L (k + 1) (xs.length : Int) = some (-1)) : ∀ (n i k : Nat), i + n = xs.length → K0 + n < k → ∃ r, L k (i : Int) = some r ∧ decide (r ≥ 0) = (xs.drop i).any q := by
  intro n
  induction n with
  | zero =>
    intro i k hi hk
    obtain ⟨k, rfl⟩ : ∃ m, k = m + 1 := ⟨k - 1, by omega⟩
    obtain rfl : i = xs.length := by omega
    exact ⟨-1, he k (by omega), by rw [List.drop_length]; rfl⟩
  | succ n ih =>
    intro i k hi hk
    obtain ⟨k, rfl⟩ : ∃ m, k = m + 1 := ⟨k - 1, by omega⟩
    have hlt : i < xs.length := by omega
    rw [hs k i hlt (by omega), List.drop_eq_getElem_cons hlt, List.any_cons]
    cases hp : q xs[i] with
    | true => exact ⟨i, by rw [if_pos rfl], by simp⟩
    | false =>
      obtain ⟨r, h1, h2⟩ := ih (i + 1) k (by omega) (by omega)
      exact ⟨r, by rw [if_neg (by simp)]; exact h1, by rw [h2]; simp⟩

theorem idx_loop {α : Type} (xs : List α) (K0 : Nat) (q : α → Bool) (L : Nat → Int → Option Int)
    (hs : ∀ (k i : Nat) (h : i < xs.length), K0 ≤ k → L (k + 1) (i : Int) = if q xs[i] = true then some (i : Int) else L k ((i + 1 : Nat) : Int))
    (he : ∀ k : Nat, K0 ≤ k → L (k + 1) (xs.length : Int) = some (-1)) (k : Nat) (hk : K0 + xs.length < k) : ∃ r, L k 0 = some r ∧ decide (r ≥ 0) = xs.any q := by
  simpa using idx_from xs K0 q L hs he xs.length 0 k (by omega) hk

theorem any_not {α : Type} (l : List α) (p : α → Bool) : l.any (fun x => !p x) = !l.all p := by
  induction l with
  | nil => rfl
  | cons x l ih => rw [List.any_cons, List.all_cons, ih]; cases p x <;> simp

theorem rd26 (xs : List S26) (i : Nat) (h : i < xs.length) : rd_T26 xs (i : Int) = xs[i] := by
  unfold rd_T26; simp [List.getD, h]
theorem rd29 (xs : List S29) (i : Nat) (h : i < xs.length) : rd_T29 xs (i : Int) = xs[i] := by
  unfold rd_T29; simp [List.getD, h]

def toCoat_ (x : S26) : S29 := ⟨x.f0, x.f1, x.f2, x.f3⟩

theorem toCoatS_eq (l : List S26) (hl : l.length ≤ 1048576) (k : Nat) (hk : l.length < k) : laws_toCoatS.f k l = some (l.map toCoat_) := by
  unfold laws_toCoatS.f
  rw [if_pos (by omega), if_pos (by omega), show ((l.length : Int)).toNat = l.length by omega]
  refine loop_map l z29 toCoat_ (fun k s i => laws_toCoatS.l0 k l s i) ?_ ?_ k hk
  · intro k s i h hs
    simp only [laws_toCoatS.l0]
    rw [if_pos (by omega), if_pos (by omega), rd26 l i h]
    unfold laws_toCoat.f
    simp only [Option.bind_some]
    rw [if_pos (by omega), wnat (by omega)]
    rfl
  · intro k s
    simp only [laws_toCoatS.l0]
    rw [if_neg (by omega)]

theorem eqCoatS_eq (l : List S29) (hl : l.length ≤ 1048576) (k : Nat) (hk : l.length < k) : laws_eqCoatS.f k l l = some true := by
  unfold laws_eqCoatS.f
  rw [if_pos rfl]
  refine loop_all l.length 0 (fun k i => laws_eqCoatS.l0 k l l i) true ?_ ?_ k (by omega)
  · intro k i _ h
    simp only [laws_eqCoatS.l0]
    rw [if_pos (by omega), if_pos (by omega), if_pos (by omega)]
    unfold laws_eqCoat.f
    simp only [if_true, Option.bind_some]
    rw [wnat (by omega)]
  · intro k
    simp only [laws_eqCoatS.l0]
    rw [if_neg (by omega)]

theorem szCoat_eq (s : ByteArray) (x y z : Int) (a : Int) (ha : 0 ≤ a) (ha2 : a ≤ 1048576) (hs : s.size ≤ maxLen) : laws_szCoat.f s x y z a = some (if a < s.size then -1 else a - s.size) := by
  unfold maxLen at hs
  unfold laws_szCoat.f
  rw [w64 (x := a - s.size) (by omega) (by omega)]
  by_cases h : a < s.size
  · rw [if_pos (by omega), if_pos h]
  · rw [if_neg (by omega), if_neg h]

def szStCoat (a : Int) (x : S26) (_ : Nat) : Int ⊕ Int := if a < x.f0.size then .inr (-1) else .inl (a - x.f0.size)

theorem run_szCoat : ∀ (l : List S26) (a : Int) (i : Nat), 0 ≤ a → run szStCoat (fun v => v) l a i < 0 ∨ 0 ≤ run szStCoat (fun v => v) l a i ∧ run szStCoat (fun v => v) l a i ≤ a
  | [], a, i, h => .inr ⟨h, Int.le_refl _⟩
  | x :: l, a, i, h => by
    simp only [run, szStCoat]
    by_cases g : a < x.f0.size
    · simp only [if_pos g]; exact .inl (by decide)
    · simp only [if_neg g]
      rcases run_szCoat l (a - x.f0.size) (i + 1) (by omega) with h | h
      · exact .inl h
      · refine .inr ⟨h.1, ?_⟩
        have := h.2
        show run szStCoat (fun v => v) l (a - x.f0.size) (i + 1) ≤ a
        omega

theorem szCoatS_eq (l : List S26) (a : Int) (ha : 0 ≤ a) (ha2 : a ≤ 1048576) (hl : l.length ≤ maxLen) (hg : ∀ y ∈ l, G26 y) :
    ∃ v, (∀ k, 1048577 < k → laws_szCoatS.f k l a = some v) ∧ (v < 0 ∨ 0 ≤ v ∧ v ≤ a ∧ l.length ≤ 1048576) := by
  unfold maxLen at hl
  by_cases h : a - l.length < 0
  · refine ⟨-1, fun k _ => ?_, .inl (by decide)⟩
    unfold laws_szCoatS.f
    rw [w64 (x := a - l.length) (by omega) (by omega), if_pos h]
  · refine ⟨run szStCoat (fun v => v) l (a - l.length) 0, fun k hk => ?_, ?_⟩
    · unfold laws_szCoatS.f
      rw [w64 (x := a - l.length) (by omega) (by omega), if_neg h]
      refine loop_run0 l 0 (fun v _ => 0 ≤ v ∧ v ≤ 1048576) (fun k s i => laws_szCoatS.l0 k l s i) szStCoat (fun v => v) ?_ ?_ k _ (by omega) ⟨by omega, by omega⟩
      · intro k s i hi _ ⟨s0, s1⟩
        simp only [laws_szCoatS.l0]
        rw [if_pos (by omega), if_pos (by omega), rd26 l i hi, szCoat_eq _ _ _ _ _ s0 s1 (hg _ (List.getElem_mem hi)).1]
        simp only [Option.bind_some]
        unfold szStCoat
        by_cases g : s < l[i].f0.size
        · simp only [if_pos g]; exact .inr ⟨-1, rfl, if_pos (by decide)⟩
        · simp only [if_neg g]
          exact .inl ⟨_, rfl, ⟨by omega, by omega⟩, by rw [if_neg (by omega), wnat (by omega)]⟩
      · intro k s _ _
        simp only [laws_szCoatS.l0]
        rw [if_neg (by omega)]
    · rcases run_szCoat l (a - l.length) 0 (by omega) with h | h
      · exact .inl h
      · exact .inr ⟨h.1, by omega, by omega⟩

theorem rdi (xs : List Int) (i : Nat) (h : i < xs.length) : rd xs (i : Int) = xs[i] := by
  unfold rd; simp [List.getD, h]

theorem eqInt64S_eq (l : List Int) (hl : l.length ≤ 1048576) (k : Nat) (hk : l.length < k) : laws_eqInt64S.f k l l = some true := by
  unfold laws_eqInt64S.f
  rw [if_pos rfl]
  refine loop_all l.length 0 (fun k i => laws_eqInt64S.l0 k l l i) true ?_ ?_ k (by omega)
  · intro k i _ h
    simp only [laws_eqInt64S.l0]
    rw [if_pos (by omega), if_pos (by omega), if_pos (by omega), wnat (by omega)]; simp
  · intro k
    simp only [laws_eqInt64S.l0]
    rw [if_neg (by omega)]

def upTo : Nat → Int → List Int
  | 0, _ => []
  | n + 1, m => m :: upTo n (m + 1)

theorem upTo_len : ∀ (n : Nat) (m : Int), (upTo n m).length = n
  | 0, _ => rfl
  | n + 1, m => by simp [upTo, upTo_len n]

theorem upTo_get : ∀ (n : Nat) (m : Int) (i : Nat) (h : i < (upTo n m).length), (upTo n m)[i] = m + i
  | 0, m, i, h => by simp [upTo] at h
  | n + 1, m, 0, h => by simp [upTo]
  | n + 1, m, i + 1, h => by
    have h' : i < (upTo n (m + 1)).length := by simpa [upTo] using h
    have := upTo_get n (m + 1) i h'
    simp only [upTo, List.getElem_cons_succ, this]; omega

theorem markInts_eq (l : List Int) (hl : l.length ≤ 1048576) (m : Int) (h0 : 0 ≤ m) (h1 : m ≤ 100000000) (k : Nat) (hk : l.length < k) : laws_markInt64S.f k l m = some (m + l.length, upTo l.length m) := by
  have key : ∀ (n i k : Nat) (s : List Int), i + n = l.length → n < k → s.length = l.length → s.take i = (upTo l.length m).take i →
      laws_markInt64S.l0 k s (m + i) (i : Int) = some (m + l.length, upTo l.length m) := by
    intro n
    induction n with
    | zero =>
      intro i k s hi hk hs ht
      obtain ⟨k, rfl⟩ : ∃ m, k = m + 1 := ⟨k - 1, by omega⟩
      obtain rfl : i = l.length := by omega
      simp only [laws_markInt64S.l0]
      have e : s = upTo l.length m := by
        rw [List.take_of_length_le (by omega), List.take_of_length_le (by rw [upTo_len]; omega)] at ht; exact ht
      rw [if_neg (by omega), e]
    | succ n ih =>
      intro i k s hi hk hs ht
      obtain ⟨k, rfl⟩ : ∃ m, k = m + 1 := ⟨k - 1, by omega⟩
      simp only [laws_markInt64S.l0]
      rw [if_pos (by omega), if_pos (by omega), w64 (x := m + i + 1) (by omega) (by omega), wnat (by omega)]
      have hh := ih (i + 1) k (s.set (i : Int).toNat (m + i)) (by omega) (by omega) (by rw [List.length_set]; exact hs) (by
        have hlt : i < (upTo l.length m).length := by rw [upTo_len]; omega
        rw [List.take_succ_eq_append_getElem (by rw [List.length_set]; omega), List.take_succ_eq_append_getElem hlt, List.take_set_of_le (by omega), ht, upTo_get _ _ _ hlt]
        simp)
      rw [show m + ((i + 1 : Nat) : Int) = m + i + 1 by omega] at hh
      exact hh
  have := key l.length 0 k l (by omega) hk rfl (by simp)
  unfold laws_markInt64S.f
  simpa using this

theorem heldInts_eq (n : Nat) (hn : n ≤ 1048576) (m : Int) (h0 : 0 ≤ m) (h1 : m ≤ 100000000) (k : Nat) (hk : n < k) : laws_heldInt64S.f k (upTo n m) m = some (m + n) := by
  have key : ∀ (d i k : Nat), i + d = n → d < k → laws_heldInt64S.l0 k (upTo n m) (m + i) (i : Int) = some (m + n) := by
    intro d
    induction d with
    | zero =>
      intro i k hi hk
      obtain ⟨k, rfl⟩ : ∃ m, k = m + 1 := ⟨k - 1, by omega⟩
      obtain rfl : i = n := by omega
      simp only [laws_heldInt64S.l0]
      rw [if_neg (by rw [upTo_len]; omega)]
    | succ d ih =>
      intro i k hi hk
      obtain ⟨k, rfl⟩ : ∃ m, k = m + 1 := ⟨k - 1, by omega⟩
      simp only [laws_heldInt64S.l0]
      have hlt : i < (upTo n m).length := by rw [upTo_len]; omega
      rw [if_pos (by omega), if_pos (by omega), rdi _ i hlt, upTo_get _ _ _ hlt, if_pos rfl, w64 (x := m + i + 1) (by omega) (by omega), wnat (by omega)]
      have hh := ih (i + 1) k (by omega) (by omega)
      rw [show m + ((i + 1 : Nat) : Int) = m + i + 1 by omega] at hh
      exact hh
  have := key n 0 k (by omega) hk
  unfold laws_heldInt64S.f
  simpa using this

theorem strOfNums_size (l : List Int) : (strOfNums l).size = l.length := by
  unfold strOfNums; simp [ByteArray.size]

theorem markText_loop : ∀ (n k : Nat) (x : Int) (s : ByteArray), 0 ≤ x → x ≤ 1000000000000 → x < 10 ^ n → s.size + n ≤ 1000 → n < k → ∃ t, laws_markText.l0 k x s = some t := by
  intro n
  induction n with
  | zero =>
    intro k x s h0 hb h1 hs hk
    obtain ⟨k, rfl⟩ : ∃ m, k = m + 1 := ⟨k - 1, by omega⟩
    have hx : ¬ x > 0 := by simp at h1; omega
    simp only [laws_markText.l0]
    rw [if_neg hx, if_pos (by omega)]; exact ⟨_, rfl⟩
  | succ n ih =>
    intro k x s h0 hb h1 hs hk
    obtain ⟨k, rfl⟩ : ∃ m, k = m + 1 := ⟨k - 1, by omega⟩
    simp only [laws_markText.l0]
    by_cases hx : x > 0
    · rw [if_pos hx]
      simp only [Option.bind_some]
      rw [if_pos (by rw [strOfNums_size]; simp; omega), Int.tdiv_eq_ediv_of_nonneg h0]
      have e : (10 : Int) ^ (n + 1) = 10 ^ n * 10 := Int.pow_succ 10 n
      rw [w64 (x := x / 10) (by omega) (by omega)]
      refine ih k (x / 10) _ (by omega) (by omega) (by omega) ?_ (by omega)
      rw [ByteArray.size_append, strOfNums_size]; simp; omega
    · rw [if_neg hx, if_pos (by omega)]; exact ⟨_, rfl⟩

theorem markText_eq (x : Int) (h0 : 0 ≤ x) (h1 : x ≤ 100000000) (k : Nat) (hk : 20 ≤ k) : ∃ t, laws_markText.f k x = some t := by
  unfold laws_markText.f
  by_cases h : x ≤ 0
  · rw [if_pos h]; exact ⟨_, rfl⟩
  · rw [if_neg h]
    exact markText_loop 12 k x _ h0 (by omega) (by omega) (by simp [ByteArray.size]) (by omega)

theorem markCoatS_eq (l : List S29) (hl : l.length ≤ 1048576) (k : Nat) (hk : l.length + 30 < k) : ∃ m l', laws_markCoatS.f k l 1 = some (m, l') ∧ 0 ≤ m := by
  have key : ∀ (n i k : Nat) (s : List S29), i + n = l.length → n + 25 < k → s.length = l.length → ∃ m l', laws_markCoatS.l0 k s (1 + 4 * i) (i : Int) = some (m, l') ∧ 0 ≤ m := by
    intro n
    induction n with
    | zero =>
      intro i k s hi hk hs
      obtain ⟨k, rfl⟩ : ∃ m, k = m + 1 := ⟨k - 1, by omega⟩
      simp only [laws_markCoatS.l0]
      rw [if_neg (by omega)]
      exact ⟨_, _, rfl, by omega⟩
    | succ n ih =>
      intro i k s hi hk hs
      obtain ⟨k, rfl⟩ : ∃ m, k = m + 1 := ⟨k - 1, by omega⟩
      simp only [laws_markCoatS.l0]
      obtain ⟨t, ht⟩ := markText_eq (1 + 4 * i) (by omega) (by omega) k (by omega)
      rw [if_pos (by omega), ht]
      simp only [Option.bind_some]
      rw [if_pos (by omega), w64 (x := 1 + 4 * (i : Int) + 1) (by omega) (by omega), w64 (x := 1 + 4 * (i : Int) + 1 + 1) (by omega) (by omega), w64 (x := 1 + 4 * (i : Int) + 1 + 1 + 1) (by omega) (by omega), w64 (x := 1 + 4 * (i : Int) + 1 + 1 + 1 + 1) (by omega) (by omega), wnat (by omega), show 1 + 4 * (i : Int) + 1 + 1 + 1 + 1 = 1 + 4 * ((i + 1 : Nat) : Int) by omega]
      exact ih (i + 1) k _ (by omega) (by omega) (by simp [hs])
  have := key l.length 0 k l (by omega) (by omega) rfl
  unfold laws_markCoatS.f
  simpa using this

theorem bt_byte (s : ByteArray) (i : Int) : 0 ≤ bt s i ∧ bt s i ≤ 255 := by
  unfold bt
  split
  · have := (s[i.toNat]'(by assumption)).toNat_lt; omega
  · omega

/-- a letter or a digit of a name -/
def nmC (c : Int) : Bool := decide (97 ≤ c ∧ c ≤ 122 ∨ 48 ≤ c ∧ c ≤ 57)

theorem nil_iff (s : ByteArray) : s.toList = [] ↔ s.size = 0 := by
  rw [ByteArray.toList_eq]
  constructor
  · intro h
    have : s.data.toList.length = 0 := by rw [h]; rfl
    rw [Array.length_toList] at this; exact this
  · intro h
    apply List.eq_nil_of_length_eq_zero
    rw [Array.length_toList]; exact h

theorem small_eq (c : Int) : spec_l01Small.f c = some (decide (97 ≤ c ∧ c ≤ 122)) := by
  unfold spec_l01Small.f
  by_cases h : c ≥ 97
  · rw [if_pos h]; simp [h]
  · rw [if_neg h]; simp; omega
theorem digit_eq (c : Int) : spec_l01Digit.f c = some (decide (48 ≤ c ∧ c ≤ 57)) := by
  unfold spec_l01Digit.f
  by_cases h : c ≥ 48
  · rw [if_pos h]; simp [h]
  · rw [if_neg h]; simp; omega

theorem name_loop (s : ByteArray) (hs : s.size ≤ 10) : ∀ (n i k : Nat), i + n = s.size → n < k →
    ∃ b, spec_l01Name.l0 k s (i : Int) = some b ∧ impl_IsName.l0 k s (i : Int) = some b := by
  intro n
  induction n with
  | zero =>
    intro i k hi hk
    obtain ⟨k, rfl⟩ : ∃ m, k = m + 1 := ⟨k - 1, by omega⟩
    simp only [spec_l01Name.l0, impl_IsName.l0]
    exact ⟨true, by rw [if_neg (by omega)], by rw [if_neg (by omega)]⟩
  | succ n ih =>
    intro i k hi hk
    obtain ⟨k, rfl⟩ : ∃ m, k = m + 1 := ⟨k - 1, by omega⟩
    obtain ⟨b, e1, e2⟩ := ih (i + 1) k (by omega) (by omega)
    have hw : wrap64 ((i : Int) + 1) = ((i + 1 : Nat) : Int) := wnat (by omega)
    have a1 : (i : Int) < (s.size : Int) := by omega
    have a2 : (0 : Int) ≤ (i : Int) := by omega
    simp only [spec_l01Name.l0, impl_IsName.l0, small_eq, digit_eq, Option.bind_some, decide_eq_true_eq, a1, a2, if_true, hw, e1, e2]
    generalize bt s (i : Int) = c
    by_cases h1 : c < 97
    · by_cases h2 : c < 48
      · exact ⟨false, by simp [h1, h2, show ¬ (97 ≤ c ∧ c ≤ 122) by omega, show ¬ (48 ≤ c ∧ c ≤ 57) by omega], by simp [h1, h2]⟩
      · by_cases h3 : c > 57
        · exact ⟨false, by simp [show ¬ (97 ≤ c ∧ c ≤ 122) by omega, show ¬ (48 ≤ c ∧ c ≤ 57) by omega], by simp [h1, h2, h3]⟩
        · exact ⟨b, by simp [show ¬ (97 ≤ c ∧ c ≤ 122) by omega, show (48 ≤ c ∧ c ≤ 57) by omega], by simp [h1, h2, h3]⟩
    · by_cases h4 : c > 122
      · exact ⟨false, by simp [show ¬ (97 ≤ c ∧ c ≤ 122) by omega, show ¬ (48 ≤ c ∧ c ≤ 57) by omega], by simp [h1, h4, show ¬ (c < 48) by omega, show c > 57 by omega]⟩
      · exact ⟨b, by simp [show (97 ≤ c ∧ c ≤ 122) by omega], by simp [h1, h4]⟩

theorem name_eq (s : ByteArray) : ∃ b : Bool, (∀ k, 13 ≤ k → spec_l01Name.f k s = some b ∧ impl_IsName.f k s = some b) := by
  have fin : ∃ b : Bool, spec_l01Name.f 13 s = some b ∧ impl_IsName.f 13 s = some b := by
    unfold spec_l01Name.f impl_IsName.f
    by_cases h0 : s.size = 0
    · exact ⟨false, by simp [(nil_iff s).2 h0, spec_l01Name.j0], by simp [show (s.size : Int) < 1 by omega, impl_IsName.j0]⟩
    · have n0 : ¬ s.toList = [] := fun h => h0 ((nil_iff s).1 h)
      have n1 : ¬ (s.size : Int) < 1 := by omega
      by_cases h1 : (s.size : Int) > 10
      · exact ⟨false, by simp [n0, h1, spec_l01Name.j0], by simp [n1, h1, impl_IsName.j0]⟩
      · have n2 : (0 : Int) < (s.size : Int) := by omega
        simp only [n0, n1, h1, n2, if_true, if_false, small_eq, Option.bind_some]
        obtain ⟨b, e1, e2⟩ := name_loop s (by omega) s.size 0 12 (by omega) (by omega)
        have e1' : spec_l01Name.l0 12 s 0 = some b := e1
        have e2' : impl_IsName.l0 12 s 0 = some b := e2
        generalize bt s 0 = c
        by_cases h2 : c < 97
        · exact ⟨false, by simp [spec_l01Name.j0, show ¬ (97 ≤ c ∧ c ≤ 122) by omega], by simp [impl_IsName.j0, h2]⟩
        · by_cases h3 : c > 122
          · exact ⟨false, by simp [spec_l01Name.j0, show ¬ (97 ≤ c ∧ c ≤ 122) by omega], by simp [impl_IsName.j0, h2, h3]⟩
          · exact ⟨b, by simp [spec_l01Name.j0, show (97 ≤ c ∧ c ≤ 122) by omega, e1'], by simp [impl_IsName.j0, h2, show ¬ (c > 122) by omega, e2']⟩
  obtain ⟨b, e1, e2⟩ := fin
  exact ⟨b, fun k hk => ⟨at_rounds (g := fun k => spec_l01Name.f k s) (fun k => spec_l01Name.mono s k) hk e1, at_rounds (g := fun k => impl_IsName.f k s) (fun k => impl_IsName.mono s k) hk e2⟩⟩

/-- of a coat both say the same; and what a coat is that is valid -/
theorem coat_eq (s : ByteArray) (x y z : Int) : ∃ b : Bool, (∀ k, 13 ≤ k → spec_l22One.f k [(⟨s, x, y, z⟩ : S29)] = some b ∧ impl_ValidCoat.f k s x y z = some b) ∧ (b = true → 1 ≤ x ∧ x ≤ 32 ∧ 0 ≤ y ∧ y ≤ 400 ∧ y ≤ z ∧ z ≤ 800) := by
  obtain ⟨b, hb⟩ := name_eq s
  have r : rd_T29 [(⟨s, x, y, z⟩ : S29)] 0 = ⟨s, x, y, z⟩ := rfl
  refine ⟨b && decide (1 ≤ x ∧ x ≤ 32) && decide (0 ≤ y ∧ y ≤ 400) && decide (y ≤ z ∧ z ≤ 800), fun k hk => ?_, ?_⟩
  · obtain ⟨e1, e2⟩ := hb k hk
    unfold spec_l22One.f impl_ValidCoat.f
    rw [if_pos (by simp), r]
    simp only [e1, e2, within_eq, l00In_eq, Option.bind_some]
    by_cases g1 : 1 ≤ x ∧ x ≤ 32 <;> by_cases g2 : 0 ≤ y ∧ y ≤ 400 <;> by_cases g3 : y ≤ z ∧ z ≤ 800 <;> cases b <;> simp [g1, g2, g3]
  · simp only [Bool.and_eq_true, decide_eq_true_eq]
    intro h; omega

def vc (x : S29) : Bool := impl_ValidCoat.f 13 x.f0 x.f1 x.f2 x.f3 == some true

theorem vc_spec (x : S29) : (∀ k, 13 ≤ k → spec_l22One.f k [x] = some (vc x) ∧ impl_ValidCoat.f k x.f0 x.f1 x.f2 x.f3 = some (vc x)) ∧ (vc x = true → 1 ≤ x.f1 ∧ x.f1 ≤ 32 ∧ 0 ≤ x.f2 ∧ x.f2 ≤ 400 ∧ x.f2 ≤ x.f3 ∧ x.f3 ≤ 800) := by
  obtain ⟨b, hb, hv⟩ := coat_eq x.f0 x.f1 x.f2 x.f3
  have e : vc x = b := by
    unfold vc
    rw [(hb 13 (Nat.le_refl _)).2]
    cases b <;> rfl
  rw [e]
  exact ⟨hb, hv⟩

def okC (l : List S29) : Bool := l.all vc && decide (l.length ≤ 8)

theorem specOkC (l : List S29) (hl : l.length ≤ 1048576) (k : Nat) (hk : l.length + 20 < k) : spec_l22Ok.f k l = some (okC l) := by
  unfold spec_l22Ok.f okC
  rw [all_loop l 13 vc false (decide (l.length ≤ 8)) (fun k i => spec_l22Ok.l0 k l i) ?_ ?_ k (by omega)]
  · cases l.all vc <;> simp
  · intro k i hi hk
    simp only [spec_l22Ok.l0]
    rw [if_pos (by omega), if_pos (by omega), rd29 l i hi, wnat (by omega), ((vc_spec l[i]).1 k hk).1]
    simp only [Option.bind_some]
  · intro k hk
    simp only [spec_l22Ok.l0]
    rw [if_neg (by omega)]
    simp; omega

theorem implOkC (l : List S29) (hl : l.length ≤ 1048576) (k : Nat) (hk : l.length + 20 < k) : impl_ValidCoats.f k l = some (okC l) := by
  unfold impl_ValidCoats.f okC
  by_cases h : (l.length : Int) ≤ 8
  · rw [if_pos h]
    unfold fi50_51.f fi62_51.f
    obtain ⟨r, h1, h2⟩ := idx_loop l 13 (fun x => !vc x) (fun k i => fi62_51.l0 k l (l.length : Int) i) (by
      intro k i hi hk
      simp only [fi62_51.l0]
      rw [if_pos (by omega), if_pos (by omega), if_pos (by omega), rd29 l i hi, wnat (by omega)]
      unfold impl_ValidCoats_1.f
      rw [((vc_spec l[i]).1 k hk).2]
      simp only [Option.bind_some]) (by
      intro k hk
      simp only [fi62_51.l0]
      rw [if_neg (by omega)]) k (by omega)
    rw [h1]
    simp only [Option.bind_some]
    rw [h2, any_not]
    simp; omega
  · rw [if_neg h]; simp; omega

theorem okC_mem {l : List S29} (h : okC l = true) (i : Nat) (hi : i < l.length) : 1 ≤ l[i].f1 ∧ l[i].f1 ≤ 32 ∧ 0 ≤ l[i].f2 ∧ l[i].f2 ≤ 400 ∧ l[i].f2 ≤ l[i].f3 ∧ l[i].f3 ≤ 800 := by
  unfold okC at h
  rw [Bool.and_eq_true, List.all_eq_true] at h
  exact (vc_spec l[i]).2 (h.1 _ (List.getElem_mem hi))

theorem okC_len {l : List S29} (h : okC l = true) : l.length ≤ 8 := by
  unfold okC at h
  rw [Bool.and_eq_true, decide_eq_true_eq] at h
  exact h.2

def canB (t o e w : Int) : Bool := decide (o ≤ t % 96 ∧ t % 96 + w ≤ e)

theorem can_eq {t o e w : Int} (ht : 0 ≤ t) (hw : 0 ≤ w ∧ w ≤ 1000) : spec_l22Can.f t o e w = some (canB t o e w) := by
  unfold spec_l22Can.f canB
  rw [Int.tmod_eq_emod_of_nonneg ht, w64 (x := t % 96 + w) (by omega) (by omega)]
  by_cases h : t % 96 ≥ o
  · rw [if_pos h]; simp [h]
  · rw [if_neg h]; simp; omega

theorem next_loop {o e w T : Int} (hw : 0 ≤ w ∧ w ≤ 1000) (hT : T ≤ 10000000) (hc : canB T o e w = true) : ∀ (n : Nat) (s : Int) (k : Nat), s + n = T → 0 ≤ s → n < k → (∀ x, s ≤ x → x < T → canB x o e w = false) →
    spec_l22Next.l0 k s o e w = some T := by
  intro n
  induction n with
  | zero =>
    intro s k hs h0 hk hn
    obtain ⟨k, rfl⟩ : ∃ m, k = m + 1 := ⟨k - 1, by omega⟩
    obtain rfl : s = T := by omega
    simp only [spec_l22Next.l0]
    rw [can_eq h0 hw, hc]; rfl
  | succ n ih =>
    intro s k hs h0 hk hn
    obtain ⟨k, rfl⟩ : ∃ m, k = m + 1 := ⟨k - 1, by omega⟩
    simp only [spec_l22Next.l0]
    rw [can_eq h0 hw, hn s (by omega) (by omega), w64 (by omega) (by omega)]
    exact ih (s + 1) k (by omega) (by omega) (by omega) (fun x h1 h2 => hn x (by omega) h2)

/-- the first time of at least t at which the work fits: what both find -/
def nxt (t o e w : Int) : Int := if t % 96 ≤ o then t / 96 * 96 + o else if t % 96 + w ≤ e then t else t / 96 * 96 + 96 + o

theorem next_spec {t o e w : Int} (h0 : 0 ≤ t) (h1 : t ≤ 9000000) (ho : 0 ≤ o) (he : e ≤ 96) (hw : 1 ≤ w ∧ w ≤ 32) (hoe : o + w ≤ e) (k : Nat) (hk : 300 ≤ k) :
    spec_l22Next.f k t o e w = some (nxt t o e w) ∧ impl_nextOpen.f t o e w = some (nxt t o e w) ∧ t ≤ nxt t o e w ∧ nxt t o e w ≤ t + 192 := by
  have hb : t ≤ nxt t o e w ∧ nxt t o e w ≤ t + 192 := by
    unfold nxt
    split
    · omega
    · split <;> omega
  refine ⟨?_, ?_, hb⟩
  · unfold spec_l22Next.f
    refine next_loop (by omega) (by omega) ?_ (nxt t o e w - t).toNat t k (by omega) h0 (by omega) ?_
    · unfold canB nxt
      rw [decide_eq_true_eq]
      split
      · omega
      · split <;> omega
    · intro x hx1 hx2
      unfold canB
      unfold nxt at hx2
      rw [decide_eq_false_iff_not]
      split at hx2
      · omega
      · split at hx2 <;> omega
  · unfold impl_nextOpen.f nxt
    rw [Int.tmod_eq_emod_of_nonneg h0, Int.tdiv_eq_ediv_of_nonneg h0]
    rw [w64 (x := t / 96) (by omega) (by omega), w64 (x := t / 96 * 96) (by omega) (by omega), w64 (x := t / 96 * 96 + o) (by omega) (by omega), w64 (x := t % 96 + w) (by omega) (by omega), w64 (x := t / 96 * 96 + 96) (by omega) (by omega), w64 (x := t / 96 * 96 + 96 + o) (by omega) (by omega)]
    split
    · rfl
    · split <;> rfl

theorem hours_eq {o e : Int} : impl_areHours.f o e = some (decide (0 ≤ o ∧ o < e ∧ e ≤ 96)) := by
  unfold impl_areHours.f
  by_cases h1 : 0 ≤ o
  · rw [if_pos h1]
    by_cases h2 : o < e
    · rw [if_pos h2]; simp [h1, h2]
    · rw [if_neg h2]; simp [h2]
  · rw [if_neg h1]; simp [h1]

theorem l22Hours_eq {o e : Int} : spec_l22Hours.f o e = some (decide (0 ≤ o ∧ o < e ∧ e ≤ 96)) := by
  unfold spec_l22Hours.f
  simp only [l00In_eq, Option.bind_some, decide_eq_true_eq]
  by_cases h : 0 ≤ o ∧ o ≤ 96
  · rw [if_pos h, w64 (by omega) (by omega)]
    congr 1
    rw [decide_eq_decide]; omega
  · rw [if_neg h]; simp; omega

theorem time_eq (t : Int) : spec_l22Time.f t = some (decide (0 ≤ t ∧ t ≤ 100000)) := by
  unfold spec_l22Time.f
  simp only [l00In_eq, Option.bind_some]

def lng (o e : Int) (x : S29) : Bool := decide (x.f1 > e - o)

theorem long_spec (l : List S29) (hl : l.length ≤ 1048576) (o e : Int) (h0 : 0 ≤ o) (h1 : o ≤ 100) (h2 : 0 ≤ e) (h3 : e ≤ 100) (k : Nat) (hk : l.length + 20 < k) : spec_l22Long.f k l o e = some (l.any (lng o e)) := by
  unfold spec_l22Long.f
  have := all_loop l 0 (fun x => !lng o e x) true false (fun k i => spec_l22Long.l0 k l o e i) (by
    intro k i hi _
    simp only [spec_l22Long.l0]
    rw [if_pos (by omega), if_pos (by omega), rd29 l i hi, w64 (x := e - o) (by omega) (by omega), wnat (by omega)]
    unfold lng
    by_cases g : l[i].f1 > e - o
    · simp [g]
    · simp [g]) (by
    intro k _
    simp only [spec_l22Long.l0]
    rw [if_neg (by omega)]) k (by omega)
  rw [this]
  have q : l.all (fun x => !lng o e x) = !l.any (lng o e) := by
    have := any_not l (fun x => !lng o e x)
    simp only [Bool.not_not] at this
    rw [show (fun x => lng o e x) = lng o e from rfl] at this
    rw [this]; simp
  rw [q]; cases l.any (lng o e) <;> simp

theorem long_impl (l : List S29) (hl : l.length ≤ 1048576) (o e : Int) (h0 : 0 ≤ o) (h1 : o ≤ 100) (h2 : 0 ≤ e) (h3 : e ≤ 100) (k : Nat) (hk : l.length + 20 < k) : fi50_64.f k l [e] [o] = some (l.any (lng o e)) := by
  unfold fi50_64.f fi62_64.f
  obtain ⟨r, h1, h2⟩ := idx_loop l 0 (lng o e) (fun k i => fi62_64.l0 k l (l.length : Int) i [e] [o]) (by
    intro k i hi _
    simp only [fi62_64.l0]
    rw [if_pos (by omega), if_pos (by omega), if_pos (by omega), rd29 l i hi, wnat (by omega)]
    unfold impl_coatsCode_1.f
    rw [if_pos (by simp), if_pos (by simp)]
    simp only [Option.bind_some]
    have r1 : rd [e] 0 = e := rfl
    have r2 : rd [o] 0 = o := rfl
    rw [r1, r2, w64 (x := e - o) (by omega) (by omega)]
    rfl) (by
    intro k _
    simp only [fi62_64.l0]
    rw [if_neg (by omega)]) k (by omega)
  rw [h1]
  simp only [Option.bind_some]
  rw [h2]

theorem plan_loops (l : List S29) (st o e : Int) (ho : okC l = true) (hs : 0 ≤ st ∧ st ≤ 100000) (hoe : 0 ≤ o ∧ o < e ∧ e ≤ 96) (hl : l.any (lng o e) = false) :
    ∀ (n i k : Nat) (s : List Int) (least latest : Int), i + n = l.length → n + 400 < k → s.length = i →
      ((i = 0 ∧ least = st ∧ latest = -1) ∨ (0 < i ∧ ∃ b : Int, 0 ≤ b ∧ b ≤ 100000 + 700 * i ∧ rd s ((i - 1 : Nat) : Int) = b ∧ least = b + (rd_T29 l ((i - 1 : Nat) : Int)).f1 + (rd_T29 l ((i - 1 : Nat) : Int)).f2 ∧ latest = b + (rd_T29 l ((i - 1 : Nat) : Int)).f1 + (rd_T29 l ((i - 1 : Nat) : Int)).f3)) →
      ∃ r, spec_EarlyPlan.l0 k l st o e s (i : Int) = some r ∧ impl_EarlyPlan.l0 k o e s least latest l (l.length : Int) (i : Int) = some r ∧ r.1.length ≤ 8 := by
  have hlen := okC_len ho
  intro n
  induction n with
  | zero =>
    intro i k s least latest hi hk hsl hc
    obtain ⟨k, rfl⟩ : ∃ m, k = m + 1 := ⟨k - 1, by omega⟩
    refine ⟨(s, 0), ?_, ?_, by show s.length ≤ 8; omega⟩
    · simp only [spec_EarlyPlan.l0]; rw [if_neg (by omega)]
    · simp only [impl_EarlyPlan.l0]; rw [if_neg (by omega)]
  | succ n ih =>
    intro i k s least latest hi hk hsl hc
    obtain ⟨k, rfl⟩ : ∃ m, k = m + 1 := ⟨k - 1, by omega⟩
    have hlt : i < l.length := by omega
    have hm := okC_mem ho i hlt
    have hw : l[i].f1 ≤ e - o := by
      have := List.any_eq_false.1 hl _ (List.getElem_mem hlt)
      unfold lng at this
      simp at this
      exact this
    have hcap : s.length < 17592186044416 := by omega
    have hnext : ∀ (b : Int), 0 ≤ b → b ≤ 100000 + 700 * ((i + 1 : Nat) : Int) → (s ++ [b]).length = i + 1 ∧ rd (s ++ [b]) ((i + 1 - 1 : Nat) : Int) = b := by
      intro b _ _
      refine ⟨by simp [hsl], ?_⟩
      rw [rdi _ _ (by simp; omega)]
      simp [hsl]
    have e1 : rd_T29 l ((i + 1 - 1 : Nat) : Int) = l[i] := by rw [show i + 1 - 1 = i by omega]; exact rd29 l i hlt
    have go : ∀ (t b lat : Int), 0 ≤ t → t ≤ 101000 + 700 * i → b = nxt t o e l[i].f1 → spec_l22Next.f k t o e l[i].f1 = some b → impl_nextOpen.f t o e l[i].f1 = some b → t ≤ b → b ≤ t + 192 → b ≤ 100000 + 700 * ((i + 1 : Nat) : Int) →
        ∃ r, spec_EarlyPlan.l0 k l st o e (s ++ [b]) ((i + 1 : Nat) : Int) = some r ∧ impl_EarlyPlan.l0 k o e (s ++ [b]) (b + l[i].f1 + l[i].f2) (b + l[i].f1 + l[i].f3) l (l.length : Int) ((i + 1 : Nat) : Int) = some r ∧ r.1.length ≤ 8 := by
      intro t b lat ht0 ht1 hb _ _ hb1 hb2 hb3
      obtain ⟨q1, q2⟩ := hnext b (by omega) hb3
      exact ih (i + 1) k (s ++ [b]) _ _ (by omega) (by omega) q1 (.inr ⟨by omega, b, by omega, hb3, q2, by rw [e1], by rw [e1]⟩)
    rcases hc with ⟨rfl, rfl, rfl⟩ | ⟨hi0, b, hb0, hb1, hb2, rfl, rfl⟩
    · obtain ⟨n1, n2, n3, n4⟩ := next_spec (t := least) (o := o) (e := e) (w := l[0].f1) (by omega) (by omega) hoe.1 hoe.2.2 (by omega) (by omega) k (by omega)
      obtain ⟨r, f1, f2, f3⟩ := go least _ 0 (by omega) (by omega) rfl n1 n2 n3 n4 (by omega)
      refine ⟨r, ?_, ?_, f3⟩
      · simp only [spec_EarlyPlan.l0]
        rw [if_pos (by omega), if_neg (by omega), if_pos (by omega), rd29 l 0 hlt, n1]
        simp only [Option.bind_some]
        rw [if_pos hcap, wnat (by omega)]
        exact f1
      · simp only [impl_EarlyPlan.l0]
        rw [if_pos (by omega), if_pos (by omega), if_pos (by omega), rd29 l 0 hlt, n2]
        simp only [Option.bind_some]
        rw [if_neg (by omega), if_pos hcap, w64 (x := nxt least o e l[0].f1 + l[0].f1) (by omega) (by omega), w64 (x := nxt least o e l[0].f1 + l[0].f1 + l[0].f2) (by omega) (by omega), w64 (x := nxt least o e l[0].f1 + l[0].f1 + l[0].f3) (by omega) (by omega), wnat (by omega)]
        exact f2
    · have hp := okC_mem ho (i - 1) (by omega)
      rw [rd29 l (i - 1) (by omega)] at *
      generalize hx : l[i - 1]'(by omega) = x at *
      obtain ⟨n1, n2, n3, n4⟩ := next_spec (t := b + x.f1 + x.f2) (o := o) (e := e) (w := l[i].f1) (by omega) (by omega) hoe.1 hoe.2.2 (by omega) (by omega) k (by omega)
      have hpre : wrap64 ((i : Int) - 1) = ((i - 1 : Nat) : Int) := by rw [w64 (by omega) (by omega)]; omega
      have rdx : rd_T29 l ((i - 1 : Nat) : Int) = x := by rw [rd29 l (i - 1) (by omega), hx]
      by_cases hlate : nxt (b + x.f1 + x.f2) o e l[i].f1 > b + x.f1 + x.f3
      · refine ⟨([], 6), ?_, ?_, by simp⟩
        · simp only [spec_EarlyPlan.l0]
          rw [if_pos (by omega), if_pos (by omega), hpre, if_pos (by omega), if_pos (by omega), if_pos (by omega), if_pos (by omega), hb2, rdx, rd29 l i hlt, w64 (x := b + x.f1) (by omega) (by omega), w64 (x := b + x.f1 + x.f2) (by omega) (by omega), w64 (x := b + x.f1 + x.f3) (by omega) (by omega), n1]
          simp only [Option.bind_some]
          rw [if_pos hlate]
        · simp only [impl_EarlyPlan.l0]
          rw [if_pos (by omega), if_pos (by omega), if_pos (by omega), rd29 l i hlt, n2]
          simp only [Option.bind_some]
          rw [if_pos (by omega), if_pos hlate]
      · obtain ⟨r, f1, f2, f3⟩ := go (b + x.f1 + x.f2) _ 0 (by omega) (by omega) rfl n1 n2 n3 n4 (by omega)
        refine ⟨r, ?_, ?_, f3⟩
        · simp only [spec_EarlyPlan.l0]
          rw [if_pos (by omega), if_pos (by omega), hpre, if_pos (by omega), if_pos (by omega), if_pos (by omega), if_pos (by omega), hb2, rdx, rd29 l i hlt, w64 (x := b + x.f1) (by omega) (by omega), w64 (x := b + x.f1 + x.f2) (by omega) (by omega), w64 (x := b + x.f1 + x.f3) (by omega) (by omega), n1]
          simp only [Option.bind_some]
          rw [if_neg hlate, if_pos hcap, wnat (by omega)]
          exact f1
        · simp only [impl_EarlyPlan.l0]
          rw [if_pos (by omega), if_pos (by omega), if_pos (by omega), rd29 l i hlt, n2]
          simp only [Option.bind_some]
          rw [if_pos (by omega), if_neg hlate, if_pos hcap, w64 (x := nxt (b + x.f1 + x.f2) o e l[i].f1 + l[i].f1) (by omega) (by omega), w64 (x := nxt (b + x.f1 + x.f2) o e l[i].f1 + l[i].f1 + l[i].f2) (by omega) (by omega), w64 (x := nxt (b + x.f1 + x.f2) o e l[i].f1 + l[i].f1 + l[i].f3) (by omega) (by omega), wnat (by omega)]
          exact f2

theorem plan_eq (l : List S29) (hl : l.length ≤ 1048576) (st o e : Int) (k : Nat) (hk : 1049100 ≤ k) : ∃ r, spec_EarlyPlan.f (k + 1) l st o e = some r ∧ impl_EarlyPlan.f (k + 1) l st o e = some r ∧ r.1.length ≤ 8 := by
  unfold spec_EarlyPlan.f impl_EarlyPlan.f spec_l22Ask.f impl_coatsCode.f
  rw [specOkC l hl (k + 1) (by omega), implOkC l hl (k + 1) (by omega)]
  simp only [Option.bind_some, within_eq, time_eq, l22Hours_eq, hours_eq]
  cases ho : okC l with
  | false => exact ⟨([], 1), by simp, by simp, by simp⟩
  | true =>
    by_cases g1 : 0 ≤ st ∧ st ≤ 100000
    · by_cases g2 : 0 ≤ o ∧ o < e ∧ e ≤ 96
      · simp only [g1, g2, and_self, decide_true, if_true, impl_coatsCode.j0, Bool.not_true, Bool.false_eq_true, if_false, Option.bind_some]
        rw [long_spec l hl o e (by omega) (by omega) (by omega) (by omega) (k + 1) (by omega), long_impl l hl o e (by omega) (by omega) (by omega) (by omega) k (by omega)]
        simp only [Option.bind_some]
        cases hlg : l.any (lng o e) with
        | true => exact ⟨([], 3), by simp, by simp, by simp⟩
        | false =>
          obtain ⟨r, f1, f2, f3⟩ := plan_loops l st o e ho g1 g2 hlg l.length 0 (k + 1) [] st (-1) (by omega) (by omega) rfl (.inl ⟨rfl, rfl, rfl⟩)
          exact ⟨r, by simpa using f1, by simpa using f2, f3⟩
      · refine ⟨([], 2), ?_, ?_, by simp⟩
        · simp [g1, g2]
        · simp [g1, g2, impl_coatsCode.j0]
    · refine ⟨([], 2), ?_, ?_, by simp⟩
      · simp [g1]
      · simp [g1, impl_coatsCode.j0]

theorem FnExactEarlyPlan : laws_FnExactEarlyPlan.Pure := by
  intro l st o e ⟨hl, hg⟩ _ _ _
  obtain ⟨k, hk⟩ : ∃ k : Nat, k = 1049200 := ⟨_, rfl⟩
  refine ⟨k + 1 + 1 + 1, ?_⟩
  unfold laws_FnExactEarlyPlan.f
  obtain ⟨v, e1, h⟩ := szCoatS_eq l 1048576 (by omega) (by omega) hl hg
  rw [e1 _ (by omega)]
  simp only [Option.bind_some]
  rcases h with h | ⟨h1, _, h2⟩
  · rw [if_pos h]
  have h2' : (l.map toCoat_).length ≤ 1048576 := by simpa using h2
  obtain ⟨r, p1, p2, p3⟩ := plan_eq (l.map toCoat_) h2' st o e (k + 1 + 1) (by omega)
  obtain ⟨r', p1', p2', _⟩ := plan_eq (l.map toCoat_) h2' st o e k (by omega)
  have hr : r' = r := by
    have := at_rounds (g := fun k => impl_EarlyPlan.f k (l.map toCoat_) st o e) (fun k => impl_EarlyPlan.mono _ _ _ _ k) (k := k + 1) (k' := k + 1 + 1 + 1) (by omega) p2'
    rw [p2] at this
    exact (Option.some.inj this).symm
  subst hr
  rw [if_neg (by omega), toCoatS_eq l h2 _ (by omega)]
  simp only [Option.bind_some]
  rw [p1]
  simp only [Option.bind_some]
  rw [p2]
  simp only [Option.bind_some]
  rw [eqInt64S_eq r'.1 (by omega) _ (by omega)]
  simp only [Option.bind_some, if_true, bne_self_eq_false]
  obtain ⟨m, l', hm, hm0⟩ := markCoatS_eq (l.map toCoat_) h2' (k + 1 + 1) (by simp; omega)
  simp only [laws_FnExactEarlyPlan.j0, Bool.false_eq_true, if_false]
  rw [toCoatS_eq l h2 _ (by omega)]
  simp only [Option.bind_some]
  rw [eqCoatS_eq (l.map toCoat_) h2' _ (by simp; omega)]
  simp only [Option.bind_some, if_true]
  rw [hm]
  simp only [Option.bind_some]
  rw [if_neg (by omega), eqInt64S_eq r'.1 (by omega) _ (by omega)]
  simp only [Option.bind_some, if_true, laws_FnExactEarlyPlan.j1, Bool.false_eq_true, if_false]
  rw [markInts_eq r'.1 (by omega) 1 (by omega) (by omega) (k + 1) (by omega)]
  simp only [Option.bind_some]
  rw [heldInts_eq r'.1.length (by omega) 1 (by omega) (by omega) (k + 1) (by omega)]
  simp only [Option.bind_some]
  rw [if_neg (show ¬ (1 + (r'.1.length : Int) < 0) by omega)]
  simp only [if_true]
  rw [toCoatS_eq l h2 _ (by omega)]
  simp only [Option.bind_some]
  rw [p2']
  simp only [Option.bind_some]
  rw [eqInt64S_eq r'.1 (by omega) _ (by omega)]
  simp only [Option.bind_some, if_true, bne_self_eq_false, laws_FnExactEarlyPlan.j2, Bool.false_eq_true, if_false]
  rw [heldInts_eq r'.1.length (by omega) 1 (by omega) (by omega) k (by omega)]
  simp only [Option.bind_some]
  rw [if_neg (show ¬ (1 + (r'.1.length : Int) < 0) by omega)]
  simp

end Go.Proofs.Ytjmjbmahljlnlaa.Pure

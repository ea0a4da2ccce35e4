/- FnExactPlanEnd: the program's PlanEnd returns what the reference's returns, for all arguments; no condition. -/
import Derived.Test.YtjmjbmahljlnlaaGFnExactPlanEndx
namespace Go.Proofs.Ytjmjbmahljlnlaa.Pure
open Go.RowKit Go.Proofs.Ytjmjbmahljlnlaa.GFnExactPlanEnd Go.Proofs.YtjmjbmahljlnlaaW.PrintWords Go.Proofs.YtjmjbmahljlnlaaW.PrintLast
set_option linter.unusedSimpArgs false
set_option linter.unusedVariables false

theorem w64 {x : Int} (h0 : -9223372036854775808 ≤ x) (h1 : x ≤ 9223372036854775807) : wrap64 x = x := by
  unfold wrap64; omega

theorem within_eq (a b c : Int) : impl_within.f a b c = some (decide (b ≤ a ∧ a ≤ c)) := by
  unfold impl_within.f
  by_cases h : a ≥ b
  · rw [if_pos h]; simp [h]
  · rw [if_neg h]; simp; omega

theorem l00In_eq (a b c : Int) : spec_l00In.f a b c = some (decide (b ≤ a ∧ a ≤ c)) := by
  unfold spec_l00In.f
  by_cases h : a ≥ b
  · rw [if_pos h]; simp [h]
  · rw [if_neg h]; simp; omega

/-- a loop over a list: from one state to the next, or out of it -/
def run {α σ β : Type} (st : σ → α → Nat → σ ⊕ β) (en : σ → β) : List α → σ → Nat → β
  | [], s, _ => en s
  | x :: xs, s, i => match st s x i with
    | .inl s' => run st en xs s' (i + 1)
    | .inr r => r

theorem loop_run {α σ β : Type} (xs : List α) (K0 : Nat) (Inv : σ → Nat → Prop) (L : Nat → σ → Int → Option β) (st : σ → α → Nat → σ ⊕ β) (en : σ → β)
    (hs : ∀ (k : Nat) (s : σ) (i : Nat) (h : i < xs.length), K0 ≤ k → Inv s i →
      (∃ s', st s xs[i] i = .inl s' ∧ Inv s' (i + 1) ∧ L (k + 1) s (i : Int) = L k s' ((i + 1 : Nat) : Int)) ∨ (∃ r, st s xs[i] i = .inr r ∧ L (k + 1) s (i : Int) = some r))
    (he : ∀ (k : Nat) (s : σ), K0 ≤ k → Inv s xs.length → L (k + 1) s (xs.length : Int) = some (en s)) :
    ∀ (n i k : Nat) (s : σ), i + n = xs.length → K0 + n < k → Inv s i → L k s (i : Int) = some (run st en (xs.drop i) s i) := by
  intro n
  induction n with
  | zero =>
    intro i k s hi hk hI
    obtain ⟨k, rfl⟩ : ∃ m, k = m + 1 := ⟨k - 1, by omega⟩
    obtain rfl : i = xs.length := by omega
    rw [he k s (by omega) hI, List.drop_length]; rfl
  | succ n ih =>
    intro i k s hi hk hI
    obtain ⟨k, rfl⟩ : ∃ m, k = m + 1 := ⟨k - 1, by omega⟩
    have hlt : i < xs.length := by omega
    rw [List.drop_eq_getElem_cons hlt]
    rcases hs k s i hlt (by omega) hI with ⟨s', h1, h2, h3⟩ | ⟨r, h1, h3⟩
    · rw [h3, ih (i + 1) k s' (by omega) (by omega) h2]
      simp only [run, h1]
    · rw [h3]
      simp only [run, h1]

theorem loop_run0 {α σ β : Type} (xs : List α) (K0 : Nat) (Inv : σ → Nat → Prop) (L : Nat → σ → Int → Option β) (st : σ → α → Nat → σ ⊕ β) (en : σ → β)
    (hs : ∀ (k : Nat) (s : σ) (i : Nat) (h : i < xs.length), K0 ≤ k → Inv s i →
      (∃ s', st s xs[i] i = .inl s' ∧ Inv s' (i + 1) ∧ L (k + 1) s (i : Int) = L k s' ((i + 1 : Nat) : Int)) ∨ (∃ r, st s xs[i] i = .inr r ∧ L (k + 1) s (i : Int) = some r))
    (he : ∀ (k : Nat) (s : σ), K0 ≤ k → Inv s xs.length → L (k + 1) s (xs.length : Int) = some (en s)) (k : Nat) (s : σ) (hk : K0 + xs.length < k) (hI : Inv s 0) :
    L k s 0 = some (run st en xs s 0) := by
  have := loop_run xs K0 Inv L st en hs he xs.length 0 k s (by omega) hk hI
  simpa using this

/-- a row that is made and then filled, element by element -/
theorem loop_map {α β : Type} (xs : List α) (z : β) (c : α → β) (L : Nat → List β → Int → Option (List β))
    (hs : ∀ (k : Nat) (s : List β) (i : Nat) (h : i < xs.length), s.length = xs.length → L (k + 1) s (i : Int) = L k (s.set i (c xs[i])) ((i + 1 : Nat) : Int))
    (he : ∀ (k : Nat) (s : List β), L (k + 1) s (xs.length : Int) = some s) (k : Nat) (hk : xs.length < k) :
    L k (List.replicate xs.length z) 0 = some (xs.map c) := by
  have key : ∀ (n i k : Nat) (s : List β), i + n = xs.length → n < k → s.length = xs.length → s.take i = (xs.map c).take i → L k s (i : Int) = some (xs.map c) := by
    intro n
    induction n with
    | zero =>
      intro i k s hi hk hl ht
      obtain ⟨k, rfl⟩ : ∃ m, k = m + 1 := ⟨k - 1, by omega⟩
      obtain rfl : i = xs.length := by omega
      have h1 : s.take xs.length = s := List.take_of_length_le (by omega)
      rw [he, ← h1, ht, List.take_of_length_le (by simp)]
    | succ n ih =>
      intro i k s hi hk hl ht
      obtain ⟨k, rfl⟩ : ∃ m, k = m + 1 := ⟨k - 1, by omega⟩
      have hlt : i < xs.length := by omega
      rw [hs k s i hlt hl]
      refine ih (i + 1) k _ (by omega) (by omega) (by rw [List.length_set]; exact hl) ?_
      rw [List.take_succ_eq_append_getElem (by rw [List.length_set]; omega), List.take_succ_eq_append_getElem (by rw [List.length_map]; omega), List.take_set_of_le (by omega), ht]
      simp
  have := key xs.length 0 k (List.replicate xs.length z) (by omega) hk (by simp) (by simp)
  simpa using this

theorem wnat {n : Nat} (h : n < 9223372036854775807) : wrap64 ((n : Int) + 1) = ((n + 1 : Nat) : Int) := by
  unfold wrap64; omega

theorem loop_all {β : Type} (n K0 : Nat) (L : Nat → Int → Option β) (r : β) (hs : ∀ (k i : Nat), K0 ≤ k → i < n → L (k + 1) (i : Int) = L k ((i + 1 : Nat) : Int)) (he : ∀ k : Nat, L (k + 1) (n : Int) = some r)
    (k : Nat) (hk : K0 + n < k) : L k 0 = some r := by
  have key : ∀ (m i k : Nat), i + m = n → K0 + m < k → L k (i : Int) = some r := by
    intro m
    induction m with
    | zero =>
      intro i k hi hk
      obtain ⟨k, rfl⟩ : ∃ m, k = m + 1 := ⟨k - 1, by omega⟩
      obtain rfl : i = n := by omega
      exact he k
    | succ m ih =>
      intro i k hi hk
      obtain ⟨k, rfl⟩ : ∃ m, k = m + 1 := ⟨k - 1, by omega⟩
      rw [hs k i (by omega) (by omega)]
      exact ih (i + 1) k (by omega) (by omega)
  simpa using key n 0 k (by omega) hk

theorem all_from {α β : Type} (xs : List α) (K0 : Nat) (p : α → Bool) (r0 r1 : β) (L : Nat → Int → Option β)
    (hs : ∀ (k i : Nat) (h : i < xs.length), K0 ≤ k → L (k + 1) (i : Int) = if p xs[i] = true then L k ((i + 1 : Nat) : Int) else some r0)
    (he : ∀ k : Nat, K0 ≤ k → L (k + 1) (xs.length : Int) = some r1) : ∀ (n i k : Nat), i + n = xs.length → K0 + n < k → L k (i : Int) = some (if (xs.drop i).all p = true then r1 else r0) := by
  intro n
  induction n with
  | zero =>
    intro i k hi hk
    obtain ⟨k, rfl⟩ : ∃ m, k = m + 1 := ⟨k - 1, by omega⟩
    obtain rfl : i = xs.length := by omega
    rw [he k (by omega), List.drop_length]; rfl
  | succ n ih =>
    intro i k hi hk
    obtain ⟨k, rfl⟩ : ∃ m, k = m + 1 := ⟨k - 1, by omega⟩
    have hlt : i < xs.length := by omega
    rw [hs k i hlt (by omega), List.drop_eq_getElem_cons hlt, List.all_cons]
    cases hp : p xs[i] with
    | true => rw [if_pos rfl, ih (i + 1) k (by omega) (by omega), Bool.true_and]
    | false => simp

theorem all_loop {α β : Type} (xs : List α) (K0 : Nat) (p : α → Bool) (r0 r1 : β) (L : Nat → Int → Option β)
    (hs : ∀ (k i : Nat) (h : i < xs.length), K0 ≤ k → L (k + 1) (i : Int) = if p xs[i] = true then L k ((i + 1 : Nat) : Int) else some r0)
    (he : ∀ k : Nat, K0 ≤ k → L (k + 1) (xs.length : Int) = some r1) (k : Nat) (hk : K0 + xs.length < k) : L k 0 = some (if xs.all p = true then r1 else r0) := by
  simpa using all_from xs K0 p r0 r1 L hs he xs.length 0 k (by omega) hk

theorem idx_from {α : Type} (xs : List α) (K0 : Nat) (q : α → Bool) (L : Nat → Int → Option Int)
    (hs : ∀ (k i : Nat) (h : i < xs.length), K0 ≤ k → L (k + 1) (i : Int) = if q xs[i] = true then some (i : Int) else L k ((i + 1 : Nat) : Int))
    (he : ∀ k : Nat, K0 ≤ k → L (k + 1) (xs.length : Int) = some (-1)) : ∀ (n i k : Nat), i + n = xs.length → K0 + n < k → ∃ r, L k (i : Int) = some r ∧ decide (r ≥ 0) = (xs.drop i).any q := by
  intro n
  induction n with
  | zero =>
    intro i k hi hk
    obtain ⟨k, rfl⟩ : ∃ m, k = m + 1 := ⟨k - 1, by omega⟩
    obtain rfl : i = xs.length := by omega
    exact ⟨-1, he k (by omega), by rw [List.drop_length]; rfl⟩
  | succ n ih =>
    intro i k hi hk
    obtain ⟨k, rfl⟩ : ∃ m, k = m + 1 := ⟨k - 1, by omega⟩
    have hlt : i < xs.length := by omega
    rw [hs k i hlt (by omega), List.drop_eq_getElem_cons hlt, List.any_cons]
    cases hp : q xs[i] with
    | true => exact ⟨i, by rw [if_pos rfl], by simp⟩
    | false =>
      obtain ⟨r, h1, h2⟩ := ih (i + 1) k (by omega) (by omega)
      exact ⟨r, by rw [if_neg (by simp)]; exact h1, by rw [h2]; simp⟩

theorem idx_loop {α : Type} (xs : List α) (K0 : Nat) (q : α → Bool) (L : Nat → Int → Option Int)
    (hs : ∀ (k i : Nat) (h : i < xs.length), K0 ≤ k → L (k + 1) (i : Int) = if q xs[i] = true then some (i : Int) else L k ((i + 1 : Nat) : Int))
    (he : ∀ k : Nat, K0 ≤ k → L (k + 1) (xs.length : Int) = some (-1)) (k : Nat) (hk : K0 + xs.length < k) : ∃ r, L k 0 = some r ∧ decide (r ≥ 0) = xs.any q := by
  simpa using idx_from xs K0 q L hs he xs.length 0 k (by omega) hk

theorem any_not {α : Type} (l : List α) (p : α → Bool) : l.any (fun x => !p x) = !l.all p := by
  induction l with
  | nil => rfl
  | cons x l ih => rw [List.any_cons, List.all_cons, ih]; cases p x <;> simp

theorem rd26 (xs : List S26) (i : Nat) (h : i < xs.length) : rd_T26 xs (i : Int) = xs[i] := by
  unfold rd_T26; simp [List.getD, h]
theorem rd29 (xs : List S29) (i : Nat) (h : i < xs.length) : rd_T29 xs (i : Int) = xs[i] := by
  unfold rd_T29; simp [List.getD, h]

def toCoat_ (x : S26) : S29 := ⟨x.f0, x.f1, x.f2, x.f3⟩

theorem toCoatS_eq (l : List S26) (hl : l.length ≤ 1048576) (k : Nat) (hk : l.length < k) : laws_toCoatS.f k l = some (l.map toCoat_) := by
  unfold laws_toCoatS.f
  rw [if_pos (by omega), if_pos (by omega), show ((l.length : Int)).toNat = l.length by omega]
  refine loop_map l z29 toCoat_ (fun k s i => laws_toCoatS.l0 k l s i) ?_ ?_ k hk
  · intro k s i h hs
    simp only [laws_toCoatS.l0]
    rw [if_pos (by omega), if_pos (by omega), rd26 l i h]
    unfold laws_toCoat.f
    simp only [Option.bind_some]
    rw [if_pos (by omega), wnat (by omega)]
    rfl
  · intro k s
    simp only [laws_toCoatS.l0]
    rw [if_neg (by omega)]

theorem eqCoatS_eq (l : List S29) (hl : l.length ≤ 1048576) (k : Nat) (hk : l.length < k) : laws_eqCoatS.f k l l = some true := by
  unfold laws_eqCoatS.f
  rw [if_pos rfl]
  refine loop_all l.length 0 (fun k i => laws_eqCoatS.l0 k l l i) true ?_ ?_ k (by omega)
  · intro k i _ h
    simp only [laws_eqCoatS.l0]
    rw [if_pos (by omega), if_pos (by omega), if_pos (by omega)]
    unfold laws_eqCoat.f
    simp only [if_true, Option.bind_some]
    rw [wnat (by omega)]
  · intro k
    simp only [laws_eqCoatS.l0]
    rw [if_neg (by omega)]

theorem szCoat_eq (s : ByteArray) (x y z : Int) (a : Int) (ha : 0 ≤ a) (ha2 : a ≤ 1048576) (hs : s.size ≤ maxLen) : laws_szCoat.f s x y z a = some (if a < s.size then -1 else a - s.size) := by
  unfold maxLen at hs
  unfold laws_szCoat.f
  rw [w64 (x := a - s.size) (by omega) (by omega)]
  by_cases h : a < s.size
  · rw [if_pos (by omega), if_pos h]
  · rw [if_neg (by omega), if_neg h]

def szStCoat (a : Int) (x : S26) (_ : Nat) : Int ⊕ Int := if a < x.f0.size then .inr (-1) else .inl (a - x.f0.size)

theorem run_szCoat : ∀ (l : List S26) (a : Int) (i : Nat), 0 ≤ a → run szStCoat (fun v => v) l a i < 0 ∨ 0 ≤ run szStCoat (fun v => v) l a i ∧ run szStCoat (fun v => v) l a i ≤ a
  | [], a, i, h => .inr ⟨h, Int.le_refl _⟩
  | x :: l, a, i, h => by
    simp only [run, szStCoat]
    by_cases g : a < x.f0.size
    · simp only [if_pos g]; exact .inl (by decide)
    · simp only [if_neg g]
      rcases run_szCoat l (a - x.f0.size) (i + 1) (by omega) with h | h
      · exact .inl h
      · refine .inr ⟨h.1, ?_⟩
        have := h.2
        show run szStCoat (fun v => v) l (a - x.f0.size) (i + 1) ≤ a
        omega

theorem szCoatS_eq (l : List S26) (a : Int) (ha : 0 ≤ a) (ha2 : a ≤ 1048576) (hl : l.length ≤ maxLen) (hg : ∀ y ∈ l, G26 y) :
    ∃ v, (∀ k, 1048577 < k → laws_szCoatS.f k l a = some v) ∧ (v < 0 ∨ 0 ≤ v ∧ v ≤ a ∧ l.length ≤ 1048576) := by
  unfold maxLen at hl
  by_cases h : a - l.length < 0
  · refine ⟨-1, fun k _ => ?_, .inl (by decide)⟩
    unfold laws_szCoatS.f
    rw [w64 (x := a - l.length) (by omega) (by omega), if_pos h]
  · refine ⟨run szStCoat (fun v => v) l (a - l.length) 0, fun k hk => ?_, ?_⟩
    · unfold laws_szCoatS.f
      rw [w64 (x := a - l.length) (by omega) (by omega), if_neg h]
      refine loop_run0 l 0 (fun v _ => 0 ≤ v ∧ v ≤ 1048576) (fun k s i => laws_szCoatS.l0 k l s i) szStCoat (fun v => v) ?_ ?_ k _ (by omega) ⟨by omega, by omega⟩
      · intro k s i hi _ ⟨s0, s1⟩
        simp only [laws_szCoatS.l0]
        rw [if_pos (by omega), if_pos (by omega), rd26 l i hi, szCoat_eq _ _ _ _ _ s0 s1 (hg _ (List.getElem_mem hi)).1]
        simp only [Option.bind_some]
        unfold szStCoat
        by_cases g : s < l[i].f0.size
        · simp only [if_pos g]; exact .inr ⟨-1, rfl, if_pos (by decide)⟩
        · simp only [if_neg g]
          exact .inl ⟨_, rfl, ⟨by omega, by omega⟩, by rw [if_neg (by omega), wnat (by omega)]⟩
      · intro k s _ _
        simp only [laws_szCoatS.l0]
        rw [if_neg (by omega)]
    · rcases run_szCoat l (a - l.length) 0 (by omega) with h | h
      · exact .inl h
      · exact .inr ⟨h.1, by omega, by omega⟩

theorem rdi (xs : List Int) (i : Nat) (h : i < xs.length) : rd xs (i : Int) = xs[i] := by
  unfold rd; simp [List.getD, h]

theorem eqInt64S_eq (l : List Int) (hl : l.length ≤ 1048576) (k : Nat) (hk : l.length < k) : laws_eqInt64S.f k l l = some true := by
  unfold laws_eqInt64S.f
  rw [if_pos rfl]
  refine loop_all l.length 0 (fun k i => laws_eqInt64S.l0 k l l i) true ?_ ?_ k (by omega)
  · intro k i _ h
    simp only [laws_eqInt64S.l0]
    rw [if_pos (by omega), if_pos (by omega), if_pos (by omega), wnat (by omega)]; simp
  · intro k
    simp only [laws_eqInt64S.l0]
    rw [if_neg (by omega)]

theorem toInt64S_eq (l : List Int) (hl : l.length ≤ 1048576) (k : Nat) (hk : l.length < k) : laws_toInt64S.f k l = some l := by
  unfold laws_toInt64S.f
  rw [if_pos (by omega), if_pos (by omega), show ((l.length : Int)).toNat = l.length by omega]
  have := loop_map l (0 : Int) (fun x => x) (fun k s i => laws_toInt64S.l0 k l s i) (by
    intro k s i h hs
    simp only [laws_toInt64S.l0]
    rw [if_pos (by omega), if_pos (by omega), if_pos (by omega), rdi l i h, wnat (by omega)]
    rfl) (by
    intro k s
    simp only [laws_toInt64S.l0]
    rw [if_neg (by omega)]) k hk
  simpa using this

theorem bt_byte (s : ByteArray) (i : Int) : 0 ≤ bt s i ∧ bt s i ≤ 255 := by
  unfold bt
  split
  · have := (s[i.toNat]'(by assumption)).toNat_lt; omega
  · omega

/-- a letter or a digit of a name -/
def nmC (c : Int) : Bool := decide (97 ≤ c ∧ c ≤ 122 ∨ 48 ≤ c ∧ c ≤ 57)

theorem nil_iff (s : ByteArray) : s.toList = [] ↔ s.size = 0 := by
  rw [ByteArray.toList_eq]
  constructor
  · intro h
    have : s.data.toList.length = 0 := by rw [h]; rfl
    rw [Array.length_toList] at this; exact this
  · intro h
    apply List.eq_nil_of_length_eq_zero
    rw [Array.length_toList]; exact h

theorem small_eq (c : Int) : spec_l01Small.f c = some (decide (97 ≤ c ∧ c ≤ 122)) := by
  unfold spec_l01Small.f
  by_cases h : c ≥ 97
  · rw [if_pos h]; simp [h]
  · rw [if_neg h]; simp; omega
theorem digit_eq (c : Int) : spec_l01Digit.f c = some (decide (48 ≤ c ∧ c ≤ 57)) := by
  unfold spec_l01Digit.f
  by_cases h : c ≥ 48
  · rw [if_pos h]; simp [h]
  · rw [if_neg h]; simp; omega

theorem name_loop (s : ByteArray) (hs : s.size ≤ 10) : ∀ (n i k : Nat), i + n = s.size → n < k →
    ∃ b, spec_l01Name.l0 k s (i : Int) = some b ∧ impl_IsName.l0 k s (i : Int) = some b := by
  intro n
  induction n with
  | zero =>
    intro i k hi hk
    obtain ⟨k, rfl⟩ : ∃ m, k = m + 1 := ⟨k - 1, by omega⟩
    simp only [spec_l01Name.l0, impl_IsName.l0]
    exact ⟨true, by rw [if_neg (by omega)], by rw [if_neg (by omega)]⟩
  | succ n ih =>
    intro i k hi hk
    obtain ⟨k, rfl⟩ : ∃ m, k = m + 1 := ⟨k - 1, by omega⟩
    obtain ⟨b, e1, e2⟩ := ih (i + 1) k (by omega) (by omega)
    have hw : wrap64 ((i : Int) + 1) = ((i + 1 : Nat) : Int) := wnat (by omega)
    have a1 : (i : Int) < (s.size : Int) := by omega
    have a2 : (0 : Int) ≤ (i : Int) := by omega
    simp only [spec_l01Name.l0, impl_IsName.l0, small_eq, digit_eq, Option.bind_some, decide_eq_true_eq, a1, a2, if_true, hw, e1, e2]
    generalize bt s (i : Int) = c
    by_cases h1 : c < 97
    · by_cases h2 : c < 48
      · exact ⟨false, by simp [h1, h2, show ¬ (97 ≤ c ∧ c ≤ 122) by omega, show ¬ (48 ≤ c ∧ c ≤ 57) by omega], by simp [h1, h2]⟩
      · by_cases h3 : c > 57
        · exact ⟨false, by simp [show ¬ (97 ≤ c ∧ c ≤ 122) by omega, show ¬ (48 ≤ c ∧ c ≤ 57) by omega], by simp [h1, h2, h3]⟩
        · exact ⟨b, by simp [show ¬ (97 ≤ c ∧ c ≤ 122) by omega, show (48 ≤ c ∧ c ≤ 57) by omega], by simp [h1, h2, h3]⟩
    · by_cases h4 : c > 122
      · exact ⟨false, by simp [show ¬ (97 ≤ c ∧ c ≤ 122) by omega, show ¬ (48 ≤ c ∧ c ≤ 57) by omega], by simp [h1, h4, show ¬ (c < 48) by omega, show c > 57 by omega]⟩
      · exact ⟨b, by simp [show (97 ≤ c ∧ c ≤ 122) by omega], by simp [h1, h4]⟩

theorem name_eq (s : ByteArray) : ∃ b : Bool, (∀ k, 13 ≤ k → spec_l01Name.f k s = some b ∧ impl_IsName.f k s = some b) := by
  have fin : ∃ b : Bool, spec_l01Name.f 13 s = some b ∧ impl_IsName.f 13 s = some b := by
    unfold spec_l01Name.f impl_IsName.f
    by_cases h0 : s.size = 0
    · exact ⟨false, by simp [(nil_iff s).2 h0, spec_l01Name.j0], by simp [show (s.size : Int) < 1 by omega, impl_IsName.j0]⟩
    · have n0 : ¬ s.toList = [] := fun h => h0 ((nil_iff s).1 h)
      have n1 : ¬ (s.size : Int) < 1 := by omega
      by_cases h1 : (s.size : Int) > 10
      · exact ⟨false, by simp [n0, h1, spec_l01Name.j0], by simp [n1, h1, impl_IsName.j0]⟩
      · have n2 : (0 : Int) < (s.size : Int) := by omega
        simp only [n0, n1, h1, n2, if_true, if_false, small_eq, Option.bind_some]
        obtain ⟨b, e1, e2⟩ := name_loop s (by omega) s.size 0 12 (by omega) (by omega)
        have e1' : spec_l01Name.l0 12 s 0 = some b := e1
        have e2' : impl_IsName.l0 12 s 0 = some b := e2
        generalize bt s 0 = c
        by_cases h2 : c < 97
        · exact ⟨false, by simp [spec_l01Name.j0, show ¬ (97 ≤ c ∧ c ≤ 122) by omega], by simp [impl_IsName.j0, h2]⟩
        · by_cases h3 : c > 122
          · exact ⟨false, by simp [spec_l01Name.j0, show ¬ (97 ≤ c ∧ c ≤ 122) by omega], by simp [impl_IsName.j0, h2, h3]⟩
          · exact ⟨b, by simp [spec_l01Name.j0, show (97 ≤ c ∧ c ≤ 122) by omega, e1'], by simp [impl_IsName.j0, h2, show ¬ (c > 122) by omega, e2']⟩
  obtain ⟨b, e1, e2⟩ := fin
  exact ⟨b, fun k hk => ⟨at_rounds (g := fun k => spec_l01Name.f k s) (fun k => spec_l01Name.mono s k) hk e1, at_rounds (g := fun k => impl_IsName.f k s) (fun k => impl_IsName.mono s k) hk e2⟩⟩

/-- of a coat both say the same; and what a coat is that is valid -/
theorem coat_eq (s : ByteArray) (x y z : Int) : ∃ b : Bool, (∀ k, 13 ≤ k → spec_l22One.f k [(⟨s, x, y, z⟩ : S29)] = some b ∧ impl_ValidCoat.f k s x y z = some b) ∧ (b = true → 1 ≤ x ∧ x ≤ 32 ∧ 0 ≤ y ∧ y ≤ 400 ∧ y ≤ z ∧ z ≤ 800) := by
  obtain ⟨b, hb⟩ := name_eq s
  have r : rd_T29 [(⟨s, x, y, z⟩ : S29)] 0 = ⟨s, x, y, z⟩ := rfl
  refine ⟨b && decide (1 ≤ x ∧ x ≤ 32) && decide (0 ≤ y ∧ y ≤ 400) && decide (y ≤ z ∧ z ≤ 800), fun k hk => ?_, ?_⟩
  · obtain ⟨e1, e2⟩ := hb k hk
    unfold spec_l22One.f impl_ValidCoat.f
    rw [if_pos (by simp), r]
    simp only [e1, e2, within_eq, l00In_eq, Option.bind_some]
    by_cases g1 : 1 ≤ x ∧ x ≤ 32 <;> by_cases g2 : 0 ≤ y ∧ y ≤ 400 <;> by_cases g3 : y ≤ z ∧ z ≤ 800 <;> cases b <;> simp [g1, g2, g3]
  · simp only [Bool.and_eq_true, decide_eq_true_eq]
    intro h; omega

def vc (x : S29) : Bool := impl_ValidCoat.f 13 x.f0 x.f1 x.f2 x.f3 == some true

theorem vc_spec (x : S29) : (∀ k, 13 ≤ k → spec_l22One.f k [x] = some (vc x) ∧ impl_ValidCoat.f k x.f0 x.f1 x.f2 x.f3 = some (vc x)) ∧ (vc x = true → 1 ≤ x.f1 ∧ x.f1 ≤ 32 ∧ 0 ≤ x.f2 ∧ x.f2 ≤ 400 ∧ x.f2 ≤ x.f3 ∧ x.f3 ≤ 800) := by
  obtain ⟨b, hb, hv⟩ := coat_eq x.f0 x.f1 x.f2 x.f3
  have e : vc x = b := by
    unfold vc
    rw [(hb 13 (Nat.le_refl _)).2]
    cases b <;> rfl
  rw [e]
  exact ⟨hb, hv⟩

def okC (l : List S29) : Bool := l.all vc && decide (l.length ≤ 8)

theorem specOkC (l : List S29) (hl : l.length ≤ 1048576) (k : Nat) (hk : l.length + 20 < k) : spec_l22Ok.f k l = some (okC l) := by
  unfold spec_l22Ok.f okC
  rw [all_loop l 13 vc false (decide (l.length ≤ 8)) (fun k i => spec_l22Ok.l0 k l i) ?_ ?_ k (by omega)]
  · cases l.all vc <;> simp
  · intro k i hi hk
    simp only [spec_l22Ok.l0]
    rw [if_pos (by omega), if_pos (by omega), rd29 l i hi, wnat (by omega), ((vc_spec l[i]).1 k hk).1]
    simp only [Option.bind_some]
  · intro k hk
    simp only [spec_l22Ok.l0]
    rw [if_neg (by omega)]
    simp; omega

theorem implOkC (l : List S29) (hl : l.length ≤ 1048576) (k : Nat) (hk : l.length + 20 < k) : impl_ValidCoats.f k l = some (okC l) := by
  unfold impl_ValidCoats.f okC
  by_cases h : (l.length : Int) ≤ 8
  · rw [if_pos h]
    unfold fi50_51.f fi62_51.f
    obtain ⟨r, h1, h2⟩ := idx_loop l 13 (fun x => !vc x) (fun k i => fi62_51.l0 k l (l.length : Int) i) (by
      intro k i hi hk
      simp only [fi62_51.l0]
      rw [if_pos (by omega), if_pos (by omega), if_pos (by omega), rd29 l i hi, wnat (by omega)]
      unfold impl_ValidCoats_1.f
      rw [((vc_spec l[i]).1 k hk).2]
      simp only [Option.bind_some]) (by
      intro k hk
      simp only [fi62_51.l0]
      rw [if_neg (by omega)]) k (by omega)
    rw [h1]
    simp only [Option.bind_some]
    rw [h2, any_not]
    simp; omega
  · rw [if_neg h]; simp; omega

theorem okC_mem {l : List S29} (h : okC l = true) (i : Nat) (hi : i < l.length) : 1 ≤ l[i].f1 ∧ l[i].f1 ≤ 32 ∧ 0 ≤ l[i].f2 ∧ l[i].f2 ≤ 400 ∧ l[i].f2 ≤ l[i].f3 ∧ l[i].f3 ≤ 800 := by
  unfold okC at h
  rw [Bool.and_eq_true, List.all_eq_true] at h
  exact (vc_spec l[i]).2 (h.1 _ (List.getElem_mem hi))

theorem okC_len {l : List S29} (h : okC l = true) : l.length ≤ 8 := by
  unfold okC at h
  rw [Bool.and_eq_true, decide_eq_true_eq] at h
  exact h.2

theorem time_eq (t : Int) : spec_l22Time.f t = some (decide (0 ≤ t ∧ t ≤ 100000)) := by
  unfold spec_l22Time.f
  simp only [l00In_eq, Option.bind_some]

def tm (t : Int) : Bool := decide (0 ≤ t ∧ t ≤ 100000)

def endOf (l : List S29) (b : List Int) : Int × Int := if h : l.length = 0 then (0, 0) else if h2 : b.length = l.length then (b[l.length - 1]'(by omega) + (l[l.length - 1]'(by omega)).f1, 0) else (0, 0)

theorem last_eq (l : List S29) (b : List Int) (ho : okC l = true) (hb : b.length = l.length) (hall : b.all tm = true) :
    (if (l.length : Int) = 0 then (some ((0 : Int), (0 : Int))) else (if 0 ≤ (wrap64 ((l.length : Int) - 1)) then (if (wrap64 ((l.length : Int) - 1)) < (b.length : Int) then (if (wrap64 ((l.length : Int) - 1)) < (l.length : Int) then (some (wrap64 ((rd b (wrap64 ((l.length : Int) - 1))) + ((rd_T29 l (wrap64 ((l.length : Int) - 1))).f1)), 0)) else (none)) else (none)) else (none))) = some (endOf l b) := by
  have hlen := okC_len ho
  unfold endOf
  by_cases h0 : l.length = 0
  · rw [if_pos (by omega), dif_pos h0]
  · rw [if_neg (by omega), dif_neg h0, dif_pos hb, w64 (x := (l.length : Int) - 1) (by omega) (by omega), if_pos (by omega), if_pos (by omega), if_pos (by omega)]
    have e : ((l.length : Int) - 1) = ((l.length - 1 : Nat) : Int) := by omega
    rw [e, rdi b _ (by omega), rd29 l _ (by omega)]
    have hm := okC_mem ho (l.length - 1) (by omega)
    have ht : tm (b[l.length - 1]'(by omega)) = true := List.all_eq_true.1 hall _ (List.getElem_mem _)
    unfold tm at ht
    rw [decide_eq_true_eq] at ht
    rw [w64 (by omega) (by omega)]

theorem planEnd_eq (l : List S29) (b : List Int) (hl : l.length ≤ 1048576) (hb : b.length ≤ 1048576) (k : Nat) (hk : 1048600 ≤ k) : ∃ r, spec_PlanEnd.f (k + 1) l b = some r ∧ impl_PlanEnd.f (k + 1) l b = some r := by
  unfold spec_PlanEnd.f impl_PlanEnd.f
  rw [specOkC l hl (k + 1) (by omega), implOkC l hl (k + 1) (by omega)]
  simp only [Option.bind_some]
  cases ho : okC l with
  | false => exact ⟨(0, 1), by simp, by simp⟩
  | true =>
    simp only [if_true]
    by_cases hlb : b.length = l.length
    · rw [if_pos (by omega), if_pos (by omega)]
      refine ⟨if b.all tm = true then endOf l b else (0, 2), ?_, ?_⟩
      · cases hall : b.all tm with
        | true =>
          have := all_loop b 0 tm ((0 : Int), (2 : Int)) (endOf l b) (fun k i => spec_PlanEnd.l0 k l b i) (by
            intro k i hi _
            simp only [spec_PlanEnd.l0]
            rw [if_pos (by omega), if_pos (by omega), rdi b i hi, time_eq, wnat (by omega)]
            simp only [Option.bind_some]
            rfl) (by
            intro k _
            simp only [spec_PlanEnd.l0]
            rw [if_neg (by omega), last_eq l b ho hlb hall]) (k + 1) (by omega)
          rw [this, hall]
        | false =>
          have hl0 : ∃ w, ∀ k : Nat, spec_PlanEnd.l0 (k + 1) l b (b.length : Int) = some w := by
            refine ⟨(wrap64 ((rd b (wrap64 ((l.length : Int) - 1))) + ((rd_T29 l (wrap64 ((l.length : Int) - 1))).f1)), 0), fun k => ?_⟩
            simp only [spec_PlanEnd.l0]
            have h0 : ¬ l.length = 0 := by
              intro h0
              obtain rfl : b = [] := List.eq_nil_of_length_eq_zero (by omega)
              simp at hall
            have e : wrap64 ((l.length : Int) - 1) = (l.length : Int) - 1 := w64 (by omega) (by omega)
            rw [if_neg (by omega), if_neg (by omega), if_pos (by omega), if_pos (by omega), if_pos (by omega)]
          obtain ⟨w, hw⟩ := hl0
          have := all_loop b 0 tm ((0 : Int), (2 : Int)) w (fun k i => spec_PlanEnd.l0 k l b i) (by
            intro k i hi _
            simp only [spec_PlanEnd.l0]
            rw [if_pos (by omega), if_pos (by omega), rdi b i hi, time_eq, wnat (by omega)]
            simp only [Option.bind_some]
            rfl) (fun k _ => hw k) (k + 1) (by omega)
          rw [this, hall]; simp
      · unfold fi53_54.f fi63_54.f
        obtain ⟨r, h1, h2⟩ := idx_loop b 0 (fun x => !tm x) (fun k i => fi63_54.l0 k b (b.length : Int) i) (by
          intro k i hi _
          simp only [fi63_54.l0]
          rw [if_pos (by omega), if_pos (by omega), if_pos (by omega), rdi b i hi, wnat (by omega)]
          unfold impl_PlanEnd_1.f
          rw [within_eq]
          simp only [Option.bind_some]
          rfl) (by
          intro k _
          simp only [fi63_54.l0]
          rw [if_neg (by omega)]) (k + 1) (by omega)
        rw [h1]
        simp only [Option.bind_some]
        rw [h2, any_not]
        cases hall : b.all tm with
        | false => simp [impl_PlanEnd.j0]
        | true =>
          simp only [Bool.not_true, impl_PlanEnd.j0, Bool.false_eq_true, if_false, if_true]
          exact last_eq l b ho hlb hall
    · rw [if_neg (by omega), if_neg (by omega)]
      exact ⟨(0, 2), rfl, by simp [impl_PlanEnd.j0]⟩

theorem FnExactPlanEnd : laws_FnExactPlanEnd.Pure := by
  intro l b ⟨hl, hg⟩ ⟨hb, _⟩
  obtain ⟨k, hk⟩ : ∃ k : Nat, k = 1048600 := ⟨_, rfl⟩
  refine ⟨k + 1, ?_⟩
  unfold laws_FnExactPlanEnd.f
  by_cases hb2 : (b.length : Int) > 1048576
  · rw [if_pos hb2]
  rw [if_neg hb2]
  obtain ⟨v, e, h⟩ := szCoatS_eq l 1048576 (by omega) (by omega) hl hg
  rw [e (k + 1) (by omega)]
  simp only [Option.bind_some]
  rcases h with h | ⟨h1, _, h2⟩
  · rw [if_pos h]
  rw [if_neg (by omega), toCoatS_eq l h2 (k + 1) (by omega), toInt64S_eq b (by omega) (k + 1) (by omega)]
  simp only [Option.bind_some]
  have h2' : (l.map toCoat_).length ≤ 1048576 := by simpa using h2
  have hj : laws_FnExactPlanEnd.j0 (k + 1) l b (l.map toCoat_) b false = some true := by
    simp only [laws_FnExactPlanEnd.j0]
    rw [toCoatS_eq l h2 k (by omega), toInt64S_eq b (by omega) k (by omega)]
    simp [eqCoatS_eq (l.map toCoat_) h2' k (by simp; omega), eqInt64S_eq b (by omega) k (by omega)]
  obtain ⟨r, e1, e2⟩ := planEnd_eq (l.map toCoat_) b h2' (by omega) k (by omega)
  rw [e1, e2]
  simp [hj]

end Go.Proofs.Ytjmjbmahljlnlaa.Pure

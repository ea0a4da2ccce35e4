/- FnExactScaleRecipe: the program's ScaleRecipe returns what the reference's returns, for all arguments; no condition. -/
import Derived.Test.YteijbdngbmciaaaGFnExactScaleRecipex
namespace Go.Proofs.Yteijbdngbmciaaa.Pure
open Go.RowKit Go.Proofs.Yteijbdngbmciaaa.GFnExactScaleRecipe Go.Proofs.YteijbdngbmciaaaW.PrintWords Go.Proofs.YteijbdngbmciaaaW.PrintLast
set_option linter.unusedSimpArgs false
set_option linter.unusedVariables false

theorem w64 {x : Int} (h0 : -9223372036854775808 ≤ x) (h1 : x ≤ 9223372036854775807) : wrap64 x = x := by
  unfold wrap64; omega

theorem within_eq (a b c : Int) : impl_within.f a b c = some (decide (b ≤ a ∧ a ≤ c)) := by
  unfold impl_within.f
  by_cases h : a ≥ b
  · rw [if_pos h]; simp [h]
  · rw [if_neg h]; simp; omega

theorem l00In_eq (a b c : Int) : spec_l00In.f a b c = some (decide (b ≤ a ∧ a ≤ c)) := by
  unfold spec_l00In.f
  by_cases h : a ≥ b
  · rw [if_pos h]; simp [h]
  · rw [if_neg h]; simp; omega

/-- a loop over a list: from one state to the next, or out of it -/
def run {α σ β : Type} (st : σ → α → Nat → σ ⊕ β) (en : σ → β) : List α → σ → Nat → β
  | [], s, _ => en s
  | x :: xs, s, i => match st s x i with
    | .inl s' => run st en xs s' (i + 1)
    | .inr r => r

theorem loop_run {α σ β : Type} (xs : List α) (K0 : Nat) (Inv : σ → Nat → Prop) (L : Nat → σ → Int → Option β) (st : σ → α → Nat → σ ⊕ β) (en : σ → β)
    (hs : ∀ (k : Nat) (s : σ) (i : Nat) (h : i < xs.length), K0 ≤ k → Inv s i →
      (∃ s', st s xs[i] i = .inl s' ∧ Inv s' (i + 1) ∧ L (k + 1) s (i : Int) = L k s' ((i + 1 : Nat) : Int)) ∨ (∃ r, st s xs[i] i = .inr r ∧ L (k + 1) s (i : Int) = some r))
    (he : ∀ (k : Nat) (s : σ), K0 ≤ k → Inv s xs.length → L (k + 1) s (xs.length : Int) = some (en s)) :
    ∀ (n i k : Nat) (s : σ), i + n = xs.length → K0 + n < k → Inv s i → L k s (i : Int) = some (run st en (xs.drop i) s i) := by
  intro n
  induction n with
  | zero =>
    intro i k s hi hk hI
    obtain ⟨k, rfl⟩ : ∃ m, k = m + 1 := ⟨k - 1, by omega⟩
    obtain rfl : i = xs.length := by omega
    rw [he k s (by omega) hI, List.drop_length]; rfl
  | succ n ih =>
    intro i k s hi hk hI
    obtain ⟨k, rfl⟩ : ∃ m, k = m + 1 := ⟨k - 1, by omega⟩
    have hlt : i < xs.length := by omega
    rw [List.drop_eq_getElem_cons hlt]
    rcases hs k s i hlt (by omega) hI with ⟨s', h1, h2, h3⟩ | ⟨r, h1, h3⟩
    · rw [h3, ih (i + 1) k s' (by omega) (by omega) h2]
      simp only [run, h1]
    · rw [h3]
      simp only [run, h1]

theorem loop_run0 {α σ β : Type} (xs : List α) (K0 : Nat) (Inv : σ → Nat → Prop) (L : Nat → σ → Int → Option β) (st : σ → α → Nat → σ ⊕ β) (en : σ → β)
    (hs : ∀ (k : Nat) (s : σ) (i : Nat) (h : i < xs.length), K0 ≤ k → Inv s i →
      (∃ s', st s xs[i] i = .inl s' ∧ Inv s' (i + 1) ∧ L (k + 1) s (i : Int) = L k s' ((i + 1 : Nat) : Int)) ∨ (∃ r, st s xs[i] i = .inr r ∧ L (k + 1) s (i : Int) = some r))
    (he : ∀ (k : Nat) (s : σ), K0 ≤ k → Inv s xs.length → L (k + 1) s (xs.length : Int) = some (en s)) (k : Nat) (s : σ) (hk : K0 + xs.length < k) (hI : Inv s 0) :
    L k s 0 = some (run st en xs s 0) := by
  have := loop_run xs K0 Inv L st en hs he xs.length 0 k s (by omega) hk hI
  simpa using this

/-- a row that is made and then filled, element by element -/
theorem loop_map {α β : Type} (xs : List α) (z : β) (c : α → β) (L : Nat → List β → Int → Option (List β))
    (hs : ∀ (k : Nat) (s : List β) (i : Nat) (h : i < xs.length), s.length = xs.length → L (k + 1) s (i : Int) = L k (s.set i (c xs[i])) ((i + 1 : Nat) : Int))
    (he : ∀ (k : Nat) (s : List β), L (k + 1) s (xs.length : Int) = some s) (k : Nat) (hk : xs.length < k) :
    L k (List.replicate xs.length z) 0 = some (xs.map c) := by
  have key : ∀ (n i k : Nat) (s : List β), i + n = xs.length → n < k → s.length = xs.length → s.take i = (xs.map c).take i → L k s (i : Int) = some (xs.map c) := by
    intro n
    induction n with
    | zero =>
      intro i k s hi hk hl ht
      obtain ⟨k, rfl⟩ : ∃ m, k = m + 1 := ⟨k - 1, by omega⟩
      obtain rfl : i = xs.length := by omega
      have h1 : s.take xs.length = s := List.take_of_length_le (by omega)
      rw [he, ← h1, ht, List.take_of_length_le (by simp)]
    | succ n ih =>
      intro i k s hi hk hl ht
      obtain ⟨k, rfl⟩ : ∃ m, k = m + 1 := ⟨k - 1, by omega⟩
      have hlt : i < xs.length := by omega
      rw [hs k s i hlt hl]
      refine ih (i + 1) k _ (by omega) (by omega) (by rw [List.length_set]; exact hl) ?_
      rw [List.take_succ_eq_append_getElem (by rw [List.length_set]; omega), List.take_succ_eq_append_getElem (by rw [List.length_map]; omega), List.take_set_of_le (by omega), ht]
      simp
  have := key xs.length 0 k (List.replicate xs.length z) (by omega) hk (by simp) (by simp)
  simpa using this

theorem wnat {n : Nat} (h : n < 9223372036854775807) : wrap64 ((n : Int) + 1) = ((n + 1 : Nat) : Int) := by
  unfold wrap64; omega

theorem loop_all {β : Type} (n K0 : Nat) (L : Nat → Int → Option β) (r : β) (hs : ∀ (k i : Nat), K0 ≤ k → i < n → L (k + 1) (i : Int) = L k ((i + 1 : Nat) : Int)) (he : ∀ k : Nat, L (k + 1) (n : Int) = some r)
    (k : Nat) (hk : K0 + n < k) : L k 0 = some r := by
  have key : ∀ (m i k : Nat), i + m = n → K0 + m < k → L k (i : Int) = some r := by
    intro m
    induction m with
    | zero =>
      intro i k hi hk
      obtain ⟨k, rfl⟩ : ∃ m, k = m + 1 := ⟨k - 1, by omega⟩
      obtain rfl : i = n := by omega
      exact he k
    | succ m ih =>
      intro i k hi hk
      obtain ⟨k, rfl⟩ : ∃ m, k = m + 1 := ⟨k - 1, by omega⟩
      rw [hs k i (by omega) (by omega)]
      exact ih (i + 1) k (by omega) (by omega)
  simpa using key n 0 k (by omega) hk

theorem all_from {α β : Type} (xs : List α) (K0 : Nat) (p : α → Bool) (r0 r1 : β) (L : Nat → Int → Option β)
    (hs : ∀ (k i : Nat) (h : i < xs.length), K0 ≤ k → L (k + 1) (i : Int) = if p xs[i] = true then L k ((i + 1 : Nat) : Int) else some r0)
    (he : ∀ k : Nat, K0 ≤ k → L (k + 1) (xs.length : Int) = some r1) : ∀ (n i k : Nat), i + n = xs.length → K0 + n < k → L k (i : Int) = some (if (xs.drop i).all p = true then r1 else r0) := by
  intro n
  induction n with
  | zero =>
    intro i k hi hk
    obtain ⟨k, rfl⟩ : ∃ m, k = m + 1 := ⟨k - 1, by omega⟩
    obtain rfl : i = xs.length := by omega
    rw [he k (by omega), List.drop_length]; rfl
  | succ n ih =>
    intro i k hi hk
    obtain ⟨k, rfl⟩ : ∃ m, k = m + 1 := ⟨k - 1, by omega⟩
    have hlt : i < xs.length := by omega
    rw [hs k i hlt (by omega), List.drop_eq_getElem_cons hlt, List.all_cons]
    cases hp : p xs[i] with
    | true => rw [if_pos rfl, ih (i + 1) k (by omega) (by omega), Bool.true_and]
    | false => simp

theorem all_loop {α β : Type} (xs : List α) (K0 : Nat) (p : α → Bool) (r0 r1 : β) (L : Nat → Int → Option β)
    (hs : ∀ (k i : Nat) (h : i < xs.length), K0 ≤ k → L (k + 1) (i : Int) = if p xs[i] = true then L k ((i + 1 : Nat) : Int) else some r0)
    (he : ∀ k : Nat, K0 ≤ k → L (k + 1) (xs.length : Int) = some r1) (k : Nat) (hk : K0 + xs.length < k) : L k 0 = some (if xs.all p = true then r1 else r0) := by
  simpa using all_from xs K0 p r0 r1 L hs he xs.length 0 k (by omega) hk

theorem idx_from {α : Type} (xs : List α) (K0 : Nat) (q : α → Bool) (L : Nat → Int → Option Int)
    (hs : ∀ (k i : Nat) (h : i < xs.length), K0 ≤ k → L (k + 1) (i : Int) = if q xs[i] = true then some (i : Int) else L k ((i + 1 : Nat) : Int))
    (he : ∀ k : Nat, K0 ≤ k → L (k + 1) (xs.length : Int) = some (-1)) : ∀ (n i k : Nat), i + n = xs.length → K0 + n < k → ∃ r, L k (i : Int) = some r ∧ decide (r ≥ 0) = (xs.drop i).any q := by
  intro n
  induction n with
  | zero =>
    intro i k hi hk
    obtain ⟨k, rfl⟩ : ∃ m, k = m + 1 := ⟨k - 1, by omega⟩
    obtain rfl : i = xs.length := by omega
    exact ⟨-1, he k (by omega), by rw [List.drop_length]; rfl⟩
  | succ n ih =>
    intro i k hi hk
    obtain ⟨k, rfl⟩ : ∃ m, k = m + 1 := ⟨k - 1, by omega⟩
    have hlt : i < xs.length := by omega
    rw [hs k i hlt (by omega), List.drop_eq_getElem_cons hlt, List.any_cons]
    cases hp : q xs[i] with
    | true => exact ⟨i, by rw [if_pos rfl], by simp⟩
    | false =>
      obtain ⟨r, h1, h2⟩ := ih (i + 1) k (by omega) (by omega)
      exact ⟨r, by rw [if_neg (by simp)]; exact h1, by rw [h2]; simp⟩

theorem idx_loop {α : Type} (xs : List α) (K0 : Nat) (q : α → Bool) (L : Nat → Int → Option Int)
    (hs : ∀ (k i : Nat) (h : i < xs.length), K0 ≤ k → L (k + 1) (i : Int) = if q xs[i] = true then some (i : Int) else L k ((i + 1 : Nat) : Int))
    (he : ∀ k : Nat, K0 ≤ k → L (k + 1) (xs.length : Int) = some (-1)) (k : Nat) (hk : K0 + xs.length < k) : ∃ r, L k 0 = some r ∧ decide (r ≥ 0) = xs.any q := by
  simpa using idx_from xs K0 q L hs he xs.length 0 k (by omega) hk

theorem any_not {α : Type} (l : List α) (p : α → Bool) : l.any (fun x => !p x) = !l.all p := by
  induction l with
  | nil => rfl
  | cons x l ih => rw [List.any_cons, List.all_cons, ih]; cases p x <;> simp

theorem rd36 (xs : List S36) (i : Nat) (h : i < xs.length) : rd_T36 xs (i : Int) = xs[i] := by
  unfold rd_T36; simp [List.getD, h]
theorem rd38 (xs : List S38) (i : Nat) (h : i < xs.length) : rd_T38 xs (i : Int) = xs[i] := by
  unfold rd_T38; simp [List.getD, h]

def toSt (x : S36) : S38 := ⟨x.f0, x.f1, x.f2⟩

theorem toStepS_eq (l : List S36) (hl : l.length ≤ 1048576) (k : Nat) (hk : l.length < k) : laws_toStepS.f k l = some (l.map toSt) := by
  unfold laws_toStepS.f
  rw [if_pos (by omega), if_pos (by omega), show ((l.length : Int)).toNat = l.length by omega]
  refine loop_map l z38 toSt (fun k s i => laws_toStepS.l0 k l s i) ?_ ?_ k hk
  · intro k s i h hs
    simp only [laws_toStepS.l0]
    rw [if_pos (by omega), if_pos (by omega), rd36 l i h]
    unfold laws_toStep.f
    simp only [Option.bind_some]
    rw [if_pos (by omega), wnat (by omega)]
    rfl
  · intro k s
    simp only [laws_toStepS.l0]
    rw [if_neg (by omega)]

theorem eqStepS_eq (l : List S38) (hl : l.length ≤ 1048576) (k : Nat) (hk : l.length < k) : laws_eqStepS.f k l l = some true := by
  unfold laws_eqStepS.f
  rw [if_pos rfl]
  refine loop_all l.length 0 (fun k i => laws_eqStepS.l0 k l l i) true ?_ ?_ k (by omega)
  · intro k i _ h
    simp only [laws_eqStepS.l0]
    rw [if_pos (by omega), if_pos (by omega), if_pos (by omega)]
    unfold laws_eqStep.f
    simp only [if_true, Option.bind_some]
    rw [wnat (by omega)]
  · intro k
    simp only [laws_eqStepS.l0]
    rw [if_neg (by omega)]

theorem szStepS_eq (l : List S36) (a : Int) (ha : 0 ≤ a) (ha2 : a ≤ 1048576) (hl : l.length ≤ maxLen) : laws_szStepS.f l a = some (if a < l.length then -1 else a - l.length) := by
  unfold maxLen at hl
  unfold laws_szStepS.f
  rw [w64 (x := a - l.length) (by omega) (by omega)]
  by_cases h : a < l.length
  · rw [if_pos (by omega), if_pos h]
  · rw [if_neg (by omega), if_neg h]

theorem szRecipe_eq (s : ByteArray) (l : List S36) (a : Int) (ha : 0 ≤ a) (ha2 : a ≤ 1048576) (hs : s.size ≤ maxLen) (hl : l.length ≤ maxLen) :
    ∃ v, laws_szRecipe.f s l a = some v ∧ (v < 0 ∨ 0 ≤ v ∧ v ≤ a ∧ s.size ≤ 1048576 ∧ l.length ≤ 1048576) := by
  unfold maxLen at hs
  unfold laws_szRecipe.f
  rw [w64 (x := a - s.size) (by omega) (by omega)]
  by_cases h : a - s.size < 0
  · rw [if_pos h]; exact ⟨_, rfl, .inl (by omega)⟩
  · rw [if_neg h, szStepS_eq l _ (by omega) (by omega) hl]
    simp only [Option.bind_some]
    by_cases h2 : a - s.size < l.length
    · rw [if_pos h2, if_pos (by omega)]; exact ⟨_, rfl, .inl (by omega)⟩
    · rw [if_neg h2, if_neg (by omega)]; exact ⟨_, rfl, .inr ⟨by omega, by omega, by omega, by omega⟩⟩

theorem bt_byte (s : ByteArray) (i : Int) : 0 ≤ bt s i ∧ bt s i ≤ 255 := by
  unfold bt
  split
  · have := (s[i.toNat]'(by assumption)).toNat_lt; omega
  · omega

/-- a letter or a digit of a name -/
def nmC (c : Int) : Bool := decide (97 ≤ c ∧ c ≤ 122 ∨ 48 ≤ c ∧ c ≤ 57)

theorem nil_iff (s : ByteArray) : s.toList = [] ↔ s.size = 0 := by
  rw [ByteArray.toList_eq]
  constructor
  · intro h
    have : s.data.toList.length = 0 := by rw [h]; rfl
    rw [Array.length_toList] at this; exact this
  · intro h
    apply List.eq_nil_of_length_eq_zero
    rw [Array.length_toList]; exact h

theorem small_eq (c : Int) : spec_l01Small.f c = some (decide (97 ≤ c ∧ c ≤ 122)) := by
  unfold spec_l01Small.f
  by_cases h : c ≥ 97
  · rw [if_pos h]; simp [h]
  · rw [if_neg h]; simp; omega
theorem digit_eq (c : Int) : spec_l01Digit.f c = some (decide (48 ≤ c ∧ c ≤ 57)) := by
  unfold spec_l01Digit.f
  by_cases h : c ≥ 48
  · rw [if_pos h]; simp [h]
  · rw [if_neg h]; simp; omega

theorem name_loop (s : ByteArray) (hs : s.size ≤ 10) : ∀ (n i k : Nat), i + n = s.size → n < k →
    ∃ b, spec_l01Name.l0 k s (i : Int) = some b ∧ impl_IsName.l0 k s (i : Int) = some b := by
  intro n
  induction n with
  | zero =>
    intro i k hi hk
    obtain ⟨k, rfl⟩ : ∃ m, k = m + 1 := ⟨k - 1, by omega⟩
    simp only [spec_l01Name.l0, impl_IsName.l0]
    exact ⟨true, by rw [if_neg (by omega)], by rw [if_neg (by omega)]⟩
  | succ n ih =>
    intro i k hi hk
    obtain ⟨k, rfl⟩ : ∃ m, k = m + 1 := ⟨k - 1, by omega⟩
    obtain ⟨b, e1, e2⟩ := ih (i + 1) k (by omega) (by omega)
    have hw : wrap64 ((i : Int) + 1) = ((i + 1 : Nat) : Int) := wnat (by omega)
    have a1 : (i : Int) < (s.size : Int) := by omega
    have a2 : (0 : Int) ≤ (i : Int) := by omega
    simp only [spec_l01Name.l0, impl_IsName.l0, small_eq, digit_eq, Option.bind_some, decide_eq_true_eq, a1, a2, if_true, hw, e1, e2]
    generalize bt s (i : Int) = c
    by_cases h1 : c < 97
    · by_cases h2 : c < 48
      · exact ⟨false, by simp [h1, h2, show ¬ (97 ≤ c ∧ c ≤ 122) by omega, show ¬ (48 ≤ c ∧ c ≤ 57) by omega], by simp [h1, h2]⟩
      · by_cases h3 : c > 57
        · exact ⟨false, by simp [show ¬ (97 ≤ c ∧ c ≤ 122) by omega, show ¬ (48 ≤ c ∧ c ≤ 57) by omega], by simp [h1, h2, h3]⟩
        · exact ⟨b, by simp [show ¬ (97 ≤ c ∧ c ≤ 122) by omega, show (48 ≤ c ∧ c ≤ 57) by omega], by simp [h1, h2, h3]⟩
    · by_cases h4 : c > 122
      · exact ⟨false, by simp [show ¬ (97 ≤ c ∧ c ≤ 122) by omega, show ¬ (48 ≤ c ∧ c ≤ 57) by omega], by simp [h1, h4, show ¬ (c < 48) by omega, show c > 57 by omega]⟩
      · exact ⟨b, by simp [show (97 ≤ c ∧ c ≤ 122) by omega], by simp [h1, h4]⟩

theorem name_eq (s : ByteArray) : ∃ b : Bool, (∀ k, 13 ≤ k → spec_l01Name.f k s = some b ∧ impl_IsName.f k s = some b) := by
  have fin : ∃ b : Bool, spec_l01Name.f 13 s = some b ∧ impl_IsName.f 13 s = some b := by
    unfold spec_l01Name.f impl_IsName.f
    by_cases h0 : s.size = 0
    · exact ⟨false, by simp [(nil_iff s).2 h0, spec_l01Name.j0], by simp [show (s.size : Int) < 1 by omega, impl_IsName.j0]⟩
    · have n0 : ¬ s.toList = [] := fun h => h0 ((nil_iff s).1 h)
      have n1 : ¬ (s.size : Int) < 1 := by omega
      by_cases h1 : (s.size : Int) > 10
      · exact ⟨false, by simp [n0, h1, spec_l01Name.j0], by simp [n1, h1, impl_IsName.j0]⟩
      · have n2 : (0 : Int) < (s.size : Int) := by omega
        simp only [n0, n1, h1, n2, if_true, if_false, small_eq, Option.bind_some]
        obtain ⟨b, e1, e2⟩ := name_loop s (by omega) s.size 0 12 (by omega) (by omega)
        have e1' : spec_l01Name.l0 12 s 0 = some b := e1
        have e2' : impl_IsName.l0 12 s 0 = some b := e2
        generalize bt s 0 = c
        by_cases h2 : c < 97
        · exact ⟨false, by simp [spec_l01Name.j0, show ¬ (97 ≤ c ∧ c ≤ 122) by omega], by simp [impl_IsName.j0, h2]⟩
        · by_cases h3 : c > 122
          · exact ⟨false, by simp [spec_l01Name.j0, show ¬ (97 ≤ c ∧ c ≤ 122) by omega], by simp [impl_IsName.j0, h2, h3]⟩
          · exact ⟨b, by simp [spec_l01Name.j0, show (97 ≤ c ∧ c ≤ 122) by omega, e1'], by simp [impl_IsName.j0, h2, show ¬ (c > 122) by omega, e2']⟩
  obtain ⟨b, e1, e2⟩ := fin
  exact ⟨b, fun k hk => ⟨at_rounds (g := fun k => spec_l01Name.f k s) (fun k => spec_l01Name.mono s k) hk e1, at_rounds (g := fun k => impl_IsName.f k s) (fun k => impl_IsName.mono s k) hk e2⟩⟩

theorem step_eq (x : S38) : ∃ b : Bool, spec_l21Step.f [x] = some b ∧ impl_ValidStep.f x.f0 x.f1 x.f2 = some b ∧
    (b = true → (x.f0 = 1 ∧ 100 ≤ x.f1 ∧ x.f1 ≤ 300 ∧ 0 ≤ x.f2 ∧ x.f2 ≤ 600) ∨ (x.f0 = 2 ∧ 0 ≤ x.f1 ∧ x.f1 ≤ 100 ∧ 0 ≤ x.f2 ∧ x.f2 ≤ 100) ∨ (x.f0 = 3 ∧ 0 ≤ x.f1 ∧ x.f1 ≤ 600 ∧ x.f2 = 0)) := by
  have r : rd_T38 [x] 0 = x := rfl
  unfold impl_ValidStep.f spec_l21Step.f spec_l21Heat.f
  simp only [Option.bind_some, within_eq, l00In_eq, r, List.length_cons, List.length_nil]
  generalize x.f0 = a
  generalize x.f1 = b
  generalize x.f2 = c
  by_cases h1 : a = 1
  · subst h1
    refine ⟨decide (100 ≤ b ∧ b ≤ 300) && decide (0 ≤ c ∧ c ≤ 600), ?_, ?_, ?_⟩
    · by_cases g1 : 100 ≤ b ∧ b ≤ 300 <;> by_cases g2 : 0 ≤ c ∧ c ≤ 600 <;> simp [g1, g2]
    · by_cases g1 : 100 ≤ b ∧ b ≤ 300 <;> by_cases g2 : 0 ≤ c ∧ c ≤ 600 <;> simp [g1, g2]
    · simp; omega
  · by_cases h2 : a = 2
    · subst h2
      refine ⟨decide (0 ≤ b ∧ b ≤ 100) && decide (0 ≤ c ∧ c ≤ 100), ?_, ?_, ?_⟩
      · by_cases g1 : 0 ≤ b ∧ b ≤ 100 <;> by_cases g2 : 0 ≤ c ∧ c ≤ 100 <;> simp [g1, g2]
      · by_cases g1 : 0 ≤ b ∧ b ≤ 100 <;> by_cases g2 : 0 ≤ c ∧ c ≤ 100 <;> simp [g1, g2]
      · simp; omega
    · by_cases h3 : a = 3
      · subst h3
        refine ⟨decide (0 ≤ b ∧ b ≤ 600) && decide (c = 0), ?_, ?_, ?_⟩
        · by_cases g1 : 0 ≤ b ∧ b ≤ 600 <;> by_cases g2 : c = 0 <;> simp [g1, g2]
        · by_cases g1 : 0 ≤ b ∧ b ≤ 600 <;> by_cases g2 : c = 0 <;> simp [g1, g2]
        · simp; omega
      · exact ⟨false, by simp [h1, h2, h3], by simp [h1, h2, h3], by simp⟩

def vs (x : S38) : Bool := impl_ValidStep.f x.f0 x.f1 x.f2 == some true

theorem vs_spec (x : S38) : spec_l21Step.f [x] = some (vs x) ∧ impl_ValidStep.f x.f0 x.f1 x.f2 = some (vs x) ∧
    (vs x = true → (x.f0 = 1 ∧ 100 ≤ x.f1 ∧ x.f1 ≤ 300 ∧ 0 ≤ x.f2 ∧ x.f2 ≤ 600) ∨ (x.f0 = 2 ∧ 0 ≤ x.f1 ∧ x.f1 ≤ 100 ∧ 0 ≤ x.f2 ∧ x.f2 ≤ 100) ∨ (x.f0 = 3 ∧ 0 ≤ x.f1 ∧ x.f1 ≤ 600 ∧ x.f2 = 0)) := by
  obtain ⟨b, e1, e2, e3⟩ := step_eq x
  have e : vs x = b := by unfold vs; rw [e2]; cases b <;> rfl
  rw [e]; exact ⟨e1, e2, e3⟩

def nmB (s : ByteArray) : Bool := impl_IsName.f 13 s == some true

theorem nm_spec (s : ByteArray) (k : Nat) (hk : 13 ≤ k) : spec_l01Name.f k s = some (nmB s) ∧ impl_IsName.f k s = some (nmB s) := by
  obtain ⟨b, hb⟩ := name_eq s
  have e : nmB s = b := by unfold nmB; rw [(hb 13 (Nat.le_refl _)).2]; cases b <;> rfl
  rw [e]; exact hb k hk

def okS (l : List S38) : Bool := l.all vs && decide (l.length ≤ 8)
def okR (s : ByteArray) (l : List S38) : Bool := nmB s && okS l

theorem specSteps (l : List S38) (hl : l.length ≤ 1048576) (k : Nat) (hk : l.length + 20 < k) : spec_l21Steps.f k l = some (okS l) := by
  unfold spec_l21Steps.f okS
  rw [all_loop l 0 vs false (decide (l.length ≤ 8)) (fun k i => spec_l21Steps.l0 k l i) ?_ ?_ k (by omega)]
  · cases l.all vs <;> simp
  · intro k i hi _
    simp only [spec_l21Steps.l0]
    rw [if_pos (by omega), if_pos (by omega), rd38 l i hi, wnat (by omega), (vs_spec l[i]).1]
    simp only [Option.bind_some]
  · intro k _
    simp only [spec_l21Steps.l0]
    rw [if_neg (by omega)]
    simp; omega

theorem implSteps (l : List S38) (hl : l.length ≤ 1048576) (k : Nat) (hk : l.length + 20 < k) : impl_validSteps.f k l = some (okS l) := by
  unfold impl_validSteps.f okS
  by_cases h : (l.length : Int) ≤ 8
  · rw [if_pos h]
    unfold fi66_67.f fi80_67.f
    obtain ⟨r, h1, h2⟩ := idx_loop l 0 (fun x => !vs x) (fun k i => fi80_67.l0 k l (l.length : Int) i) (by
      intro k i hi _
      simp only [fi80_67.l0]
      rw [if_pos (by omega), if_pos (by omega), if_pos (by omega), rd38 l i hi, wnat (by omega)]
      unfold impl_validSteps_1.f
      rw [(vs_spec l[i]).2.1]
      simp only [Option.bind_some]) (by
      intro k _
      simp only [fi80_67.l0]
      rw [if_neg (by omega)]) k (by omega)
    rw [h1]
    simp only [Option.bind_some]
    rw [h2, any_not]
    simp; omega
  · rw [if_neg h]; simp; omega

theorem recipe_eq (s : ByteArray) (l : List S38) (hl : l.length ≤ 1048576) (k : Nat) (hk : l.length + 30 < k) : spec_l21Ok.f k [(⟨s, l⟩ : S29)] = some (okR s l) ∧ impl_ValidRecipe.f k s l = some (okR s l) := by
  have r : rd_T29 [(⟨s, l⟩ : S29)] 0 = ⟨s, l⟩ := rfl
  unfold spec_l21Ok.f impl_ValidRecipe.f okR
  rw [if_pos (by simp), r, (nm_spec s k (by omega)).1, (nm_spec s k (by omega)).2]
  simp only [Option.bind_some, specSteps l hl k (by omega), implSteps l hl k (by omega)]
  cases nmB s <;> simp

theorem okR_mem {s : ByteArray} {l : List S38} (h : okR s l = true) (i : Nat) (hi : i < l.length) : vs l[i] = true := by
  unfold okR okS at h
  rw [Bool.and_eq_true, Bool.and_eq_true, List.all_eq_true] at h
  exact h.2.1 _ (List.getElem_mem hi)
theorem okR_len {s : ByteArray} {l : List S38} (h : okR s l = true) : l.length ≤ 8 := by
  unfold okR okS at h
  rw [Bool.and_eq_true, Bool.and_eq_true, decide_eq_true_eq] at h
  exact h.2.2

theorem toRecipe_eq (s : ByteArray) (l : List S36) (hl : l.length ≤ 1048576) (k : Nat) (hk : l.length < k) : laws_toRecipe.f k s l = some (s, l.map toSt) := by
  unfold laws_toRecipe.f
  rw [toStepS_eq l hl k hk]; rfl
theorem eqRecipe_eq (s : ByteArray) (l : List S38) (hl : l.length ≤ 1048576) (k : Nat) (hk : l.length < k) : laws_eqRecipe.f k s l s l = some true := by
  unfold laws_eqRecipe.f
  simp [eqStepS_eq l hl k hk]

/-- the nearest quotient, halves away from 0 -/
def rdiv (a b : Int) : Int := if a < 0 then -((b - 2 * a) / (2 * b)) else (2 * a + b) / (2 * b)

theorem half_up {x b : Int} (hb : 0 < b) : (2 * x + b) / (2 * b) = if x % b ≥ b - x % b then x / b + 1 else x / b := by
  have hx := Int.mul_ediv_add_emod x b
  have hr0 := Int.emod_nonneg x (show b ≠ 0 by omega)
  have hr1 := Int.emod_lt_of_pos x hb
  generalize hq : x / b = q at *
  generalize hr : x % b = r at *
  have key : ∀ c : Int, c * (2 * b) ≤ 2 * x + b → 2 * x + b < (c + 1) * (2 * b) → (2 * x + b) / (2 * b) = c := by
    intro c h1 h2
    apply Int.le_antisymm
    · exact Int.lt_add_one_iff.1 ((Int.ediv_lt_iff_lt_mul (by omega)).2 h2)
    · exact (Int.le_ediv_iff_mul_le (by omega)).2 h1
  have e0 : q * (2 * b) = 2 * (b * q) := by rw [Int.mul_comm q, Int.mul_assoc]
  have e1 : (q + 1) * (2 * b) = 2 * (b * q) + 2 * b := by rw [Int.add_mul, e0]; omega
  have e2 : (q + 1 + 1) * (2 * b) = 2 * (b * q) + 2 * b + 2 * b := by rw [Int.add_mul, e1]; omega
  generalize b * q = p at *
  split
  · apply key
    · rw [e1]; omega
    · rw [e2]; omega
  · apply key
    · rw [e0]; omega
    · rw [e1]; omega

theorem l01Div_eq {a b : Int} (ha : -1000000000000000000 ≤ a) (ha2 : a ≤ 1000000000000000000) (hb : 0 < b) (hb2 : b ≤ 1000000000000) : spec_l01Div.f a b = some (rdiv a b) := by
  unfold spec_l01Div.f rdiv
  rw [if_neg (by omega)]
  by_cases h : a < 0
  · have d0 : 0 ≤ (b - 2 * a) / (2 * b) := Int.ediv_nonneg (by omega) (by omega)
    have d1 : (b - 2 * a) / (2 * b) ≤ b - 2 * a := Int.ediv_le_self _ (by omega)
    rw [if_pos h, if_pos h, w64 (x := 2 * b) (by omega) (by omega), if_neg (by omega), w64 (x := 2 * a) (by omega) (by omega), w64 (x := b - 2 * a) (by omega) (by omega), Int.tdiv_eq_ediv_of_nonneg (by omega), w64 (x := (b - 2 * a) / (2 * b)) (by omega) (by omega), w64 (by omega) (by omega)]
  · have d0 : 0 ≤ (2 * a + b) / (2 * b) := Int.ediv_nonneg (by omega) (by omega)
    have d1 : (2 * a + b) / (2 * b) ≤ 2 * a + b := Int.ediv_le_self _ (by omega)
    rw [if_neg h, if_neg h, w64 (x := 2 * b) (by omega) (by omega), if_neg (by omega), w64 (x := 2 * a) (by omega) (by omega), w64 (x := 2 * a + b) (by omega) (by omega), Int.tdiv_eq_ediv_of_nonneg (by omega), w64 (by omega) (by omega)]

theorem nearest_eq {a b : Int} (ha : -1000000000000000000 ≤ a) (ha2 : a ≤ 1000000000000000000) (hb : 0 < b) (hb2 : b ≤ 1000000000000) : impl_nearest.f a b = some (rdiv a b) := by
  have hm : mx b (wrap64 (-b)) = b := by rw [w64 (by omega) (by omega)]; unfold mx; rw [if_neg (by omega)]
  unfold impl_nearest.f rdiv
  rw [if_neg (by omega), hm, if_neg (by omega)]
  by_cases h : a < 0
  · have hx : mx a (wrap64 (-a)) = -a := by rw [w64 (by omega) (by omega)]; unfold mx; rw [if_pos (by omega)]
    have hh := half_up (x := -a) hb
    have d0 : 0 ≤ (-a) / b := Int.ediv_nonneg (by omega) (by omega)
    have d1 : (-a) / b ≤ -a := Int.ediv_le_self _ (by omega)
    have hr0 := Int.emod_nonneg (-a) (show b ≠ 0 by omega)
    have hr1 := Int.emod_lt_of_pos (-a) hb
    rw [hx, if_pos h, show b - 2 * a = 2 * -a + b by omega, hh, Int.tmod_eq_emod_of_nonneg (by omega), Int.tdiv_eq_ediv_of_nonneg (by omega), w64 (x := b - -a % b) (by omega) (by omega), w64 (x := -a / b) (by omega) (by omega)]
    have hc : (decide (a < 0) != decide (b < 0)) = true := by simp [h]; omega
    by_cases g : -a % b ≥ b - -a % b
    · rw [if_pos g, if_pos hc, if_pos g, w64 (x := -a / b + 1) (by omega) (by omega), w64 (by omega) (by omega)]
    · rw [if_neg g, if_pos hc, if_neg g, w64 (by omega) (by omega)]
  · have hx : mx a (wrap64 (-a)) = a := by rw [w64 (by omega) (by omega)]; unfold mx; rw [if_neg (by omega)]
    have hh := half_up (x := a) hb
    have d0 : 0 ≤ a / b := Int.ediv_nonneg (by omega) (by omega)
    have d1 : a / b ≤ a := Int.ediv_le_self _ (by omega)
    have hr0 := Int.emod_nonneg a (show b ≠ 0 by omega)
    have hr1 := Int.emod_lt_of_pos a hb
    rw [hx, if_neg h, hh, Int.tmod_eq_emod_of_nonneg (by omega), Int.tdiv_eq_ediv_of_nonneg (by omega), w64 (x := b - a % b) (by omega) (by omega), w64 (x := a / b) (by omega) (by omega)]
    have hc : ¬ (decide (a < 0) != decide (b < 0)) = true := by simp [h]; omega
    by_cases g : a % b ≥ b - a % b
    · rw [if_pos g, if_neg hc, if_pos g, w64 (x := a / b + 1) (by omega) (by omega)]
    · rw [if_neg g, if_neg hc, if_neg g]

theorem rdiv_bounds {a b m : Int} (hb : 0 < b) (h0 : -m ≤ a) (h1 : a ≤ m) : -(m + 1) ≤ rdiv a b ∧ rdiv a b ≤ m + 1 := by
  unfold rdiv
  have aux : ∀ x : Int, 0 ≤ x → x ≤ m → 0 ≤ (2 * x + b) / (2 * b) ∧ (2 * x + b) / (2 * b) ≤ m + 1 := by
    intro x hx hxm
    rw [half_up hb]
    have d0 : 0 ≤ x / b := Int.ediv_nonneg (by omega) (by omega)
    have d1 : x / b ≤ x := Int.ediv_le_self _ (by omega)
    split <;> omega
  split
  · have := aux (-a) (by omega) (by omega)
    rw [show b - 2 * a = 2 * -a + b by omega]
    omega
  · have := aux a (by omega) (by omega)
    omega

def upM : Nat → Int → List S38
  | 0, _ => []
  | n + 1, m => ⟨m, m + 1, m + 2⟩ :: upM n (m + 3)
theorem upM_len : ∀ (n : Nat) (m : Int), (upM n m).length = n
  | 0, _ => rfl
  | n + 1, m => by simp [upM, upM_len n]
theorem upM_get : ∀ (n : Nat) (m : Int) (i : Nat) (h : i < (upM n m).length), (upM n m)[i] = ⟨m + 3 * i, m + 3 * i + 1, m + 3 * i + 2⟩
  | 0, m, i, h => by simp [upM] at h
  | n + 1, m, 0, h => by simp [upM]
  | n + 1, m, i + 1, h => by
    have h' : i < (upM n (m + 3)).length := by simpa [upM] using h
    have := upM_get n (m + 3) i h'
    simp only [upM, List.getElem_cons_succ, this]
    rw [show m + 3 + 3 * (i : Int) = m + 3 * ((i + 1 : Nat) : Int) by omega]

theorem markSts_eq (l : List S38) (hl : l.length ≤ 1048576) (m : Int) (h0 : 0 ≤ m) (h1 : m ≤ 100000000) (k : Nat) (hk : l.length < k) : laws_markStepS.f k l m = some (m + 3 * l.length, upM l.length m) := by
  have key : ∀ (n i k : Nat) (s : List S38), i + n = l.length → n < k → s.length = l.length → s.take i = (upM l.length m).take i →
      laws_markStepS.l0 k s (m + 3 * i) (i : Int) = some (m + 3 * l.length, upM l.length m) := by
    intro n
    induction n with
    | zero =>
      intro i k s hi hk hs ht
      obtain ⟨k, rfl⟩ : ∃ m, k = m + 1 := ⟨k - 1, by omega⟩
      obtain rfl : i = l.length := by omega
      simp only [laws_markStepS.l0]
      have e : s = upM l.length m := by
        rw [List.take_of_length_le (by omega), List.take_of_length_le (by rw [upM_len]; omega)] at ht; exact ht
      rw [if_neg (by omega), e]
    | succ n ih =>
      intro i k s hi hk hs ht
      obtain ⟨k, rfl⟩ : ∃ m, k = m + 1 := ⟨k - 1, by omega⟩
      have hlt : i < s.length := by omega
      simp only [laws_markStepS.l0, Option.bind_some]
      rw [if_pos (by omega), if_pos (by omega), w64 (x := m + 3 * (i : Int) + 1) (by omega) (by omega), w64 (x := m + 3 * (i : Int) + 1 + 1) (by omega) (by omega), w64 (x := m + 3 * (i : Int) + 1 + 1 + 1) (by omega) (by omega), wnat (by omega), show ((i : Int)).toNat = i by omega]
      have e1 : ∀ v : S38, rd_T38 (s.set i v) (i : Int) = v := by
        intro v
        rw [rd38 _ i (by rw [List.length_set]; omega), List.getElem_set_self]
      simp only [e1, List.set_set]
      have hh := ih (i + 1) k (s.set i (⟨m + 3 * (i : Int), m + 3 * (i : Int) + 1, m + 3 * (i : Int) + 1 + 1⟩ : S38)) (by omega) (by omega) (by rw [List.length_set]; exact hs) (by
        have hlt2 : i < (upM l.length m).length := by rw [upM_len]; omega
        rw [List.take_succ_eq_append_getElem (by rw [List.length_set]; omega), List.take_succ_eq_append_getElem hlt2, List.take_set_of_le (by omega), ht, upM_get _ _ _ hlt2, List.getElem_set_self, show m + 3 * (i : Int) + 1 + 1 = m + 3 * (i : Int) + 2 by omega])
      rw [show m + 3 * ((i + 1 : Nat) : Int) = m + 3 * (i : Int) + 1 + 1 + 1 by omega] at hh
      exact hh
  have := key l.length 0 k l (by omega) hk rfl (by simp)
  unfold laws_markStepS.f
  simpa using this

theorem heldSts_eq (n : Nat) (hn : n ≤ 1048576) (m : Int) (h0 : 0 ≤ m) (h1 : m ≤ 100000000) (k : Nat) (hk : n < k) : laws_heldStepS.f k (upM n m) m = some (m + 3 * n) := by
  have key : ∀ (d i k : Nat), i + d = n → d < k → laws_heldStepS.l0 k (upM n m) (m + 3 * i) (i : Int) = some (m + 3 * n) := by
    intro d
    induction d with
    | zero =>
      intro i k hi hk
      obtain ⟨k, rfl⟩ : ∃ m, k = m + 1 := ⟨k - 1, by omega⟩
      obtain rfl : i = n := by omega
      simp only [laws_heldStepS.l0]
      rw [if_neg (by rw [upM_len]; omega)]
    | succ d ih =>
      intro i k hi hk
      obtain ⟨k, rfl⟩ : ∃ m, k = m + 1 := ⟨k - 1, by omega⟩
      have hlt : i < (upM n m).length := by rw [upM_len]; omega
      simp only [laws_heldStepS.l0]
      rw [if_pos (by omega), if_pos (by omega), rd38 _ i hlt, upM_get _ _ _ hlt]
      simp only [if_true]
      rw [w64 (x := m + 3 * (i : Int) + 1) (by omega) (by omega), if_pos rfl, w64 (x := m + 3 * (i : Int) + 1 + 1) (by omega) (by omega), if_pos (by omega), w64 (x := m + 3 * (i : Int) + 1 + 1 + 1) (by omega) (by omega), wnat (by omega)]
      have hh := ih (i + 1) k (by omega) (by omega)
      rw [show m + 3 * ((i + 1 : Nat) : Int) = m + 3 * (i : Int) + 1 + 1 + 1 by omega] at hh
      exact hh
  have := key n 0 k (by omega) hk
  unfold laws_heldStepS.f
  simpa using this

theorem scale_law (s : ByteArray) (l : List S36) (f : Int) (v : Int) (r : ByteArray × List S38 × Int) (hr : r.2.1.length ≤ 1000) (e1 : laws_szRecipe.f s l 1048576 = some v) (hv : ¬ v < 0) (h4 : l.length ≤ 1048576) (hs : ∀ k, 1049000 ≤ k → spec_ScaleRecipe.f k s (l.map toSt) f = some r ∧ impl_ScaleRecipe.f k s (l.map toSt) f = some r) :
    laws_FnExactScaleRecipe.f 1049300 s l f = some true := by
  obtain ⟨k, hk⟩ : ∃ k : Nat, k = 1049297 := ⟨_, rfl⟩
  rw [show 1049300 = k + 1 + 1 + 1 by omega]
  obtain ⟨s2, out, c⟩ := r
  simp only at hr
  have h4' : (l.map toSt).length ≤ 1048576 := by simpa using h4
  have ho : ∀ k, 3000 ≤ k → laws_eqRecipe.f k s2 out s2 out = some true := fun k hk => eqRecipe_eq s2 out (by omega) k (by omega)
  have hm : ∀ k, 3000 ≤ k → laws_markRecipe.f k s2 out 1 = some (1 + 3 * (out.length : Int), upM out.length 1) := by
    intro k hk
    unfold laws_markRecipe.f
    rw [markSts_eq out (by omega) 1 (by omega) (by omega) k (by omega)]; rfl
  have hh : ∀ k, 3000 ≤ k → laws_heldRecipe.f k s2 (upM out.length 1) 1 = some (1 + 3 * (out.length : Int)) := by
    intro k hk
    unfold laws_heldRecipe.f
    rw [heldSts_eq out.length (by omega) 1 (by omega) (by omega) k (by omega)]
    simp only [Option.bind_some]
    rw [if_neg (by omega)]
  have hml : ∀ k, 1048577 ≤ k → laws_markRecipe.f k s (l.map toSt) 1 = some (1 + 3 * ((l.map toSt).length : Int), upM (l.map toSt).length 1) := by
    intro k hk
    unfold laws_markRecipe.f
    rw [markSts_eq (l.map toSt) h4' 1 (by omega) (by omega) k (by omega)]; rfl
  unfold laws_FnExactScaleRecipe.f
  rw [e1]
  simp only [Option.bind_some]
  rw [if_neg hv, toRecipe_eq s l h4 (k + 1 + 1 + 1) (by omega)]
  simp only [Option.bind_some]
  rw [(hs (k + 1 + 1 + 1) (by omega)).1, (hs (k + 1 + 1 + 1) (by omega)).2]
  simp only [Option.bind_some, ho (k + 1 + 1 + 1) (by omega), if_true, bne_self_eq_false, laws_FnExactScaleRecipe.j0, Bool.false_eq_true, if_false]
  rw [toRecipe_eq s l h4 (k + 1 + 1) (by omega)]
  simp only [Option.bind_some, eqRecipe_eq s (l.map toSt) h4' (k + 1 + 1) (by omega), if_true]
  rw [hml (k + 1 + 1) (by omega)]
  simp only [Option.bind_some]
  rw [if_neg (by omega)]
  simp only [ho (k + 1 + 1) (by omega), Option.bind_some, if_true, laws_FnExactScaleRecipe.j1, Bool.false_eq_true, if_false]
  rw [hm (k + 1) (by omega)]
  simp only [Option.bind_some, hh (k + 1) (by omega)]
  rw [if_neg (by omega)]
  simp only [if_true]
  rw [toRecipe_eq s l h4 (k + 1) (by omega)]
  simp only [Option.bind_some]
  rw [(hs (k + 1) (by omega)).2]
  simp only [Option.bind_some, ho (k + 1) (by omega), if_true, bne_self_eq_false, laws_FnExactScaleRecipe.j2, Bool.false_eq_true, if_false, hh k (by omega)]
  rw [if_neg (by omega)]

def sc (f : Int) (x : S38) : S38 := if x.f0 = 1 then ⟨x.f0, x.f1, rdiv (x.f2 * 100) f⟩ else x
def scR (s : ByteArray) (l : List S38) : ByteArray × List S38 × Int := if okR s l = true then (s, l, 0) else (⟨#[]⟩, [], 6)

theorem sc_step {f : Int} (hf : 50 ≤ f ∧ f ≤ 200) (l : List S38) (hl : l.length ≤ 8) (hv : ∀ x ∈ l, vs x = true) (i : Nat) (h : i < l.length) :
    rd_T38 ((l.take i).map (sc f) ++ l.drop i) (i : Int) = l[i] ∧ ((l.take i).map (sc f) ++ l.drop i).length = l.length ∧ (0 ≤ l[i].f2 ∧ l[i].f2 ≤ 1000) ∧ ((l.take i).map (sc f) ++ l.drop i).set i (sc f l[i]) = (l.take (i + 1)).map (sc f) ++ l.drop (i + 1) := by
  have hlen : ((l.take i).map (sc f) ++ l.drop i).length = l.length := by simp; omega
  have hti : ((l.take i).map (sc f)).length = i := by simp; omega
  obtain ⟨_, _, hb⟩ := vs_spec l[i]
  have hb := hb (hv _ (List.getElem_mem h))
  refine ⟨?_, hlen, by omega, ?_⟩
  · rw [rd38 _ i (by omega), List.getElem_append_right (by omega)]
    simp only [hti, List.getElem_drop, Nat.sub_self, Nat.add_zero]
  · rw [List.drop_eq_getElem_cons h, List.take_succ_eq_append_getElem h, List.map_append, List.set_append_right _ _ (by omega), hti, Nat.sub_self, List.set_cons_zero, List.append_assoc]; rfl

theorem specScale {f : Int} (hf : 50 ≤ f ∧ f ≤ 200) (s : ByteArray) (l : List S38) (hl : l.length ≤ 8) (hv : ∀ x ∈ l, vs x = true) : ∀ (n i k : Nat), i + n = l.length → n + 100 < k → spec_ScaleRecipe.l0 k f (i : Int) s ((l.take i).map (sc f) ++ l.drop i) = some (scR s (l.map (sc f))) := by
  intro n
  induction n with
  | zero =>
    intro i k hi hk
    obtain ⟨k, rfl⟩ : ∃ m, k = m + 1 := ⟨k - 1, by omega⟩
    obtain rfl : i = l.length := by omega
    simp only [spec_ScaleRecipe.l0, List.take_length, List.drop_length, List.append_nil]
    rw [if_neg (by simp), (recipe_eq s (l.map (sc f)) (by simp; omega) k (by simp; omega)).1]
    simp only [Option.bind_some]
    unfold scR
    split <;> rfl
  | succ n ih =>
    intro i k hi hk
    obtain ⟨k, rfl⟩ : ∃ m, k = m + 1 := ⟨k - 1, by omega⟩
    have h : i < l.length := by omega
    obtain ⟨q1, q2, q3, q4⟩ := sc_step hf l hl hv i h
    simp only [spec_ScaleRecipe.l0]
    rw [if_pos (by omega), if_pos (by omega), q1, wnat (by omega), show ((i : Int)).toNat = i by omega]
    have hn := ih (i + 1) k (by omega) (by omega)
    rw [← q4] at hn
    unfold sc at hn
    by_cases c : l[i].f0 = 1
    · rw [if_pos c] at hn
      rw [if_pos c, w64 (x := l[i].f2 * 100) (by omega) (by omega), l01Div_eq (by omega) (by omega) (by omega) (by omega)]
      exact hn
    · rw [if_neg c] at hn
      rw [if_neg c]
      have e : ((l.take i).map (sc f) ++ l.drop i).set i l[i] = (l.take i).map (sc f) ++ l.drop i := by
        have := rd38 ((l.take i).map (sc f) ++ l.drop i) i (by omega)
        rw [q1] at this
        rw [this, List.set_getElem_self]
      exact (congrArg _ e.symm).trans hn

theorem implScale {f : Int} (hf : 50 ≤ f ∧ f ≤ 200) (s : ByteArray) (l : List S38) (hl : l.length ≤ 8) (hv : ∀ x ∈ l, vs x = true) : ∀ (n i k : Nat), i + n = l.length → n + 100 < k → impl_ScaleRecipe.l0 k f (l.length : Int) (i : Int) s ((l.take i).map (sc f) ++ l.drop i) = some (scR s (l.map (sc f))) := by
  intro n
  induction n with
  | zero =>
    intro i k hi hk
    obtain ⟨k, rfl⟩ : ∃ m, k = m + 1 := ⟨k - 1, by omega⟩
    obtain rfl : i = l.length := by omega
    simp only [impl_ScaleRecipe.l0, List.take_length, List.drop_length, List.append_nil]
    rw [if_neg (by omega), (recipe_eq s (l.map (sc f)) (by simp; omega) k (by simp; omega)).2]
    simp only [Option.bind_some]
    unfold scR
    split <;> rfl
  | succ n ih =>
    intro i k hi hk
    obtain ⟨k, rfl⟩ : ∃ m, k = m + 1 := ⟨k - 1, by omega⟩
    have h : i < l.length := by omega
    obtain ⟨q1, q2, q3, q4⟩ := sc_step hf l hl hv i h
    simp only [impl_ScaleRecipe.l0]
    rw [if_pos (by omega), if_pos (by omega), if_pos (by omega), q1, wnat (by omega), show ((i : Int)).toNat = i by omega]
    have hn := ih (i + 1) k (by omega) (by omega)
    rw [← q4] at hn
    unfold sc at hn
    by_cases c : l[i].f0 = 1
    · rw [if_pos c] at hn
      rw [if_pos c, w64 (x := l[i].f2 * 100) (by omega) (by omega), nearest_eq (by omega) (by omega) (by omega) (by omega)]
      exact hn
    · rw [if_neg c] at hn
      rw [if_neg c]
      have e : ((l.take i).map (sc f) ++ l.drop i).set i l[i] = (l.take i).map (sc f) ++ l.drop i := by
        have := rd38 ((l.take i).map (sc f) ++ l.drop i) i (by omega)
        rw [q1] at this
        rw [this, List.set_getElem_self]
      exact (congrArg _ e.symm).trans hn

theorem FnExactScaleRecipe : laws_FnExactScaleRecipe.Pure := by
  intro s l f ⟨hs, hl, _⟩ _
  refine ⟨1049300, ?_⟩
  obtain ⟨v, e1, h1⟩ := szRecipe_eq s l 1048576 (by omega) (by omega) hs hl
  rcases h1 with h1 | ⟨h1, h2, h3, h4⟩
  · unfold laws_FnExactScaleRecipe.f
    rw [e1]
    simp only [Option.bind_some]
    rw [if_pos h1]
  have h4' : (l.map toSt).length ≤ 1048576 := by simpa using h4
  have hv : ¬ v < 0 := by omega
  cases ho : okR s (l.map toSt) with
  | false =>
    refine scale_law s l f v (⟨#[]⟩, [], 1) (by simp) e1 hv h4 (fun k hk => ?_)
    obtain ⟨r1, r2⟩ := recipe_eq s (l.map toSt) h4' k (by omega)
    unfold spec_ScaleRecipe.f impl_ScaleRecipe.f
    rw [r1, r2, ho]
    exact ⟨rfl, rfl⟩
  | true =>
    by_cases hf : 50 ≤ f ∧ f ≤ 200
    · have hlen := okR_len ho
      have hvs : ∀ x ∈ l.map toSt, vs x = true := by
        intro x hx
        obtain ⟨i, hi, rfl⟩ := List.getElem_of_mem hx
        exact okR_mem ho i hi
      refine scale_law s l f v (scR s ((l.map toSt).map (sc f))) (by unfold scR; split <;> simp; simp at hlen; omega) e1 hv h4 (fun k hk => ?_)
      obtain ⟨r1, r2⟩ := recipe_eq s (l.map toSt) h4' k (by omega)
      have g1 := specScale hf s (l.map toSt) hlen hvs (l.map toSt).length 0 k (by omega) (by omega)
      have g2 := implScale hf s (l.map toSt) hlen hvs (l.map toSt).length 0 k (by omega) (by omega)
      simp only [List.take_zero, List.map_nil, List.drop_zero, List.nil_append] at g1 g2
      unfold spec_ScaleRecipe.f impl_ScaleRecipe.f impl_Step_60.f
      rw [r1, r2, ho, l00In_eq, within_eq, decide_eq_true hf]
      simp only [Option.bind_some, if_true, List.nil_append, List.length_nil, Nat.zero_add]
      rw [if_pos (by omega), if_pos (by omega)]
      exact ⟨g1, g2⟩
    · refine scale_law s l f v (⟨#[]⟩, [], 2) (by simp) e1 hv h4 (fun k hk => ?_)
      obtain ⟨r1, r2⟩ := recipe_eq s (l.map toSt) h4' k (by omega)
      unfold spec_ScaleRecipe.f impl_ScaleRecipe.f
      rw [r1, r2, ho, l00In_eq, within_eq, decide_eq_false hf]
      exact ⟨rfl, rfl⟩

end Go.Proofs.Yteijbdngbmciaaa.Pure

/- FnExactRecipeTime: the program's RecipeTime returns what the reference's returns, for all arguments; no condition. -/
import Derived.Test.YteijbdngbmciaaaGFnExactRecipeTimex
namespace Go.Proofs.Yteijbdngbmciaaa.Pure
open Go.RowKit Go.Proofs.Yteijbdngbmciaaa.GFnExactRecipeTime Go.Proofs.YteijbdngbmciaaaW.PrintWords Go.Proofs.YteijbdngbmciaaaW.PrintLast
set_option linter.unusedSimpArgs false
set_option linter.unusedVariables false

theorem w64 {x : Int} (h0 : -9223372036854775808 ≤ x) (h1 : x ≤ 9223372036854775807) : wrap64 x = x := by
  unfold wrap64; omega

theorem within_eq (a b c : Int) : impl_within.f a b c = some (decide (b ≤ a ∧ a ≤ c)) := by
  unfold impl_within.f
  by_cases h : a ≥ b
  · rw [if_pos h]; simp [h]
  · rw [if_neg h]; simp; omega

theorem l00In_eq (a b c : Int) : spec_l00In.f a b c = some (decide (b ≤ a ∧ a ≤ c)) := by
  unfold spec_l00In.f
  by_cases h : a ≥ b
  · rw [if_pos h]; simp [h]
  · rw [if_neg h]; simp; omega

/-- a loop over a list: from one state to the next, or out of it -/
def run {α σ β : Type} (st : σ → α → Nat → σ ⊕ β) (en : σ → β) : List α → σ → Nat → β
  | [], s, _ => en s
  | x :: xs, s, i => match st s x i with
    | .inl s' => run st en xs s' (i + 1)
    | .inr r => r

theorem loop_run {α σ β : Type} (xs : List α) (K0 : Nat) (Inv : σ → Nat → Prop) (L : Nat → σ → Int → Option β) (st : σ → α → Nat → σ ⊕ β) (en : σ → β)
    (hs : ∀ (k : Nat) (s : σ) (i : Nat) (h : i < xs.length), K0 ≤ k → Inv s i →
      (∃ s', st s xs[i] i = .inl s' ∧ Inv s' (i + 1) ∧ L (k + 1) s (i : Int) = L k s' ((i + 1 : Nat) : Int)) ∨ (∃ r, st s xs[i] i = .inr r ∧ L (k + 1) s (i : Int) = some r))
    (he : ∀ (k : Nat) (s : σ), K0 ≤ k → Inv s xs.length → L (k + 1) s (xs.length : Int) = some (en s)) :
    ∀ (n i k : Nat) (s : σ), i + n = xs.length → K0 + n < k → Inv s i → L k s (i : Int) = some (run st en (xs.drop i) s i) := by
  intro n
  induction n with
  | zero =>
    intro i k s hi hk hI
    obtain ⟨k, rfl⟩ : ∃ m, k = m + 1 := ⟨k - 1, by omega⟩
    obtain rfl : i = xs.length := by omega
    rw [he k s (by omega) hI, List.drop_length]; rfl
  | succ n ih =>
    intro i k s hi hk hI
    obtain ⟨k, rfl⟩ : ∃ m, k = m + 1 := ⟨k - 1, by omega⟩
    have hlt : i < xs.length := by omega
    rw [List.drop_eq_getElem_cons hlt]
    rcases hs k s i hlt (by omega) hI with ⟨s', h1, h2, h3⟩ | ⟨r, h1, h3⟩
    · rw [h3, ih (i + 1) k s' (by omega) (by omega) h2]
      simp only [run, h1]
    · rw [h3]
      simp only [run, h1]

theorem loop_run0 {α σ β : Type} (xs : List α) (K0 : Nat) (Inv : σ → Nat → Prop) (L : Nat → σ → Int → Option β) (st : σ → α → Nat → σ ⊕ β) (en : σ → β)
    (hs : ∀ (k : Nat) (s : σ) (i : Nat) (h : i < xs.length), K0 ≤ k → Inv s i →
      (∃ s', st s xs[i] i = .inl s' ∧ Inv s' (i + 1) ∧ L (k + 1) s (i : Int) = L k s' ((i + 1 : Nat) : Int)) ∨ (∃ r, st s xs[i] i = .inr r ∧ L (k + 1) s (i : Int) = some r))
    (he : ∀ (k : Nat) (s : σ), K0 ≤ k → Inv s xs.length → L (k + 1) s (xs.length : Int) = some (en s)) (k : Nat) (s : σ) (hk : K0 + xs.length < k) (hI : Inv s 0) :
    L k s 0 = some (run st en xs s 0) := by
  have := loop_run xs K0 Inv L st en hs he xs.length 0 k s (by omega) hk hI
  simpa using this

/-- a row that is made and then filled, element by element -/
theorem loop_map {α β : Type} (xs : List α) (z : β) (c : α → β) (L : Nat → List β → Int → Option (List β))
    (hs : ∀ (k : Nat) (s : List β) (i : Nat) (h : i < xs.length), s.length = xs.length → L (k + 1) s (i : Int) = L k (s.set i (c xs[i])) ((i + 1 : Nat) : Int))
    (he : ∀ (k : Nat) (s : List β), L (k + 1) s (xs.length : Int) = some s) (k : Nat) (hk : xs.length < k) :
    L k (List.replicate xs.length z) 0 = some (xs.map c) := by
  have key : ∀ (n i k : Nat) (s : List β), i + n = xs.length → n < k → s.length = xs.length → s.take i = (xs.map c).take i → L k s (i : Int) = some (xs.map c) := by
    intro n
    induction n with
    | zero =>
      intro i k s hi hk hl ht
      obtain ⟨k, rfl⟩ : ∃ m, k = m + 1 := ⟨k - 1, by omega⟩
      obtain rfl : i = xs.length := by omega
      have h1 : s.take xs.length = s := List.take_of_length_le (by omega)
      rw [he, ← h1, ht, List.take_of_length_le (by simp)]
    | succ n ih =>
      intro i k s hi hk hl ht
      obtain ⟨k, rfl⟩ : ∃ m, k = m + 1 := ⟨k - 1, by omega⟩
      have hlt : i < xs.length := by omega
      rw [hs k s i hlt hl]
      refine ih (i + 1) k _ (by omega) (by omega) (by rw [List.length_set]; exact hl) ?_
      rw [List.take_succ_eq_append_getElem (by rw [List.length_set]; omega), List.take_succ_eq_append_getElem (by rw [List.length_map]; omega), List.take_set_of_le (by omega), ht]
      simp
  have := key xs.length 0 k (List.replicate xs.length z) (by omega) hk (by simp) (by simp)
  simpa using this

theorem wnat {n : Nat} (h : n < 9223372036854775807) : wrap64 ((n : Int) + 1) = ((n + 1 : Nat) : Int) := by
  unfold wrap64; omega

theorem loop_all {β : Type} (n K0 : Nat) (L : Nat → Int → Option β) (r : β) (hs : ∀ (k i : Nat), K0 ≤ k → i < n → L (k + 1) (i : Int) = L k ((i + 1 : Nat) : Int)) (he : ∀ k : Nat, L (k + 1) (n : Int) = some r)
    (k : Nat) (hk : K0 + n < k) : L k 0 = some r := by
  have key : ∀ (m i k : Nat), i + m = n → K0 + m < k → L k (i : Int) = some r := by
    intro m
    induction m with
    | zero =>
      intro i k hi hk
      obtain ⟨k, rfl⟩ : ∃ m, k = m + 1 := ⟨k - 1, by omega⟩
      obtain rfl : i = n := by omega
      exact he k
    | succ m ih =>
      intro i k hi hk
      obtain ⟨k, rfl⟩ : ∃ m, k = m + 1 := ⟨k - 1, by omega⟩
      rw [hs k i (by omega) (by omega)]
      exact ih (i + 1) k (by omega) (by omega)
  simpa using key n 0 k (by omega) hk

theorem all_from {α β : Type} (xs : List α) (K0 : Nat) (p : α → Bool) (r0 r1 : β) (L : Nat → Int → Option β)
    (hs : ∀ (k i : Nat) (h : i < xs.length), K0 ≤ k → L (k + 1) (i : Int) = if p xs[i] = true then L k ((i + 1 : Nat) : Int) else some r0)
    (he : ∀ k : Nat, K0 ≤ k → L (k + 1) (xs.length : Int) = some r1) : ∀ (n i k : Nat), i + n = xs.length → K0 + n < k → L k (i : Int) = some (if (xs.drop i).all p = true then r1 else r0) := by
  intro n
  induction n with
  | zero =>
    intro i k hi hk
    obtain ⟨k, rfl⟩ : ∃ m, k = m + 1 := ⟨k - 1, by omega⟩
    obtain rfl : i = xs.length := by omega
    rw [he k (by omega), List.drop_length]; rfl
  | succ n ih =>
    intro i k hi hk
    obtain ⟨k, rfl⟩ : ∃ m, k = m + 1 := ⟨k - 1, by omega⟩
    have hlt : i < xs.length := by omega
    rw [hs k i hlt (by omega), List.drop_eq_getElem_cons hlt, List.all_cons]
    cases hp : p xs[i] with
    | true => rw [if_pos rfl, ih (i + 1) k (by omega) (by omega), Bool.true_and]
    | false => simp

theorem all_loop {α β : Type} (xs : List α) (K0 : Nat) (p : α → Bool) (r0 r1 : β) (L : Nat → Int → Option β)
    (hs : ∀ (k i : Nat) (h : i < xs.length), K0 ≤ k → L (k + 1) (i : Int) = if p xs[i] = true then L k ((i + 1 : Nat) : Int) else some r0)
    (he : ∀ k : Nat, K0 ≤ k → L (k + 1) (xs.length : Int) = some r1) (k : Nat) (hk : K0 + xs.length < k) : L k 0 = some (if xs.all p = true then r1 else r0) := by
  simpa using all_from xs K0 p r0 r1 L hs he xs.length 0 k (by omega) hk

theorem idx_from {α : Type} (xs : List α) (K0 : Nat) (q : α → Bool) (L : Nat → Int → Option Int)
    (hs : ∀ (k i : Nat) (h : i < xs.length), K0 ≤ k → L (k + 1) (i : Int) = if q xs[i] = true then some (i : Int) else L k ((i + 1 : Nat) : Int))
    (he : ∀ k : Nat, K0 ≤ k → L (k + 1) (xs.length : Int) = some (-1)) : ∀ (n i k : Nat), i + n = xs.length → K0 + n < k → ∃ r, L k (i : Int) = some r ∧ decide (r ≥ 0) = (xs.drop i).any q := by
  intro n
  induction n with
  | zero =>
    intro i k hi hk
    obtain ⟨k, rfl⟩ : ∃ m, k = m + 1 := ⟨k - 1, by omega⟩
    obtain rfl : i = xs.length := by omega
    exact ⟨-1, he k (by omega), by rw [List.drop_length]; rfl⟩
  | succ n ih =>
    intro i k hi hk
    obtain ⟨k, rfl⟩ : ∃ m, k = m + 1 := ⟨k - 1, by omega⟩
    have hlt : i < xs.length := by omega
    rw [hs k i hlt (by omega), List.drop_eq_getElem_cons hlt, List.any_cons]
    cases hp : q xs[i] with
    | true => exact ⟨i, by rw [if_pos rfl], by simp⟩
    | false =>
      obtain ⟨r, h1, h2⟩ := ih (i + 1) k (by omega) (by omega)
      exact ⟨r, by rw [if_neg (by simp)]; exact h1, by rw [h2]; simp⟩

theorem idx_loop {α : Type} (xs : List α) (K0 : Nat) (q : α → Bool) (L : Nat → Int → Option Int)
    (hs : ∀ (k i : Nat) (h : i < xs.length), K0 ≤ k → L (k + 1) (i : Int) = if q xs[i] = true then some (i : Int) else L k ((i + 1 : Nat) : Int))
    (he : ∀ k : Nat, K0 ≤ k → L (k + 1) (xs.length : Int) = some (-1)) (k : Nat) (hk : K0 + xs.length < k) : ∃ r, L k 0 = some r ∧ decide (r ≥ 0) = xs.any q := by
  simpa using idx_from xs K0 q L hs he xs.length 0 k (by omega) hk

theorem any_not {α : Type} (l : List α) (p : α → Bool) : l.any (fun x => !p x) = !l.all p := by
  induction l with
  | nil => rfl
  | cons x l ih => rw [List.any_cons, List.all_cons, ih]; cases p x <;> simp

theorem rd36 (xs : List S36) (i : Nat) (h : i < xs.length) : rd_T36 xs (i : Int) = xs[i] := by
  unfold rd_T36; simp [List.getD, h]
theorem rd38 (xs : List S38) (i : Nat) (h : i < xs.length) : rd_T38 xs (i : Int) = xs[i] := by
  unfold rd_T38; simp [List.getD, h]

def toSt (x : S36) : S38 := ⟨x.f0, x.f1, x.f2⟩

theorem toStepS_eq (l : List S36) (hl : l.length ≤ 1048576) (k : Nat) (hk : l.length < k) : laws_toStepS.f k l = some (l.map toSt) := by
  unfold laws_toStepS.f
  rw [if_pos (by omega), if_pos (by omega), show ((l.length : Int)).toNat = l.length by omega]
  refine loop_map l z38 toSt (fun k s i => laws_toStepS.l0 k l s i) ?_ ?_ k hk
  · intro k s i h hs
    simp only [laws_toStepS.l0]
    rw [if_pos (by omega), if_pos (by omega), rd36 l i h]
    unfold laws_toStep.f
    simp only [Option.bind_some]
    rw [if_pos (by omega), wnat (by omega)]
    rfl
  · intro k s
    simp only [laws_toStepS.l0]
    rw [if_neg (by omega)]

theorem eqStepS_eq (l : List S38) (hl : l.length ≤ 1048576) (k : Nat) (hk : l.length < k) : laws_eqStepS.f k l l = some true := by
  unfold laws_eqStepS.f
  rw [if_pos rfl]
  refine loop_all l.length 0 (fun k i => laws_eqStepS.l0 k l l i) true ?_ ?_ k (by omega)
  · intro k i _ h
    simp only [laws_eqStepS.l0]
    rw [if_pos (by omega), if_pos (by omega), if_pos (by omega)]
    unfold laws_eqStep.f
    simp only [if_true, Option.bind_some]
    rw [wnat (by omega)]
  · intro k
    simp only [laws_eqStepS.l0]
    rw [if_neg (by omega)]

theorem szStepS_eq (l : List S36) (a : Int) (ha : 0 ≤ a) (ha2 : a ≤ 1048576) (hl : l.length ≤ maxLen) : laws_szStepS.f l a = some (if a < l.length then -1 else a - l.length) := by
  unfold maxLen at hl
  unfold laws_szStepS.f
  rw [w64 (x := a - l.length) (by omega) (by omega)]
  by_cases h : a < l.length
  · rw [if_pos (by omega), if_pos h]
  · rw [if_neg (by omega), if_neg h]

theorem szRecipe_eq (s : ByteArray) (l : List S36) (a : Int) (ha : 0 ≤ a) (ha2 : a ≤ 1048576) (hs : s.size ≤ maxLen) (hl : l.length ≤ maxLen) :
    ∃ v, laws_szRecipe.f s l a = some v ∧ (v < 0 ∨ 0 ≤ v ∧ v ≤ a ∧ s.size ≤ 1048576 ∧ l.length ≤ 1048576) := by
  unfold maxLen at hs
  unfold laws_szRecipe.f
  rw [w64 (x := a - s.size) (by omega) (by omega)]
  by_cases h : a - s.size < 0
  · rw [if_pos h]; exact ⟨_, rfl, .inl (by omega)⟩
  · rw [if_neg h, szStepS_eq l _ (by omega) (by omega) hl]
    simp only [Option.bind_some]
    by_cases h2 : a - s.size < l.length
    · rw [if_pos h2, if_pos (by omega)]; exact ⟨_, rfl, .inl (by omega)⟩
    · rw [if_neg h2, if_neg (by omega)]; exact ⟨_, rfl, .inr ⟨by omega, by omega, by omega, by omega⟩⟩

theorem bt_byte (s : ByteArray) (i : Int) : 0 ≤ bt s i ∧ bt s i ≤ 255 := by
  unfold bt
  split
  · have := (s[i.toNat]'(by assumption)).toNat_lt; omega
  · omega

/-- a letter or a digit of a name -/
def nmC (c : Int) : Bool := decide (97 ≤ c ∧ c ≤ 122 ∨ 48 ≤ c ∧ c ≤ 57)

theorem nil_iff (s : ByteArray) : s.toList = [] ↔ s.size = 0 := by
  rw [ByteArray.toList_eq]
  constructor
  · intro h
    have : s.data.toList.length = 0 := by rw [h]; rfl
    rw [Array.length_toList] at this; exact this
  · intro h
    apply List.eq_nil_of_length_eq_zero
    rw [Array.length_toList]; exact h

theorem small_eq (c : Int) : spec_l01Small.f c = some (decide (97 ≤ c ∧ c ≤ 122)) := by
  unfold spec_l01Small.f
  by_cases h : c ≥ 97
  · rw [if_pos h]; simp [h]
  · rw [if_neg h]; simp; omega
theorem digit_eq (c : Int) : spec_l01Digit.f c = some (decide (48 ≤ c ∧ c ≤ 57)) := by
  unfold spec_l01Digit.f
  by_cases h : c ≥ 48
  · rw [if_pos h]; simp [h]
  · rw [if_neg h]; simp; omega

theorem name_loop (s : ByteArray) (hs : s.size ≤ 10) : ∀ (n i k : Nat), i + n = s.size → n < k →
    ∃ b, spec_l01Name.l0 k s (i : Int) = some b ∧ impl_IsName.l0 k s (i : Int) = some b := by
  intro n
  induction n with
  | zero =>
    intro i k hi hk
    obtain ⟨k, rfl⟩ : ∃ m, k = m + 1 := ⟨k - 1, by omega⟩
    simp only [spec_l01Name.l0, impl_IsName.l0]
    exact ⟨true, by rw [if_neg (by omega)], by rw [if_neg (by omega)]⟩
  | succ n ih =>
    intro i k hi hk
    obtain ⟨k, rfl⟩ : ∃ m, k = m + 1 := ⟨k - 1, by omega⟩
    obtain ⟨b, e1, e2⟩ := ih (i + 1) k (by omega) (by omega)
    have hw : wrap64 ((i : Int) + 1) = ((i + 1 : Nat) : Int) := wnat (by omega)
    have a1 : (i : Int) < (s.size : Int) := by omega
    have a2 : (0 : Int) ≤ (i : Int) := by omega
    simp only [spec_l01Name.l0, impl_IsName.l0, small_eq, digit_eq, Option.bind_some, decide_eq_true_eq, a1, a2, if_true, hw, e1, e2]
    generalize bt s (i : Int) = c
    by_cases h1 : c < 97
    · by_cases h2 : c < 48
      · exact ⟨false, by simp [h1, h2, show ¬ (97 ≤ c ∧ c ≤ 122) by omega, show ¬ (48 ≤ c ∧ c ≤ 57) by omega], by simp [h1, h2]⟩
      · by_cases h3 : c > 57
        · exact ⟨false, by simp [show ¬ (97 ≤ c ∧ c ≤ 122) by omega, show ¬ (48 ≤ c ∧ c ≤ 57) by omega], by simp [h1, h2, h3]⟩
        · exact ⟨b, by simp [show ¬ (97 ≤ c ∧ c ≤ 122) by omega, show (48 ≤ c ∧ c ≤ 57) by omega], by simp [h1, h2, h3]⟩
    · by_cases h4 : c > 122
      · exact ⟨false, by simp [show ¬ (97 ≤ c ∧ c ≤ 122) by omega, show ¬ (48 ≤ c ∧ c ≤ 57) by omega], by simp [h1, h4, show ¬ (c < 48) by omega, show c > 57 by omega]⟩
      · exact ⟨b, by simp [show (97 ≤ c ∧ c ≤ 122) by omega], by simp [h1, h4]⟩

theorem name_eq (s : ByteArray) : ∃ b : Bool, (∀ k, 13 ≤ k → spec_l01Name.f k s = some b ∧ impl_IsName.f k s = some b) := by
  have fin : ∃ b : Bool, spec_l01Name.f 13 s = some b ∧ impl_IsName.f 13 s = some b := by
    unfold spec_l01Name.f impl_IsName.f
    by_cases h0 : s.size = 0
    · exact ⟨false, by simp [(nil_iff s).2 h0, spec_l01Name.j0], by simp [show (s.size : Int) < 1 by omega, impl_IsName.j0]⟩
    · have n0 : ¬ s.toList = [] := fun h => h0 ((nil_iff s).1 h)
      have n1 : ¬ (s.size : Int) < 1 := by omega
      by_cases h1 : (s.size : Int) > 10
      · exact ⟨false, by simp [n0, h1, spec_l01Name.j0], by simp [n1, h1, impl_IsName.j0]⟩
      · have n2 : (0 : Int) < (s.size : Int) := by omega
        simp only [n0, n1, h1, n2, if_true, if_false, small_eq, Option.bind_some]
        obtain ⟨b, e1, e2⟩ := name_loop s (by omega) s.size 0 12 (by omega) (by omega)
        have e1' : spec_l01Name.l0 12 s 0 = some b := e1
        have e2' : impl_IsName.l0 12 s 0 = some b := e2
        generalize bt s 0 = c
        by_cases h2 : c < 97
        · exact ⟨false, by simp [spec_l01Name.j0, show ¬ (97 ≤ c ∧ c ≤ 122) by omega], by simp [impl_IsName.j0, h2]⟩
        · by_cases h3 : c > 122
          · exact ⟨false, by simp [spec_l01Name.j0, show ¬ (97 ≤ c ∧ c ≤ 122) by omega], by simp [impl_IsName.j0, h2, h3]⟩
          · exact ⟨b, by simp [spec_l01Name.j0, show (97 ≤ c ∧ c ≤ 122) by omega, e1'], by simp [impl_IsName.j0, h2, show ¬ (c > 122) by omega, e2']⟩
  obtain ⟨b, e1, e2⟩ := fin
  exact ⟨b, fun k hk => ⟨at_rounds (g := fun k => spec_l01Name.f k s) (fun k => spec_l01Name.mono s k) hk e1, at_rounds (g := fun k => impl_IsName.f k s) (fun k => impl_IsName.mono s k) hk e2⟩⟩

theorem step_eq (x : S38) : ∃ b : Bool, spec_l21Step.f [x] = some b ∧ impl_ValidStep.f x.f0 x.f1 x.f2 = some b ∧
    (b = true → (x.f0 = 1 ∧ 100 ≤ x.f1 ∧ x.f1 ≤ 300 ∧ 0 ≤ x.f2 ∧ x.f2 ≤ 600) ∨ (x.f0 = 2 ∧ 0 ≤ x.f1 ∧ x.f1 ≤ 100 ∧ 0 ≤ x.f2 ∧ x.f2 ≤ 100) ∨ (x.f0 = 3 ∧ 0 ≤ x.f1 ∧ x.f1 ≤ 600 ∧ x.f2 = 0)) := by
  have r : rd_T38 [x] 0 = x := rfl
  unfold impl_ValidStep.f spec_l21Step.f spec_l21Heat.f
  simp only [Option.bind_some, within_eq, l00In_eq, r, List.length_cons, List.length_nil]
  generalize x.f0 = a
  generalize x.f1 = b
  generalize x.f2 = c
  by_cases h1 : a = 1
  · subst h1
    refine ⟨decide (100 ≤ b ∧ b ≤ 300) && decide (0 ≤ c ∧ c ≤ 600), ?_, ?_, ?_⟩
    · by_cases g1 : 100 ≤ b ∧ b ≤ 300 <;> by_cases g2 : 0 ≤ c ∧ c ≤ 600 <;> simp [g1, g2]
    · by_cases g1 : 100 ≤ b ∧ b ≤ 300 <;> by_cases g2 : 0 ≤ c ∧ c ≤ 600 <;> simp [g1, g2]
    · simp; omega
  · by_cases h2 : a = 2
    · subst h2
      refine ⟨decide (0 ≤ b ∧ b ≤ 100) && decide (0 ≤ c ∧ c ≤ 100), ?_, ?_, ?_⟩
      · by_cases g1 : 0 ≤ b ∧ b ≤ 100 <;> by_cases g2 : 0 ≤ c ∧ c ≤ 100 <;> simp [g1, g2]
      · by_cases g1 : 0 ≤ b ∧ b ≤ 100 <;> by_cases g2 : 0 ≤ c ∧ c ≤ 100 <;> simp [g1, g2]
      · simp; omega
    · by_cases h3 : a = 3
      · subst h3
        refine ⟨decide (0 ≤ b ∧ b ≤ 600) && decide (c = 0), ?_, ?_, ?_⟩
        · by_cases g1 : 0 ≤ b ∧ b ≤ 600 <;> by_cases g2 : c = 0 <;> simp [g1, g2]
        · by_cases g1 : 0 ≤ b ∧ b ≤ 600 <;> by_cases g2 : c = 0 <;> simp [g1, g2]
        · simp; omega
      · exact ⟨false, by simp [h1, h2, h3], by simp [h1, h2, h3], by simp⟩

def vs (x : S38) : Bool := impl_ValidStep.f x.f0 x.f1 x.f2 == some true

theorem vs_spec (x : S38) : spec_l21Step.f [x] = some (vs x) ∧ impl_ValidStep.f x.f0 x.f1 x.f2 = some (vs x) ∧
    (vs x = true → (x.f0 = 1 ∧ 100 ≤ x.f1 ∧ x.f1 ≤ 300 ∧ 0 ≤ x.f2 ∧ x.f2 ≤ 600) ∨ (x.f0 = 2 ∧ 0 ≤ x.f1 ∧ x.f1 ≤ 100 ∧ 0 ≤ x.f2 ∧ x.f2 ≤ 100) ∨ (x.f0 = 3 ∧ 0 ≤ x.f1 ∧ x.f1 ≤ 600 ∧ x.f2 = 0)) := by
  obtain ⟨b, e1, e2, e3⟩ := step_eq x
  have e : vs x = b := by unfold vs; rw [e2]; cases b <;> rfl
  rw [e]; exact ⟨e1, e2, e3⟩

def nmB (s : ByteArray) : Bool := impl_IsName.f 13 s == some true

theorem nm_spec (s : ByteArray) (k : Nat) (hk : 13 ≤ k) : spec_l01Name.f k s = some (nmB s) ∧ impl_IsName.f k s = some (nmB s) := by
  obtain ⟨b, hb⟩ := name_eq s
  have e : nmB s = b := by unfold nmB; rw [(hb 13 (Nat.le_refl _)).2]; cases b <;> rfl
  rw [e]; exact hb k hk

def okS (l : List S38) : Bool := l.all vs && decide (l.length ≤ 8)
def okR (s : ByteArray) (l : List S38) : Bool := nmB s && okS l

theorem specSteps (l : List S38) (hl : l.length ≤ 1048576) (k : Nat) (hk : l.length + 20 < k) : spec_l21Steps.f k l = some (okS l) := by
  unfold spec_l21Steps.f okS
  rw [all_loop l 0 vs false (decide (l.length ≤ 8)) (fun k i => spec_l21Steps.l0 k l i) ?_ ?_ k (by omega)]
  · cases l.all vs <;> simp
  · intro k i hi _
    simp only [spec_l21Steps.l0]
    rw [if_pos (by omega), if_pos (by omega), rd38 l i hi, wnat (by omega), (vs_spec l[i]).1]
    simp only [Option.bind_some]
  · intro k _
    simp only [spec_l21Steps.l0]
    rw [if_neg (by omega)]
    simp; omega

theorem implSteps (l : List S38) (hl : l.length ≤ 1048576) (k : Nat) (hk : l.length + 20 < k) : impl_validSteps.f k l = some (okS l) := by
  unfold impl_validSteps.f okS
  by_cases h : (l.length : Int) ≤ 8
  · rw [if_pos h]
    unfold fi66_67.f fi80_67.f
    obtain ⟨r, h1, h2⟩ := idx_loop l 0 (fun x => !vs x) (fun k i => fi80_67.l0 k l (l.length : Int) i) (by
      intro k i hi _
      simp only [fi80_67.l0]
      rw [if_pos (by omega), if_pos (by omega), if_pos (by omega), rd38 l i hi, wnat (by omega)]
      unfold impl_validSteps_1.f
      rw [(vs_spec l[i]).2.1]
      simp only [Option.bind_some]) (by
      intro k _
      simp only [fi80_67.l0]
      rw [if_neg (by omega)]) k (by omega)
    rw [h1]
    simp only [Option.bind_some]
    rw [h2, any_not]
    simp; omega
  · rw [if_neg h]; simp; omega

theorem recipe_eq (s : ByteArray) (l : List S38) (hl : l.length ≤ 1048576) (k : Nat) (hk : l.length + 30 < k) : spec_l21Ok.f k [(⟨s, l⟩ : S29)] = some (okR s l) ∧ impl_ValidRecipe.f k s l = some (okR s l) := by
  have r : rd_T29 [(⟨s, l⟩ : S29)] 0 = ⟨s, l⟩ := rfl
  unfold spec_l21Ok.f impl_ValidRecipe.f okR
  rw [if_pos (by simp), r, (nm_spec s k (by omega)).1, (nm_spec s k (by omega)).2]
  simp only [Option.bind_some, specSteps l hl k (by omega), implSteps l hl k (by omega)]
  cases nmB s <;> simp

theorem okR_mem {s : ByteArray} {l : List S38} (h : okR s l = true) (i : Nat) (hi : i < l.length) : vs l[i] = true := by
  unfold okR okS at h
  rw [Bool.and_eq_true, Bool.and_eq_true, List.all_eq_true] at h
  exact h.2.1 _ (List.getElem_mem hi)
theorem okR_len {s : ByteArray} {l : List S38} (h : okR s l = true) : l.length ≤ 8 := by
  unfold okR okS at h
  rw [Bool.and_eq_true, Bool.and_eq_true, decide_eq_true_eq] at h
  exact h.2.2

theorem toRecipe_eq (s : ByteArray) (l : List S36) (hl : l.length ≤ 1048576) (k : Nat) (hk : l.length < k) : laws_toRecipe.f k s l = some (s, l.map toSt) := by
  unfold laws_toRecipe.f
  rw [toStepS_eq l hl k hk]; rfl
theorem eqRecipe_eq (s : ByteArray) (l : List S38) (hl : l.length ≤ 1048576) (k : Nat) (hk : l.length < k) : laws_eqRecipe.f k s l s l = some true := by
  unfold laws_eqRecipe.f
  simp [eqStepS_eq l hl k hk]

def tmOf (x : S38) : Int := if x.f0 = 1 then x.f2 + 60 else if x.f0 = 2 then 1800 else x.f1 + 3600

theorem time_loops (s : ByteArray) (l : List S38) (ho : okR s l = true) : ∀ (n i : Nat) (t : Int), i + n = l.length → 0 ≤ t → t ≤ 10000 * i →
    ∃ r, ∀ k, n < k → spec_RecipeTime.l0 k t (i : Int) s l = some (r, 0) ∧ impl_RecipeTime.l0 k t l (l.length : Int) (i : Int) = some (r, 0) := by
  have hlen := okR_len ho
  intro n
  induction n with
  | zero =>
    intro i t hi h0 h1
    refine ⟨t, fun k hk => ?_⟩
    obtain ⟨k, rfl⟩ : ∃ m, k = m + 1 := ⟨k - 1, by omega⟩
    simp only [spec_RecipeTime.l0, impl_RecipeTime.l0]
    have a1 : ¬ (i : Int) < (l.length : Int) := by omega
    simp only [a1, if_false, and_self]
  | succ n ih =>
    intro i t hi h0 h1
    have hlt : i < l.length := by omega
    have hv := (vs_spec l[i]).2.2 (okR_mem ho i hlt)
    have hb : 60 ≤ tmOf l[i] ∧ tmOf l[i] ≤ 4200 := by
      unfold tmOf
      split
      · omega
      · split <;> omega
    obtain ⟨r, hr⟩ := ih (i + 1) (t + tmOf l[i]) (by omega) (by omega) (by omega)
    refine ⟨r, fun k hk => ?_⟩
    obtain ⟨k, rfl⟩ : ∃ m, k = m + 1 := ⟨k - 1, by omega⟩
    obtain ⟨q1, q2⟩ := hr k (by omega)
    have a1 : (i : Int) < (l.length : Int) := by omega
    have a2 : (0 : Int) ≤ (i : Int) := by omega
    have r0 : rd_T38 [l[i]] 0 = l[i] := rfl
    simp only [spec_RecipeTime.l0, impl_RecipeTime.l0, a1, a2, if_true, rd38 l i hlt, wnat (n := i) (by omega)]
    unfold spec_l21Time.f
    rw [if_pos (by simp), r0]
    unfold tmOf at q1 q2 hb
    generalize l[i] = x at *
    by_cases c1 : x.f0 = 1
    · simp only [c1, if_true, Option.bind_some] at *
      rw [w64 (x := x.f2 + 60) (by omega) (by omega), w64 (x := t + (x.f2 + 60)) (by omega) (by omega)]
      exact ⟨q1, q2⟩
    · by_cases c2 : x.f0 = 2
      · simp only [c2, if_true, Option.bind_some, show ¬ ((2 : Int) = 1) by omega, if_false] at *
        rw [w64 (x := t + 1800) (by omega) (by omega)]
        exact ⟨q1, q2⟩
      · have c3 : x.f0 = 3 := by omega
        simp only [c3, if_true, Option.bind_some, show ¬ ((3 : Int) = 1) by omega, show ¬ ((3 : Int) = 2) by omega, if_false] at *
        rw [w64 (x := x.f1 + 3600) (by omega) (by omega), w64 (x := t + (x.f1 + 3600)) (by omega) (by omega)]
        exact ⟨q1, q2⟩

theorem FnExactRecipeTime : laws_FnExactRecipeTime.Pure := by
  intro s l ⟨hs, hl, _⟩
  obtain ⟨k, hk⟩ : ∃ k : Nat, k = 1049200 := ⟨_, rfl⟩
  refine ⟨k + 1, ?_⟩
  unfold laws_FnExactRecipeTime.f
  obtain ⟨v, e1, h1⟩ := szRecipe_eq s l 1048576 (by omega) (by omega) hs hl
  rw [e1]
  simp only [Option.bind_some]
  rcases h1 with h1 | ⟨h1, h2, h3, h4⟩
  · rw [if_pos h1]
  rw [if_neg (by omega), toRecipe_eq s l h4 (k + 1) (by omega)]
  simp only [Option.bind_some]
  have h4' : (l.map toSt).length ≤ 1048576 := by simpa using h4
  obtain ⟨r1, r2⟩ := recipe_eq s (l.map toSt) h4' (k + 1) (by simp; omega)
  have hj : laws_FnExactRecipeTime.j0 (k + 1) false s l s (l.map toSt) = some true := by
    simp only [laws_FnExactRecipeTime.j0]
    rw [toRecipe_eq s l h4 k (by omega)]
    simp [eqRecipe_eq s (l.map toSt) h4' k (by simp; omega)]
  unfold spec_RecipeTime.f impl_RecipeTime.f
  rw [r1, r2]
  simp only [Option.bind_some]
  cases ho : okR s (l.map toSt) with
  | false => simp [hj]
  | true =>
    obtain ⟨r, hr⟩ := time_loops s (l.map toSt) ho (l.map toSt).length 0 0 (by omega) (by omega) (by omega)
    obtain ⟨q1, q2⟩ := hr (k + 1) (by simp; omega)
    simp only [Int.natCast_zero] at q1 q2
    rw [if_pos rfl, if_pos rfl, q1, q2]
    simp [hj]

end Go.Proofs.Yteijbdngbmciaaa.Pure

/- FnExactRecipeShades: the program's RecipeShades returns what the reference's returns, for all arguments; no condition. -/
import Derived.Test.YteijbdngbmciaaaGFnExactRecipeShadesx
namespace Go.Proofs.Yteijbdngbmciaaa.Pure
open Go.RowKit Go.Proofs.Yteijbdngbmciaaa.GFnExactRecipeShades Go.Proofs.YteijbdngbmciaaaW.PrintWords Go.Proofs.YteijbdngbmciaaaW.PrintLast
set_option linter.unusedSimpArgs false
set_option linter.unusedVariables false

theorem w64 {x : Int} (h0 : -9223372036854775808 ≤ x) (h1 : x ≤ 9223372036854775807) : wrap64 x = x := by
  unfold wrap64; omega

theorem within_eq (a b c : Int) : impl_within.f a b c = some (decide (b ≤ a ∧ a ≤ c)) := by
  unfold impl_within.f
  by_cases h : a ≥ b
  · rw [if_pos h]; simp [h]
  · rw [if_neg h]; simp; omega

theorem l00In_eq (a b c : Int) : spec_l00In.f a b c = some (decide (b ≤ a ∧ a ≤ c)) := by
  unfold spec_l00In.f
  by_cases h : a ≥ b
  · rw [if_pos h]; simp [h]
  · rw [if_neg h]; simp; omega

/-- a loop over a list: from one state to the next, or out of it -/
def run {α σ β : Type} (st : σ → α → Nat → σ ⊕ β) (en : σ → β) : List α → σ → Nat → β
  | [], s, _ => en s
  | x :: xs, s, i => match st s x i with
    | .inl s' => run st en xs s' (i + 1)
    | .inr r => r

theorem loop_run {α σ β : Type} (xs : List α) (K0 : Nat) (Inv : σ → Nat → Prop) (L : Nat → σ → Int → Option β) (st : σ → α → Nat → σ ⊕ β) (en : σ → β)
    (hs : ∀ (k : Nat) (s : σ) (i : Nat) (h : i < xs.length), K0 ≤ k → Inv s i →
      (∃ s', st s xs[i] i = .inl s' ∧ Inv s' (i + 1) ∧ L (k + 1) s (i : Int) = L k s' ((i + 1 : Nat) : Int)) ∨ (∃ r, st s xs[i] i = .inr r ∧ L (k + 1) s (i : Int) = some r))
    (he : ∀ (k : Nat) (s : σ), K0 ≤ k → Inv s xs.length → L (k + 1) s (xs.length : Int) = some (en s)) :
    ∀ (n i k : Nat) (s : σ), i + n = xs.length → K0 + n < k → Inv s i → L k s (i : Int) = some (run st en (xs.drop i) s i) := by
  intro n
  induction n with
  | zero =>
    intro i k s hi hk hI
    obtain ⟨k, rfl⟩ : ∃ m, k = m + 1 := ⟨k - 1, by omega⟩
    obtain rfl : i = xs.length := by omega
    rw [he k s (by omega) hI, List.drop_length]; rfl
  | succ n ih =>
    intro i k s hi hk hI
    obtain ⟨k, rfl⟩ : ∃ m, k = m + 1 := ⟨k - 1, by omega⟩
    have hlt : i < xs.length := by omega
    rw [List.drop_eq_getElem_cons hlt]
    rcases hs k s i hlt (by omega) hI with ⟨s', h1, h2, h3⟩ | ⟨r, h1, h3⟩
    · rw [h3, ih (i + 1) k s' (by omega) (by omega) h2]
      simp only [run, h1]
    · rw [h3]
      simp only [run, h1]

theorem loop_run0 {α σ β : Type} (xs : List α) (K0 : Nat) (Inv : σ → Nat → Prop) (L : Nat → σ → Int → Option β) (st : σ → α → Nat → σ ⊕ β) (en : σ → β)
    (hs : ∀ (k : Nat) (s : σ) (i : Nat) (h : i < xs.length), K0 ≤ k → Inv s i →
      (∃ s', st s xs[i] i = .inl s' ∧ Inv s' (i + 1) ∧ L (k + 1) s (i : Int) = L k s' ((i + 1 : Nat) : Int)) ∨ (∃ r, st s xs[i] i = .inr r ∧ L (k + 1) s (i : Int) = some r))
    (he : ∀ (k : Nat) (s : σ), K0 ≤ k → Inv s xs.length → L (k + 1) s (xs.length : Int) = some (en s)) (k : Nat) (s : σ) (hk : K0 + xs.length < k) (hI : Inv s 0) :
    L k s 0 = some (run st en xs s 0) := by
  have := loop_run xs K0 Inv L st en hs he xs.length 0 k s (by omega) hk hI
  simpa using this

/-- a row that is made and then filled, element by element -/
theorem loop_map {α β : Type} (xs : List α) (z : β) (c : α → β) (L : Nat → List β → Int → Option (List β))
    (hs : ∀ (k : Nat) (s : List β) (i : Nat) (h : i < xs.length), s.length = xs.length → L (k + 1) s (i : Int) = L k (s.set i (c xs[i])) ((i + 1 : Nat) : Int))
    (he : ∀ (k : Nat) (s : List β), L (k + 1) s (xs.length : Int) = some s) (k : Nat) (hk : xs.length < k) :
    L k (List.replicate xs.length z) 0 = some (xs.map c) := by
  have key : ∀ (n i k : Nat) (s : List β), i + n = xs.length → n < k → s.length = xs.length → s.take i = (xs.map c).take i → L k s (i : Int) = some (xs.map c) := by
    intro n
    induction n with
    | zero =>
      intro i k s hi hk hl ht
      obtain ⟨k, rfl⟩ : ∃ m, k = m + 1 := ⟨k - 1, by omega⟩
      obtain rfl : i = xs.length := by omega
      have h1 : s.take xs.length = s := List.take_of_length_le (by omega)
      rw [he, ← h1, ht, List.take_of_length_le (by simp)]
    | succ n ih =>
      intro i k s hi hk hl ht
      obtain ⟨k, rfl⟩ : ∃ m, k = m + 1 := ⟨k - 1, by omega⟩
      have hlt : i < xs.length := by omega
      rw [hs k s i hlt hl]
      refine ih (i + 1) k _ (by omega) (by omega) (by rw [List.length_set]; exact hl) ?_
      rw [List.take_succ_eq_append_getElem (by rw [List.length_set]; omega), List.take_succ_eq_append_getElem (by rw [List.length_map]; omega), List.take_set_of_le (by omega), ht]
      simp
  have := key xs.length 0 k (List.replicate xs.length z) (by omega) hk (by simp) (by simp)
  simpa using this

theorem wnat {n : Nat} (h : n < 9223372036854775807) : wrap64 ((n : Int) + 1) = ((n + 1 : Nat) : Int) := by
  unfold wrap64; omega

theorem loop_all {β : Type} (n K0 : Nat) (L : Nat → Int → Option β) (r : β) (hs : ∀ (k i : Nat), K0 ≤ k → i < n → L (k + 1) (i : Int) = L k ((i + 1 : Nat) : Int)) (he : ∀ k : Nat, L (k + 1) (n : Int) = some r)
    (k : Nat) (hk : K0 + n < k) : L k 0 = some r := by
  have key : ∀ (m i k : Nat), i + m = n → K0 + m < k → L k (i : Int) = some r := by
    intro m
    induction m with
    | zero =>
      intro i k hi hk
      obtain ⟨k, rfl⟩ : ∃ m, k = m + 1 := ⟨k - 1, by omega⟩
      obtain rfl : i = n := by omega
      exact he k
    | succ m ih =>
      intro i k hi hk
      obtain ⟨k, rfl⟩ : ∃ m, k = m + 1 := ⟨k - 1, by omega⟩
      rw [hs k i (by omega) (by omega)]
      exact ih (i + 1) k (by omega) (by omega)
  simpa using key n 0 k (by omega) hk

theorem all_from {α β : Type} (xs : List α) (K0 : Nat) (p : α → Bool) (r0 r1 : β) (L : Nat → Int → Option β)
    (hs : ∀ (k i : Nat) (h : i < xs.length), K0 ≤ k → L (k + 1) (i : Int) = if p xs[i] = true then L k ((i + 1 : Nat) : Int) else some r0)
    (he : ∀ k : Nat, K0 ≤ k → L (k + 1) (xs.length : Int) = some r1) : ∀ (n i k : Nat), i + n = xs.length → K0 + n < k → L k (i : Int) = some (if (xs.drop i).all p = true then r1 else r0) := by
  intro n
  induction n with
  | zero =>
    intro i k hi hk
    obtain ⟨k, rfl⟩ : ∃ m, k = m + 1 := ⟨k - 1, by omega⟩
    obtain rfl : i = xs.length := by omega
    rw [he k (by omega), List.drop_length]; rfl
  | succ n ih =>
    intro i k hi hk
    obtain ⟨k, rfl⟩ : ∃ m, k = m + 1 := ⟨k - 1, by omega⟩
    have hlt : i < xs.length := by omega
    rw [hs k i hlt (by omega), List.drop_eq_getElem_cons hlt, List.all_cons]
    cases hp : p xs[i] with
    | true => rw [if_pos rfl, ih (i + 1) k (by omega) (by omega), Bool.true_and]
    | false => simp

theorem all_loop {α β : Type} (xs : List α) (K0 : Nat) (p : α → Bool) (r0 r1 : β) (L : Nat → Int → Option β)
    (hs : ∀ (k i : Nat) (h : i < xs.length), K0 ≤ k → L (k + 1) (i : Int) = if p xs[i] = true then L k ((i + 1 : Nat) : Int) else some r0)
    (he : ∀ k : Nat, K0 ≤ k → L (k + 1) (xs.length : Int) = some r1) (k : Nat) (hk : K0 + xs.length < k) : L k 0 = some (if xs.all p = true then r1 else r0) := by
  simpa using all_from xs K0 p r0 r1 L hs he xs.length 0 k (by omega) hk

theorem idx_from {α : Type} (xs : List α) (K0 : Nat) (q : α → Bool) (L : Nat → Int → Option Int)
    (hs : ∀ (k i : Nat) (h : i < xs.length), K0 ≤ k → L (k + 1) (i : Int) = if q xs[i] = true then some (i : Int) else L k ((i + 1 : Nat) : Int))
    (he : ∀ k : Nat, K0 ≤ k → L (k + 1) (xs.length : Int) = some (-1)) : ∀ (n i k : Nat), i + n = xs.length → K0 + n < k → ∃ r, L k (i : Int) = some r ∧ decide (r ≥ 0) = (xs.drop i).any q := by
  intro n
  induction n with
  | zero =>
    intro i k hi hk
    obtain ⟨k, rfl⟩ : ∃ m, k = m + 1 := ⟨k - 1, by omega⟩
    obtain rfl : i = xs.length := by omega
    exact ⟨-1, he k (by omega), by rw [List.drop_length]; rfl⟩
  | succ n ih =>
    intro i k hi hk
    obtain ⟨k, rfl⟩ : ∃ m, k = m + 1 := ⟨k - 1, by omega⟩
    have hlt : i < xs.length := by omega
    rw [hs k i hlt (by omega), List.drop_eq_getElem_cons hlt, List.any_cons]
    cases hp : q xs[i] with
    | true => exact ⟨i, by rw [if_pos rfl], by simp⟩
    | false =>
      obtain ⟨r, h1, h2⟩ := ih (i + 1) k (by omega) (by omega)
      exact ⟨r, by rw [if_neg (by simp)]; exact h1, by rw [h2]; simp⟩

theorem idx_loop {α : Type} (xs : List α) (K0 : Nat) (q : α → Bool) (L : Nat → Int → Option Int)
    (hs : ∀ (k i : Nat) (h : i < xs.length), K0 ≤ k → L (k + 1) (i : Int) = if q xs[i] = true then some (i : Int) else L k ((i + 1 : Nat) : Int))
    (he : ∀ k : Nat, K0 ≤ k → L (k + 1) (xs.length : Int) = some (-1)) (k : Nat) (hk : K0 + xs.length < k) : ∃ r, L k 0 = some r ∧ decide (r ≥ 0) = xs.any q := by
  simpa using idx_from xs K0 q L hs he xs.length 0 k (by omega) hk

theorem any_not {α : Type} (l : List α) (p : α → Bool) : l.any (fun x => !p x) = !l.all p := by
  induction l with
  | nil => rfl
  | cons x l ih => rw [List.any_cons, List.all_cons, ih]; cases p x <;> simp

theorem rd36 (xs : List S36) (i : Nat) (h : i < xs.length) : rd_T36 xs (i : Int) = xs[i] := by
  unfold rd_T36; simp [List.getD, h]
theorem rd38 (xs : List S38) (i : Nat) (h : i < xs.length) : rd_T38 xs (i : Int) = xs[i] := by
  unfold rd_T38; simp [List.getD, h]

def toSt (x : S36) : S38 := ⟨x.f0, x.f1, x.f2⟩

theorem toStepS_eq (l : List S36) (hl : l.length ≤ 1048576) (k : Nat) (hk : l.length < k) : laws_toStepS.f k l = some (l.map toSt) := by
  unfold laws_toStepS.f
  rw [if_pos (by omega), if_pos (by omega), show ((l.length : Int)).toNat = l.length by omega]
  refine loop_map l z38 toSt (fun k s i => laws_toStepS.l0 k l s i) ?_ ?_ k hk
  · intro k s i h hs
    simp only [laws_toStepS.l0]
    rw [if_pos (by omega), if_pos (by omega), rd36 l i h]
    unfold laws_toStep.f
    simp only [Option.bind_some]
    rw [if_pos (by omega), wnat (by omega)]
    rfl
  · intro k s
    simp only [laws_toStepS.l0]
    rw [if_neg (by omega)]

theorem eqStepS_eq (l : List S38) (hl : l.length ≤ 1048576) (k : Nat) (hk : l.length < k) : laws_eqStepS.f k l l = some true := by
  unfold laws_eqStepS.f
  rw [if_pos rfl]
  refine loop_all l.length 0 (fun k i => laws_eqStepS.l0 k l l i) true ?_ ?_ k (by omega)
  · intro k i _ h
    simp only [laws_eqStepS.l0]
    rw [if_pos (by omega), if_pos (by omega), if_pos (by omega)]
    unfold laws_eqStep.f
    simp only [if_true, Option.bind_some]
    rw [wnat (by omega)]
  · intro k
    simp only [laws_eqStepS.l0]
    rw [if_neg (by omega)]

theorem szStepS_eq (l : List S36) (a : Int) (ha : 0 ≤ a) (ha2 : a ≤ 1048576) (hl : l.length ≤ maxLen) : laws_szStepS.f l a = some (if a < l.length then -1 else a - l.length) := by
  unfold maxLen at hl
  unfold laws_szStepS.f
  rw [w64 (x := a - l.length) (by omega) (by omega)]
  by_cases h : a < l.length
  · rw [if_pos (by omega), if_pos h]
  · rw [if_neg (by omega), if_neg h]

theorem szRecipe_eq (s : ByteArray) (l : List S36) (a : Int) (ha : 0 ≤ a) (ha2 : a ≤ 1048576) (hs : s.size ≤ maxLen) (hl : l.length ≤ maxLen) :
    ∃ v, laws_szRecipe.f s l a = some v ∧ (v < 0 ∨ 0 ≤ v ∧ v ≤ a ∧ s.size ≤ 1048576 ∧ l.length ≤ 1048576) := by
  unfold maxLen at hs
  unfold laws_szRecipe.f
  rw [w64 (x := a - s.size) (by omega) (by omega)]
  by_cases h : a - s.size < 0
  · rw [if_pos h]; exact ⟨_, rfl, .inl (by omega)⟩
  · rw [if_neg h, szStepS_eq l _ (by omega) (by omega) hl]
    simp only [Option.bind_some]
    by_cases h2 : a - s.size < l.length
    · rw [if_pos h2, if_pos (by omega)]; exact ⟨_, rfl, .inl (by omega)⟩
    · rw [if_neg h2, if_neg (by omega)]; exact ⟨_, rfl, .inr ⟨by omega, by omega, by omega, by omega⟩⟩

theorem bt_byte (s : ByteArray) (i : Int) : 0 ≤ bt s i ∧ bt s i ≤ 255 := by
  unfold bt
  split
  · have := (s[i.toNat]'(by assumption)).toNat_lt; omega
  · omega

/-- a letter or a digit of a name -/
def nmC (c : Int) : Bool := decide (97 ≤ c ∧ c ≤ 122 ∨ 48 ≤ c ∧ c ≤ 57)

theorem nil_iff (s : ByteArray) : s.toList = [] ↔ s.size = 0 := by
  rw [ByteArray.toList_eq]
  constructor
  · intro h
    have : s.data.toList.length = 0 := by rw [h]; rfl
    rw [Array.length_toList] at this; exact this
  · intro h
    apply List.eq_nil_of_length_eq_zero
    rw [Array.length_toList]; exact h

theorem small_eq (c : Int) : spec_l01Small.f c = some (decide (97 ≤ c ∧ c ≤ 122)) := by
  unfold spec_l01Small.f
  by_cases h : c ≥ 97
  · rw [if_pos h]; simp [h]
  · rw [if_neg h]; simp; omega
theorem digit_eq (c : Int) : spec_l01Digit.f c = some (decide (48 ≤ c ∧ c ≤ 57)) := by
  unfold spec_l01Digit.f
  by_cases h : c ≥ 48
  · rw [if_pos h]; simp [h]
  · rw [if_neg h]; simp; omega

theorem name_loop (s : ByteArray) (hs : s.size ≤ 10) : ∀ (n i k : Nat), i + n = s.size → n < k →
    ∃ b, spec_l01Name.l0 k s (i : Int) = some b ∧ impl_IsName.l0 k s (i : Int) = some b := by
  intro n
  induction n with
  | zero =>
    intro i k hi hk
    obtain ⟨k, rfl⟩ : ∃ m, k = m + 1 := ⟨k - 1, by omega⟩
    simp only [spec_l01Name.l0, impl_IsName.l0]
    exact ⟨true, by rw [if_neg (by omega)], by rw [if_neg (by omega)]⟩
  | succ n ih =>
    intro i k hi hk
    obtain ⟨k, rfl⟩ : ∃ m, k = m + 1 := ⟨k - 1, by omega⟩
    obtain ⟨b, e1, e2⟩ := ih (i + 1) k (by omega) (by omega)
    have hw : wrap64 ((i : Int) + 1) = ((i + 1 : Nat) : Int) := wnat (by omega)
    have a1 : (i : Int) < (s.size : Int) := by omega
    have a2 : (0 : Int) ≤ (i : Int) := by omega
    simp only [spec_l01Name.l0, impl_IsName.l0, small_eq, digit_eq, Option.bind_some, decide_eq_true_eq, a1, a2, if_true, hw, e1, e2]
    generalize bt s (i : Int) = c
    by_cases h1 : c < 97
    · by_cases h2 : c < 48
      · exact ⟨false, by simp [h1, h2, show ¬ (97 ≤ c ∧ c ≤ 122) by omega, show ¬ (48 ≤ c ∧ c ≤ 57) by omega], by simp [h1, h2]⟩
      · by_cases h3 : c > 57
        · exact ⟨false, by simp [show ¬ (97 ≤ c ∧ c ≤ 122) by omega, show ¬ (48 ≤ c ∧ c ≤ 57) by omega], by simp [h1, h2, h3]⟩
        · exact ⟨b, by simp [show ¬ (97 ≤ c ∧ c ≤ 122) by omega, show (48 ≤ c ∧ c ≤ 57) by omega], by simp [h1, h2, h3]⟩
    · by_cases h4 : c > 122
      · exact ⟨false, by simp [show ¬ (97 ≤ c ∧ c ≤ 122) by omega, show ¬ (48 ≤ c ∧ c ≤ 57) by omega], by simp [h1, h4, show ¬ (c < 48) by omega, show c > 57 by omega]⟩
      · exact ⟨b, by simp [show (97 ≤ c ∧ c ≤ 122) by omega], by simp [h1, h4]⟩

theorem name_eq (s : ByteArray) : ∃ b : Bool, (∀ k, 13 ≤ k → spec_l01Name.f k s = some b ∧ impl_IsName.f k s = some b) := by
  have fin : ∃ b : Bool, spec_l01Name.f 13 s = some b ∧ impl_IsName.f 13 s = some b := by
    unfold spec_l01Name.f impl_IsName.f
    by_cases h0 : s.size = 0
    · exact ⟨false, by simp [(nil_iff s).2 h0, spec_l01Name.j0], by simp [show (s.size : Int) < 1 by omega, impl_IsName.j0]⟩
    · have n0 : ¬ s.toList = [] := fun h => h0 ((nil_iff s).1 h)
      have n1 : ¬ (s.size : Int) < 1 := by omega
      by_cases h1 : (s.size : Int) > 10
      · exact ⟨false, by simp [n0, h1, spec_l01Name.j0], by simp [n1, h1, impl_IsName.j0]⟩
      · have n2 : (0 : Int) < (s.size : Int) := by omega
        simp only [n0, n1, h1, n2, if_true, if_false, small_eq, Option.bind_some]
        obtain ⟨b, e1, e2⟩ := name_loop s (by omega) s.size 0 12 (by omega) (by omega)
        have e1' : spec_l01Name.l0 12 s 0 = some b := e1
        have e2' : impl_IsName.l0 12 s 0 = some b := e2
        generalize bt s 0 = c
        by_cases h2 : c < 97
        · exact ⟨false, by simp [spec_l01Name.j0, show ¬ (97 ≤ c ∧ c ≤ 122) by omega], by simp [impl_IsName.j0, h2]⟩
        · by_cases h3 : c > 122
          · exact ⟨false, by simp [spec_l01Name.j0, show ¬ (97 ≤ c ∧ c ≤ 122) by omega], by simp [impl_IsName.j0, h2, h3]⟩
          · exact ⟨b, by simp [spec_l01Name.j0, show (97 ≤ c ∧ c ≤ 122) by omega, e1'], by simp [impl_IsName.j0, h2, show ¬ (c > 122) by omega, e2']⟩
  obtain ⟨b, e1, e2⟩ := fin
  exact ⟨b, fun k hk => ⟨at_rounds (g := fun k => spec_l01Name.f k s) (fun k => spec_l01Name.mono s k) hk e1, at_rounds (g := fun k => impl_IsName.f k s) (fun k => impl_IsName.mono s k) hk e2⟩⟩

def fnd (x : List UInt8) : List ByteArray → Int → Int
  | [], _ => -1
  | y :: ys, i => if y.toList = x then i else fnd x ys (i + 1)

theorem find_l0 (x : ByteArray) (xs : List ByteArray) (hl : xs.length ≤ 1000) : ∀ (n : Nat) (k i : Nat), i + n = xs.length → n < k →
    spec_l07Find.l0 k x xs (i : Int) = some (fnd x.toList (xs.drop i) i) := by
  intro n
  induction n with
  | zero =>
    intro k i hi hk
    obtain ⟨k, rfl⟩ : ∃ m, k = m + 1 := ⟨k - 1, by omega⟩
    simp only [spec_l07Find.l0]
    rw [if_neg (by omega), List.drop_of_length_le (by omega)]; rfl
  | succ n ih =>
    intro k i hi hk
    obtain ⟨k, rfl⟩ : ∃ m, k = m + 1 := ⟨k - 1, by omega⟩
    simp only [spec_l07Find.l0]
    rw [if_pos (by omega), if_pos (by omega), List.drop_eq_getElem_cons (show i < xs.length by omega)]
    have hr : rdOf ByteArray.empty xs (i : Int) = xs[i]'(by omega) := by
      unfold rdOf; simp [List.getD, show i < xs.length by omega]
    rw [hr]
    by_cases h : (xs[i]'(by omega)).toList = x.toList
    · rw [if_pos h]; simp [fnd, h]
    · rw [if_neg h]
      have h2 := ih k (i + 1) (by omega) (by omega)
      rw [w64 (by omega) (by omega), show ((i : Int) + 1) = ((i + 1 : Nat) : Int) by omega, h2]
      simp [fnd, h]

theorem lit_toList (l : Array UInt8) : (⟨l⟩ : ByteArray).toList = l.toList := ByteArray.toList_eq _

/-- what the name of a species tells: the reference's place of it, and the program's data -/
def Known (x : List UInt8) : Prop := x = [97, 115, 104] ∨ x = [98, 101, 101, 99, 104] ∨ x = [98, 105, 114, 99, 104] ∨ x = [99, 104, 101, 114, 114, 121] ∨ x = [101, 98, 111, 110, 121] ∨ x = [104, 111, 108, 108, 121] ∨ x = [109, 97, 112, 108, 101] ∨ x = [111, 97, 107] ∨ x = [114, 111, 115, 101, 119, 111, 111, 100] ∨ x = [119, 97, 108, 110, 117, 116]

theorem find_eq (k : Nat) (hk : 11 ≤ k) (a : ByteArray) : ∃ l : List ByteArray, spec_l07Names.f = some l ∧ spec_l07Find.f k a = some (fnd a.toList l 0) := by
  refine ⟨_, rfl, ?_⟩
  unfold spec_l07Find.f spec_l07Names.f
  simp only [Option.bind_some]
  exact find_l0 a _ (by simp) 10 k 0 rfl (by omega)

theorem species (a : ByteArray) : (∃ i h : Int, ∃ s w : Int, 0 ≤ i ∧ i < 10 ∧ 33 ≤ h ∧ h ≤ 85 ∧ 200 ≤ w ∧ w ≤ 500 ∧ (∀ k, 11 ≤ k → spec_l07Find.f k a = some i) ∧ impl_SpeciesData.f a = some (s, h, w, 0) ∧ (spec_l07Table.f).bind (fun t => some (rd_L6 t i)) = some [s, h, w]) ∨
    ((∀ k, 11 ≤ k → spec_l07Find.f k a = some (-1)) ∧ impl_SpeciesData.f a = some (0, 0, 0, 3)) := by
  obtain ⟨l, hl, _⟩ := find_eq 11 (Nat.le_refl _) a
  have hf : ∀ k, 11 ≤ k → spec_l07Find.f k a = some (fnd a.toList l 0) := fun k hk => by
    obtain ⟨l', hl', h⟩ := find_eq k hk a
    rw [hl] at hl'; cases hl'; exact h
  unfold spec_l07Names.f at hl
  cases hl
  generalize hx : a.toList = x at *
  unfold impl_SpeciesData.f
  rw [hx]
  by_cases h : Known x
  · left
    rcases h with h | h | h | h | h | h | h | h | h | h <;> subst h
    · exact ⟨0, 40, 20, 310, by decide, by decide, by decide, by decide, by decide, by decide, fun k hk => (hf k hk).trans (by simp [fnd, lit_toList]), rfl, by first | trivial | rfl⟩
    · exact ⟨1, 45, 35, 410, by decide, by decide, by decide, by decide, by decide, by decide, fun k hk => (hf k hk).trans (by simp [fnd, lit_toList]), rfl, by first | trivial | rfl⟩
    · exact ⟨2, 33, 15, 280, by decide, by decide, by decide, by decide, by decide, by decide, fun k hk => (hf k hk).trans (by simp [fnd, lit_toList]), rfl, by first | trivial | rfl⟩
    · exact ⟨3, 36, 50, 240, by decide, by decide, by decide, by decide, by decide, by decide, fun k hk => (hf k hk).trans (by simp [fnd, lit_toList]), rfl, by first | trivial | rfl⟩
    · exact ⟨4, 85, 95, 270, by decide, by decide, by decide, by decide, by decide, by decide, fun k hk => (hf k hk).trans (by simp [fnd, lit_toList]), rfl, by first | trivial | rfl⟩
    · exact ⟨5, 35, 5, 370, by decide, by decide, by decide, by decide, by decide, by decide, fun k hk => (hf k hk).trans (by simp [fnd, lit_toList]), rfl, by first | trivial | rfl⟩
    · exact ⟨6, 42, 10, 290, by decide, by decide, by decide, by decide, by decide, by decide, fun k hk => (hf k hk).trans (by simp [fnd, lit_toList]), rfl, by first | trivial | rfl⟩
    · exact ⟨7, 40, 40, 330, by decide, by decide, by decide, by decide, by decide, by decide, fun k hk => (hf k hk).trans (by simp [fnd, lit_toList]), rfl, by first | trivial | rfl⟩
    · exact ⟨8, 60, 80, 220, by decide, by decide, by decide, by decide, by decide, by decide, fun k hk => (hf k hk).trans (by simp [fnd, lit_toList]), rfl, by first | trivial | rfl⟩
    · exact ⟨9, 38, 70, 260, by decide, by decide, by decide, by decide, by decide, by decide, fun k hk => (hf k hk).trans (by simp [fnd, lit_toList]), rfl, by first | trivial | rfl⟩
  · right
    unfold Known at h
    simp only [not_or] at h
    obtain ⟨h0, h1, h2, h3, h4, h5, h6, h7, h8, h9⟩ := h
    have e : ∀ l : List UInt8, ¬ x = l → ¬ l = x := fun l h1 h2 => h1 h2.symm
    constructor
    · intro k hk
      rw [hf k hk]
      simp only [fnd, lit_toList]
      rw [if_neg (e _ h0), if_neg (e _ h1), if_neg (e _ h2), if_neg (e _ h3), if_neg (e _ h4), if_neg (e _ h5), if_neg (e _ h6), if_neg (e _ h7), if_neg (e _ h8), if_neg (e _ h9)]
    · rw [if_neg h0, if_neg h1, if_neg h2, if_neg h3, if_neg h4, if_neg h5, if_neg h6, if_neg h7, if_neg h8, if_neg h9]

theorem tdiv_pos {a b : Int} (h : 0 ≤ a) : Int.tdiv a b = a / b := Int.tdiv_eq_ediv_of_nonneg h

/-- the reference's gain of a known hardness, and the program's: what both compute -/
theorem gain_eq {a : ByteArray} {s h w : Int} (hd : impl_SpeciesData.f a = some (s, h, w, 0)) (h0 : 33 ≤ h) (h1 : h ≤ 85) (x y : Int) (hx : 100 ≤ x ∧ x ≤ 300) (hy : 0 ≤ y ∧ y ≤ 600) :
    impl_gain.f a x y = some ((x - 100) * y / (10 * h)) ∧ spec_l21Gain.f h x y = some ((x - 100) * y / (10 * h)) ∧ 0 ≤ (x - 100) * y / (10 * h) ∧ (x - 100) * y / (10 * h) ≤ 120000 := by
  have m0 : 0 ≤ (x - 100) * y := Int.mul_nonneg (by omega) (by omega)
  have m1 : (x - 100) * y ≤ 200 * 600 := Int.mul_le_mul (by omega) (by omega) (by omega) (by omega)
  have d0 : 0 ≤ (x - 100) * y / (10 * h) := Int.ediv_nonneg m0 (by omega)
  have d1 : (x - 100) * y / (10 * h) ≤ (x - 100) * y := Int.ediv_le_self _ m0
  refine ⟨?_, ?_, d0, by omega⟩
  · unfold impl_gain.f
    rw [hd]
    simp only [Option.bind_some]
    rw [w64 (x := 10 * h) (by omega) (by omega), if_neg (by omega), w64 (x := x - 100) (by omega) (by omega), w64 (x := (x - 100) * y) (by omega) (by omega), tdiv_pos m0, w64 (by omega) (by omega)]
  · unfold spec_l21Gain.f
    rw [w64 (x := 10 * h) (by omega) (by omega), if_neg (by omega), w64 (x := x - 100) (by omega) (by omega), w64 (x := (x - 100) * y) (by omega) (by omega), tdiv_pos m0, w64 (by omega) (by omega)]

theorem hard_eq {a : ByteArray} {i s h w : Int} {k : Nat} (hk : 11 ≤ k) (h0 : 0 ≤ i) (h1 : i < 10) (hf : ∀ k, 11 ≤ k → spec_l07Find.f k a = some i) (ht : (spec_l07Table.f).bind (fun t => some (rd_L6 t i)) = some [s, h, w]) :
    spec_l21Hardness.f k a = some h := by
  unfold spec_l21Hardness.f
  rw [hf k hk]
  cases hT : spec_l07Table.f with
  | none => rw [hT] at ht; cases ht
  | some t =>
    rw [hT] at ht
    simp only [Option.bind_some, Option.some.injEq] at ht ⊢
    have hl : t.length = 10 := by unfold spec_l07Table.f at hT; cases hT; rfl
    rw [ht, if_pos h0, if_pos (by omega), if_pos (by simp)]
    rfl

/-- the nearest quotient, halves away from 0 -/
def rdiv (a b : Int) : Int := if a < 0 then -((b - 2 * a) / (2 * b)) else (2 * a + b) / (2 * b)

theorem half_up {x b : Int} (hb : 0 < b) : (2 * x + b) / (2 * b) = if x % b ≥ b - x % b then x / b + 1 else x / b := by
  have hx := Int.mul_ediv_add_emod x b
  have hr0 := Int.emod_nonneg x (show b ≠ 0 by omega)
  have hr1 := Int.emod_lt_of_pos x hb
  generalize hq : x / b = q at *
  generalize hr : x % b = r at *
  have key : ∀ c : Int, c * (2 * b) ≤ 2 * x + b → 2 * x + b < (c + 1) * (2 * b) → (2 * x + b) / (2 * b) = c := by
    intro c h1 h2
    apply Int.le_antisymm
    · exact Int.lt_add_one_iff.1 ((Int.ediv_lt_iff_lt_mul (by omega)).2 h2)
    · exact (Int.le_ediv_iff_mul_le (by omega)).2 h1
  have e0 : q * (2 * b) = 2 * (b * q) := by rw [Int.mul_comm q, Int.mul_assoc]
  have e1 : (q + 1) * (2 * b) = 2 * (b * q) + 2 * b := by rw [Int.add_mul, e0]; omega
  have e2 : (q + 1 + 1) * (2 * b) = 2 * (b * q) + 2 * b + 2 * b := by rw [Int.add_mul, e1]; omega
  generalize b * q = p at *
  split
  · apply key
    · rw [e1]; omega
    · rw [e2]; omega
  · apply key
    · rw [e0]; omega
    · rw [e1]; omega

theorem l01Div_eq {a b : Int} (ha : -1000000000000000000 ≤ a) (ha2 : a ≤ 1000000000000000000) (hb : 0 < b) (hb2 : b ≤ 1000000000000) : spec_l01Div.f a b = some (rdiv a b) := by
  unfold spec_l01Div.f rdiv
  rw [if_neg (by omega)]
  by_cases h : a < 0
  · have d0 : 0 ≤ (b - 2 * a) / (2 * b) := Int.ediv_nonneg (by omega) (by omega)
    have d1 : (b - 2 * a) / (2 * b) ≤ b - 2 * a := Int.ediv_le_self _ (by omega)
    rw [if_pos h, if_pos h, w64 (x := 2 * b) (by omega) (by omega), if_neg (by omega), w64 (x := 2 * a) (by omega) (by omega), w64 (x := b - 2 * a) (by omega) (by omega), Int.tdiv_eq_ediv_of_nonneg (by omega), w64 (x := (b - 2 * a) / (2 * b)) (by omega) (by omega), w64 (by omega) (by omega)]
  · have d0 : 0 ≤ (2 * a + b) / (2 * b) := Int.ediv_nonneg (by omega) (by omega)
    have d1 : (2 * a + b) / (2 * b) ≤ 2 * a + b := Int.ediv_le_self _ (by omega)
    rw [if_neg h, if_neg h, w64 (x := 2 * b) (by omega) (by omega), if_neg (by omega), w64 (x := 2 * a) (by omega) (by omega), w64 (x := 2 * a + b) (by omega) (by omega), Int.tdiv_eq_ediv_of_nonneg (by omega), w64 (by omega) (by omega)]

theorem nearest_eq {a b : Int} (ha : -1000000000000000000 ≤ a) (ha2 : a ≤ 1000000000000000000) (hb : 0 < b) (hb2 : b ≤ 1000000000000) : impl_nearest.f a b = some (rdiv a b) := by
  have hm : mx b (wrap64 (-b)) = b := by rw [w64 (by omega) (by omega)]; unfold mx; rw [if_neg (by omega)]
  unfold impl_nearest.f rdiv
  rw [if_neg (by omega), hm, if_neg (by omega)]
  by_cases h : a < 0
  · have hx : mx a (wrap64 (-a)) = -a := by rw [w64 (by omega) (by omega)]; unfold mx; rw [if_pos (by omega)]
    have hh := half_up (x := -a) hb
    have d0 : 0 ≤ (-a) / b := Int.ediv_nonneg (by omega) (by omega)
    have d1 : (-a) / b ≤ -a := Int.ediv_le_self _ (by omega)
    have hr0 := Int.emod_nonneg (-a) (show b ≠ 0 by omega)
    have hr1 := Int.emod_lt_of_pos (-a) hb
    rw [hx, if_pos h, show b - 2 * a = 2 * -a + b by omega, hh, Int.tmod_eq_emod_of_nonneg (by omega), Int.tdiv_eq_ediv_of_nonneg (by omega), w64 (x := b - -a % b) (by omega) (by omega), w64 (x := -a / b) (by omega) (by omega)]
    have hc : (decide (a < 0) != decide (b < 0)) = true := by simp [h]; omega
    by_cases g : -a % b ≥ b - -a % b
    · rw [if_pos g, if_pos hc, if_pos g, w64 (x := -a / b + 1) (by omega) (by omega), w64 (by omega) (by omega)]
    · rw [if_neg g, if_pos hc, if_neg g, w64 (by omega) (by omega)]
  · have hx : mx a (wrap64 (-a)) = a := by rw [w64 (by omega) (by omega)]; unfold mx; rw [if_neg (by omega)]
    have hh := half_up (x := a) hb
    have d0 : 0 ≤ a / b := Int.ediv_nonneg (by omega) (by omega)
    have d1 : a / b ≤ a := Int.ediv_le_self _ (by omega)
    have hr0 := Int.emod_nonneg a (show b ≠ 0 by omega)
    have hr1 := Int.emod_lt_of_pos a hb
    rw [hx, if_neg h, hh, Int.tmod_eq_emod_of_nonneg (by omega), Int.tdiv_eq_ediv_of_nonneg (by omega), w64 (x := b - a % b) (by omega) (by omega), w64 (x := a / b) (by omega) (by omega)]
    have hc : ¬ (decide (a < 0) != decide (b < 0)) = true := by simp [h]; omega
    by_cases g : a % b ≥ b - a % b
    · rw [if_pos g, if_neg hc, if_pos g, w64 (x := a / b + 1) (by omega) (by omega)]
    · rw [if_neg g, if_neg hc, if_neg g]

theorem rdiv_bounds {a b m : Int} (hb : 0 < b) (h0 : -m ≤ a) (h1 : a ≤ m) : -(m + 1) ≤ rdiv a b ∧ rdiv a b ≤ m + 1 := by
  unfold rdiv
  have aux : ∀ x : Int, 0 ≤ x → x ≤ m → 0 ≤ (2 * x + b) / (2 * b) ∧ (2 * x + b) / (2 * b) ≤ m + 1 := by
    intro x hx hxm
    rw [half_up hb]
    have d0 : 0 ≤ x / b := Int.ediv_nonneg (by omega) (by omega)
    have d1 : x / b ≤ x := Int.ediv_le_self _ (by omega)
    split <;> omega
  split
  · have := aux (-a) (by omega) (by omega)
    rw [show b - 2 * a = 2 * -a + b by omega]
    omega
  · have := aux a (by omega) (by omega)
    omega

theorem step_eq (x : S38) : ∃ b : Bool, spec_l21Step.f [x] = some b ∧ impl_ValidStep.f x.f0 x.f1 x.f2 = some b ∧
    (b = true → (x.f0 = 1 ∧ 100 ≤ x.f1 ∧ x.f1 ≤ 300 ∧ 0 ≤ x.f2 ∧ x.f2 ≤ 600) ∨ (x.f0 = 2 ∧ 0 ≤ x.f1 ∧ x.f1 ≤ 100 ∧ 0 ≤ x.f2 ∧ x.f2 ≤ 100) ∨ (x.f0 = 3 ∧ 0 ≤ x.f1 ∧ x.f1 ≤ 600 ∧ x.f2 = 0)) := by
  have r : rd_T38 [x] 0 = x := rfl
  unfold impl_ValidStep.f spec_l21Step.f spec_l21Heat.f
  simp only [Option.bind_some, within_eq, l00In_eq, r, List.length_cons, List.length_nil]
  generalize x.f0 = a
  generalize x.f1 = b
  generalize x.f2 = c
  by_cases h1 : a = 1
  · subst h1
    refine ⟨decide (100 ≤ b ∧ b ≤ 300) && decide (0 ≤ c ∧ c ≤ 600), ?_, ?_, ?_⟩
    · by_cases g1 : 100 ≤ b ∧ b ≤ 300 <;> by_cases g2 : 0 ≤ c ∧ c ≤ 600 <;> simp [g1, g2]
    · by_cases g1 : 100 ≤ b ∧ b ≤ 300 <;> by_cases g2 : 0 ≤ c ∧ c ≤ 600 <;> simp [g1, g2]
    · simp; omega
  · by_cases h2 : a = 2
    · subst h2
      refine ⟨decide (0 ≤ b ∧ b ≤ 100) && decide (0 ≤ c ∧ c ≤ 100), ?_, ?_, ?_⟩
      · by_cases g1 : 0 ≤ b ∧ b ≤ 100 <;> by_cases g2 : 0 ≤ c ∧ c ≤ 100 <;> simp [g1, g2]
      · by_cases g1 : 0 ≤ b ∧ b ≤ 100 <;> by_cases g2 : 0 ≤ c ∧ c ≤ 100 <;> simp [g1, g2]
      · simp; omega
    · by_cases h3 : a = 3
      · subst h3
        refine ⟨decide (0 ≤ b ∧ b ≤ 600) && decide (c = 0), ?_, ?_, ?_⟩
        · by_cases g1 : 0 ≤ b ∧ b ≤ 600 <;> by_cases g2 : c = 0 <;> simp [g1, g2]
        · by_cases g1 : 0 ≤ b ∧ b ≤ 600 <;> by_cases g2 : c = 0 <;> simp [g1, g2]
        · simp; omega
      · exact ⟨false, by simp [h1, h2, h3], by simp [h1, h2, h3], by simp⟩

def vs (x : S38) : Bool := impl_ValidStep.f x.f0 x.f1 x.f2 == some true

theorem vs_spec (x : S38) : spec_l21Step.f [x] = some (vs x) ∧ impl_ValidStep.f x.f0 x.f1 x.f2 = some (vs x) ∧
    (vs x = true → (x.f0 = 1 ∧ 100 ≤ x.f1 ∧ x.f1 ≤ 300 ∧ 0 ≤ x.f2 ∧ x.f2 ≤ 600) ∨ (x.f0 = 2 ∧ 0 ≤ x.f1 ∧ x.f1 ≤ 100 ∧ 0 ≤ x.f2 ∧ x.f2 ≤ 100) ∨ (x.f0 = 3 ∧ 0 ≤ x.f1 ∧ x.f1 ≤ 600 ∧ x.f2 = 0)) := by
  obtain ⟨b, e1, e2, e3⟩ := step_eq x
  have e : vs x = b := by unfold vs; rw [e2]; cases b <;> rfl
  rw [e]; exact ⟨e1, e2, e3⟩

def nmB (s : ByteArray) : Bool := impl_IsName.f 13 s == some true

theorem nm_spec (s : ByteArray) (k : Nat) (hk : 13 ≤ k) : spec_l01Name.f k s = some (nmB s) ∧ impl_IsName.f k s = some (nmB s) := by
  obtain ⟨b, hb⟩ := name_eq s
  have e : nmB s = b := by unfold nmB; rw [(hb 13 (Nat.le_refl _)).2]; cases b <;> rfl
  rw [e]; exact hb k hk

def okS (l : List S38) : Bool := l.all vs && decide (l.length ≤ 8)
def okR (s : ByteArray) (l : List S38) : Bool := nmB s && okS l

theorem specSteps (l : List S38) (hl : l.length ≤ 1048576) (k : Nat) (hk : l.length + 20 < k) : spec_l21Steps.f k l = some (okS l) := by
  unfold spec_l21Steps.f okS
  rw [all_loop l 0 vs false (decide (l.length ≤ 8)) (fun k i => spec_l21Steps.l0 k l i) ?_ ?_ k (by omega)]
  · cases l.all vs <;> simp
  · intro k i hi _
    simp only [spec_l21Steps.l0]
    rw [if_pos (by omega), if_pos (by omega), rd38 l i hi, wnat (by omega), (vs_spec l[i]).1]
    simp only [Option.bind_some]
  · intro k _
    simp only [spec_l21Steps.l0]
    rw [if_neg (by omega)]
    simp; omega

theorem implSteps (l : List S38) (hl : l.length ≤ 1048576) (k : Nat) (hk : l.length + 20 < k) : impl_validSteps.f k l = some (okS l) := by
  unfold impl_validSteps.f okS
  by_cases h : (l.length : Int) ≤ 8
  · rw [if_pos h]
    unfold fi66_67.f fi80_67.f
    obtain ⟨r, h1, h2⟩ := idx_loop l 0 (fun x => !vs x) (fun k i => fi80_67.l0 k l (l.length : Int) i) (by
      intro k i hi _
      simp only [fi80_67.l0]
      rw [if_pos (by omega), if_pos (by omega), if_pos (by omega), rd38 l i hi, wnat (by omega)]
      unfold impl_validSteps_1.f
      rw [(vs_spec l[i]).2.1]
      simp only [Option.bind_some]) (by
      intro k _
      simp only [fi80_67.l0]
      rw [if_neg (by omega)]) k (by omega)
    rw [h1]
    simp only [Option.bind_some]
    rw [h2, any_not]
    simp; omega
  · rw [if_neg h]; simp; omega

theorem recipe_eq (s : ByteArray) (l : List S38) (hl : l.length ≤ 1048576) (k : Nat) (hk : l.length + 30 < k) : spec_l21Ok.f k [(⟨s, l⟩ : S29)] = some (okR s l) ∧ impl_ValidRecipe.f k s l = some (okR s l) := by
  have r : rd_T29 [(⟨s, l⟩ : S29)] 0 = ⟨s, l⟩ := rfl
  unfold spec_l21Ok.f impl_ValidRecipe.f okR
  rw [if_pos (by simp), r, (nm_spec s k (by omega)).1, (nm_spec s k (by omega)).2]
  simp only [Option.bind_some, specSteps l hl k (by omega), implSteps l hl k (by omega)]
  cases nmB s <;> simp

theorem okR_mem {s : ByteArray} {l : List S38} (h : okR s l = true) (i : Nat) (hi : i < l.length) : vs l[i] = true := by
  unfold okR okS at h
  rw [Bool.and_eq_true, Bool.and_eq_true, List.all_eq_true] at h
  exact h.2.1 _ (List.getElem_mem hi)
theorem okR_len {s : ByteArray} {l : List S38} (h : okR s l = true) : l.length ≤ 8 := by
  unfold okR okS at h
  rw [Bool.and_eq_true, Bool.and_eq_true, decide_eq_true_eq] at h
  exact h.2.2

theorem toRecipe_eq (s : ByteArray) (l : List S36) (hl : l.length ≤ 1048576) (k : Nat) (hk : l.length < k) : laws_toRecipe.f k s l = some (s, l.map toSt) := by
  unfold laws_toRecipe.f
  rw [toStepS_eq l hl k hk]; rfl
theorem eqRecipe_eq (s : ByteArray) (l : List S38) (hl : l.length ≤ 1048576) (k : Nat) (hk : l.length < k) : laws_eqRecipe.f k s l s l = some true := by
  unfold laws_eqRecipe.f
  simp [eqStepS_eq l hl k hk]

theorem rdiv100 {x d : Int} (h0 : 0 ≤ d) (h1 : -(100 * d) ≤ x) (h2 : x ≤ 100 * d) : -d ≤ rdiv x 100 ∧ rdiv x 100 ≤ d ∧ (0 ≤ x → 0 ≤ rdiv x 100) ∧ (x ≤ 0 → rdiv x 100 ≤ 0) := by
  unfold rdiv
  split <;> omega

theorem shade_eq {a : ByteArray} {i s h w : Int} (hd : impl_SpeciesData.f a = some (s, h, w, 0)) (h0 : 33 ≤ h) (h1 : h ≤ 85) (x : S38) (hx : vs x = true) (sh : Int) (hs : 0 ≤ sh ∧ sh ≤ 100) :
    ∃ v, spec_l21Shade.f h sh [x] = some v ∧ impl_stepShade.f a sh x.f0 x.f1 x.f2 = some v ∧ 0 ≤ v ∧ v ≤ 100 := by
  have r : rd_T38 [x] 0 = x := rfl
  unfold spec_l21Shade.f impl_stepShade.f
  rw [if_pos (by simp), r]
  rcases (vs_spec x).2.2 hx with ⟨e, g1, g2, g3, g4⟩ | ⟨e, g1, g2, g3, g4⟩ | ⟨e, g1, g2, g3⟩
  · obtain ⟨q1, q2, q3, q4⟩ := gain_eq hd h0 h1 x.f1 x.f2 ⟨g1, g2⟩ ⟨g3, g4⟩
    rw [if_pos e, if_pos e, q1, q2]
    simp only [Option.bind_some]
    generalize (x.f1 - 100) * x.f2 / (10 * h) = g at *
    unfold spec_l00Min.f mn
    rw [w64 (x := sh + g) (by omega) (by omega)]
    by_cases c : 100 < sh + g
    · exact ⟨100, by simp [c], by simp [c], by omega, by omega⟩
    · exact ⟨sh + g, by simp [c], by simp [c], by omega, by omega⟩
  · have n1 : ¬ x.f0 = 1 := by omega
    rw [if_neg n1, if_pos e, if_neg n1, if_pos e]
    have hb : -(100 * (if x.f1 ≥ sh then x.f1 - sh else sh - x.f1)) ≤ (x.f1 - sh) * x.f2 ∧ (x.f1 - sh) * x.f2 ≤ 100 * (if x.f1 ≥ sh then x.f1 - sh else sh - x.f1) ∧ (x.f1 ≥ sh → 0 ≤ (x.f1 - sh) * x.f2) ∧ (x.f1 ≤ sh → (x.f1 - sh) * x.f2 ≤ 0) := by
      by_cases c : x.f1 ≥ sh
      · have m0 : 0 ≤ (x.f1 - sh) * x.f2 := Int.mul_nonneg (by omega) g3
        have m1 : (x.f1 - sh) * x.f2 ≤ (x.f1 - sh) * 100 := Int.mul_le_mul_of_nonneg_left g4 (by omega)
        rw [if_pos c]
        refine ⟨by omega, by omega, fun _ => m0, fun c2 => ?_⟩
        have : x.f1 - sh = 0 := by omega
        rw [this]; simp
      · have m0 : 0 ≤ (sh - x.f1) * x.f2 := Int.mul_nonneg (by omega) g3
        have m1 : (sh - x.f1) * x.f2 ≤ (sh - x.f1) * 100 := Int.mul_le_mul_of_nonneg_left g4 (by omega)
        have e2 : (x.f1 - sh) * x.f2 = -((sh - x.f1) * x.f2) := by rw [← Int.neg_mul]; congr 1; omega
        rw [if_neg c]
        refine ⟨by omega, by omega, fun c2 => by omega, fun _ => by omega⟩
    obtain ⟨b1, b2, b3, b4⟩ := hb
    have hd := rdiv100 (x := (x.f1 - sh) * x.f2) (d := if x.f1 ≥ sh then x.f1 - sh else sh - x.f1) (by split <;> omega) b1 b2
    have hbig : -10000 ≤ (x.f1 - sh) * x.f2 ∧ (x.f1 - sh) * x.f2 ≤ 10000 := by split at b1 <;> split at b2 <;> omega
    rw [w64 (x := x.f1 - sh) (by omega) (by omega), w64 (x := (x.f1 - sh) * x.f2) (by omega) (by omega), l01Div_eq (by omega) (by omega) (by omega) (by omega), nearest_eq (by omega) (by omega) (by omega) (by omega)]
    simp only [Option.bind_some]
    obtain ⟨d1, d2, d3, d4⟩ := hd
    have hv : 0 ≤ sh + rdiv ((x.f1 - sh) * x.f2) 100 ∧ sh + rdiv ((x.f1 - sh) * x.f2) 100 ≤ 100 := by
      by_cases c : x.f1 ≥ sh
      · have := d3 (b3 c)
        rw [if_pos c] at d2
        omega
      · have := d4 (b4 (by omega))
        rw [if_neg c] at d1
        omega
    rw [w64 (x := sh + rdiv ((x.f1 - sh) * x.f2) 100) (by omega) (by omega)]
    exact ⟨_, rfl, rfl, hv.1, hv.2⟩
  · have n1 : ¬ x.f0 = 1 := by omega
    have n2 : ¬ x.f0 = 2 := by omega
    rw [if_neg n1, if_neg n2, if_neg n1, if_neg n2, Int.tdiv_eq_ediv_of_nonneg g1, w64 (x := x.f1 / 10) (by omega) (by omega), w64 (x := sh - x.f1 / 10) (by omega) (by omega)]
    unfold spec_l00Max.f mx
    by_cases c : 0 > sh - x.f1 / 10
    · exact ⟨0, by rw [if_pos c]; rfl, by rw [if_pos (by omega)], by omega, by omega⟩
    · exact ⟨sh - x.f1 / 10, by rw [if_neg c]; rfl, by rw [if_neg (by omega)], by omega, by omega⟩

/-- the code of a species and a shade -/
theorem shadeCode_eq (a : ByteArray) (sh : Int) : ∃ c, (∀ k, 11 ≤ k → spec_l21Ask.f k a sh = some c) ∧ impl_shadeCode.f a sh = some c ∧
    (c = 0 → 0 ≤ sh ∧ sh ≤ 100 ∧ ∃ s h w : Int, impl_SpeciesData.f a = some (s, h, w, 0) ∧ 33 ≤ h ∧ h ≤ 85 ∧ ∀ k, 11 ≤ k → spec_l21Hardness.f k a = some h) := by
  unfold spec_l21Ask.f impl_shadeCode.f impl_isSpecies.f impl_speciesShade.f
  rcases species a with ⟨i, h, s, w, i0, i1, h0, h1, _, _, hf, hd, ht⟩ | ⟨hf, hd⟩
  · rw [hd]
    simp only [Option.bind_some, within_eq, l00In_eq]
    by_cases g : 0 ≤ sh ∧ sh ≤ 100
    · refine ⟨0, fun k hk => ?_, by simp [g], fun _ => ⟨g.1, g.2, s, h, w, rfl, h0, h1, fun k hk => hard_eq hk i0 i1 hf ht⟩⟩
      rw [hf k hk]; simp [g, show ¬ i < 0 by omega]
    · refine ⟨2, fun k hk => ?_, by simp [g], fun h => by omega⟩
      rw [hf k hk]; simp [g, show ¬ i < 0 by omega]
  · rw [hd]
    refine ⟨3, fun k hk => ?_, by simp, fun h => by omega⟩
    rw [hf k hk]; simp

theorem rdi (xs : List Int) (i : Nat) (h : i < xs.length) : rd xs (i : Int) = xs[i] := by
  unfold rd; simp [List.getD, h]

theorem eqInt64S_eq (l : List Int) (hl : l.length ≤ 1048576) (k : Nat) (hk : l.length < k) : laws_eqInt64S.f k l l = some true := by
  unfold laws_eqInt64S.f
  rw [if_pos rfl]
  refine loop_all l.length 0 (fun k i => laws_eqInt64S.l0 k l l i) true ?_ ?_ k (by omega)
  · intro k i _ h
    simp only [laws_eqInt64S.l0]
    rw [if_pos (by omega), if_pos (by omega), if_pos (by omega), wnat (by omega)]; simp
  · intro k
    simp only [laws_eqInt64S.l0]
    rw [if_neg (by omega)]

def upTo : Nat → Int → List Int
  | 0, _ => []
  | n + 1, m => m :: upTo n (m + 1)

theorem upTo_len : ∀ (n : Nat) (m : Int), (upTo n m).length = n
  | 0, _ => rfl
  | n + 1, m => by simp [upTo, upTo_len n]

theorem upTo_get : ∀ (n : Nat) (m : Int) (i : Nat) (h : i < (upTo n m).length), (upTo n m)[i] = m + i
  | 0, m, i, h => by simp [upTo] at h
  | n + 1, m, 0, h => by simp [upTo]
  | n + 1, m, i + 1, h => by
    have h' : i < (upTo n (m + 1)).length := by simpa [upTo] using h
    have := upTo_get n (m + 1) i h'
    simp only [upTo, List.getElem_cons_succ, this]; omega

theorem markInts_eq (l : List Int) (hl : l.length ≤ 1048576) (m : Int) (h0 : 0 ≤ m) (h1 : m ≤ 100000000) (k : Nat) (hk : l.length < k) : laws_markInt64S.f k l m = some (m + l.length, upTo l.length m) := by
  have key : ∀ (n i k : Nat) (s : List Int), i + n = l.length → n < k → s.length = l.length → s.take i = (upTo l.length m).take i →
      laws_markInt64S.l0 k s (m + i) (i : Int) = some (m + l.length, upTo l.length m) := by
    intro n
    induction n with
    | zero =>
      intro i k s hi hk hs ht
      obtain ⟨k, rfl⟩ : ∃ m, k = m + 1 := ⟨k - 1, by omega⟩
      obtain rfl : i = l.length := by omega
      simp only [laws_markInt64S.l0]
      have e : s = upTo l.length m := by
        rw [List.take_of_length_le (by omega), List.take_of_length_le (by rw [upTo_len]; omega)] at ht; exact ht
      rw [if_neg (by omega), e]
    | succ n ih =>
      intro i k s hi hk hs ht
      obtain ⟨k, rfl⟩ : ∃ m, k = m + 1 := ⟨k - 1, by omega⟩
      simp only [laws_markInt64S.l0]
      rw [if_pos (by omega), if_pos (by omega), w64 (x := m + i + 1) (by omega) (by omega), wnat (by omega)]
      have hh := ih (i + 1) k (s.set (i : Int).toNat (m + i)) (by omega) (by omega) (by rw [List.length_set]; exact hs) (by
        have hlt : i < (upTo l.length m).length := by rw [upTo_len]; omega
        rw [List.take_succ_eq_append_getElem (by rw [List.length_set]; omega), List.take_succ_eq_append_getElem hlt, List.take_set_of_le (by omega), ht, upTo_get _ _ _ hlt]
        simp)
      rw [show m + ((i + 1 : Nat) : Int) = m + i + 1 by omega] at hh
      exact hh
  have := key l.length 0 k l (by omega) hk rfl (by simp)
  unfold laws_markInt64S.f
  simpa using this

theorem heldInts_eq (n : Nat) (hn : n ≤ 1048576) (m : Int) (h0 : 0 ≤ m) (h1 : m ≤ 100000000) (k : Nat) (hk : n < k) : laws_heldInt64S.f k (upTo n m) m = some (m + n) := by
  have key : ∀ (d i k : Nat), i + d = n → d < k → laws_heldInt64S.l0 k (upTo n m) (m + i) (i : Int) = some (m + n) := by
    intro d
    induction d with
    | zero =>
      intro i k hi hk
      obtain ⟨k, rfl⟩ : ∃ m, k = m + 1 := ⟨k - 1, by omega⟩
      obtain rfl : i = n := by omega
      simp only [laws_heldInt64S.l0]
      rw [if_neg (by rw [upTo_len]; omega)]
    | succ d ih =>
      intro i k hi hk
      obtain ⟨k, rfl⟩ : ∃ m, k = m + 1 := ⟨k - 1, by omega⟩
      simp only [laws_heldInt64S.l0]
      have hlt : i < (upTo n m).length := by rw [upTo_len]; omega
      rw [if_pos (by omega), if_pos (by omega), rdi _ i hlt, upTo_get _ _ _ hlt, if_pos rfl, w64 (x := m + i + 1) (by omega) (by omega), wnat (by omega)]
      have hh := ih (i + 1) k (by omega) (by omega)
      rw [show m + ((i + 1 : Nat) : Int) = m + i + 1 by omega] at hh
      exact hh
  have := key n 0 k (by omega) hk
  unfold laws_heldInt64S.f
  simpa using this

theorem shades_loops (a s : ByteArray) (l : List S38) (ho : okR s l = true) {sp h w : Int} (hd : impl_SpeciesData.f a = some (sp, h, w, 0)) (h0 : 33 ≤ h) (h1 : h ≤ 85) (hh : ∀ k, 11 ≤ k → spec_l21Hardness.f k a = some h) :
    ∀ (n i : Nat) (sh : Int) (out : List Int), i + n = l.length → 0 ≤ sh → sh ≤ 100 → out.length = i →
    ∃ r : List Int × Int, r.1.length ≤ 8 ∧ ∀ k, n + 20 < k → spec_RecipeShades.l0 k a sh out (i : Int) s l = some r ∧ impl_RecipeShades.l0 k a sh out l (l.length : Int) (i : Int) = some r := by
  have hlen := okR_len ho
  intro n
  induction n with
  | zero =>
    intro i sh out hi s0 s1 hl
    refine ⟨(out, 0), by show out.length ≤ 8; omega, fun k hk => ?_⟩
    obtain ⟨k, rfl⟩ : ∃ m, k = m + 1 := ⟨k - 1, by omega⟩
    have a1 : ¬ (i : Int) < (l.length : Int) := by omega
    simp only [spec_RecipeShades.l0, impl_RecipeShades.l0, a1, if_false, and_self]
  | succ n ih =>
    intro i sh out hi s0 s1 hl
    have hlt : i < l.length := by omega
    obtain ⟨v, v1, v2, v3, v4⟩ := shade_eq (i := 0) hd h0 h1 l[i] (okR_mem ho i hlt) sh ⟨s0, s1⟩
    obtain ⟨r, hr0, hr⟩ := ih (i + 1) v (out ++ [v]) (by omega) v3 v4 (by simp [hl])
    refine ⟨r, hr0, fun k hk => ?_⟩
    obtain ⟨k, rfl⟩ : ∃ m, k = m + 1 := ⟨k - 1, by omega⟩
    obtain ⟨q1, q2⟩ := hr k (by omega)
    have a1 : (i : Int) < (l.length : Int) := by omega
    have a2 : (0 : Int) ≤ (i : Int) := by omega
    have a3 : out.length < 17592186044416 := by omega
    simp only [spec_RecipeShades.l0, impl_RecipeShades.l0, a1, a2, a3, if_true, rd38 l i hlt, wnat (n := i) (by omega), hh k (by omega), Option.bind_some, v1, v2]
    exact ⟨q1, q2⟩

theorem res_eq (a : ByteArray) (sh : Int) (s : ByteArray) (l : List S38) (hl : l.length ≤ 1048576) : ∃ r : List Int × Int, r.1.length ≤ 8 ∧ ∀ k, 1049000 ≤ k → spec_RecipeShades.f k a sh s l = some r ∧ impl_RecipeShades.f k a sh s l = some r := by
  obtain ⟨c, c1, c2, c3⟩ := shadeCode_eq a sh
  cases ho : okR s l with
  | false =>
    refine ⟨([], 1), by simp, fun k hk => ?_⟩
    obtain ⟨k, rfl⟩ : ∃ m, k = m + 1 := ⟨k - 1, by omega⟩
    obtain ⟨r1, r2⟩ := recipe_eq s l hl (k + 1) (by omega)
    unfold spec_RecipeShades.f impl_RecipeShades.f
    rw [r1, r2, c2, ho]
    simp [impl_RecipeShades.j0]
  | true =>
    by_cases h0 : c = 0
    · obtain ⟨s0, s1, sp, h, w, hd, b0, b1, hh⟩ := c3 h0
      obtain ⟨r, hr0, hr⟩ := shades_loops a s l ho hd b0 b1 hh l.length 0 sh [] (by omega) s0 s1 rfl
      refine ⟨r, hr0, fun k hk => ?_⟩
      obtain ⟨k, rfl⟩ : ∃ m, k = m + 1 := ⟨k - 1, by omega⟩
      obtain ⟨r1, r2⟩ := recipe_eq s l hl (k + 1) (by omega)
      have q1 := (hr (k + 1) (by omega)).1
      have q2 := (hr k (by omega)).2
      simp only [Int.natCast_zero] at q1 q2
      unfold spec_RecipeShades.f impl_RecipeShades.f
      rw [r1, r2, c2, ho]
      simp [impl_RecipeShades.j0, c1 (k + 1) (by omega), h0, q1, q2]
    · refine ⟨([], c), by simp, fun k hk => ?_⟩
      obtain ⟨k, rfl⟩ : ∃ m, k = m + 1 := ⟨k - 1, by omega⟩
      obtain ⟨r1, r2⟩ := recipe_eq s l hl (k + 1) (by omega)
      unfold spec_RecipeShades.f impl_RecipeShades.f
      rw [r1, r2, c2, ho]
      simp [impl_RecipeShades.j0, c1 (k + 1) (by omega), h0]

theorem markStepS_eq (l : List S38) (hl : l.length ≤ 1048576) (k : Nat) (hk : l.length + 30 < k) : ∃ m l', laws_markStepS.f k l 1 = some (m, l') ∧ 0 ≤ m := by
  have key : ∀ (n i k : Nat) (s : List S38), i + n = l.length → n + 25 < k → s.length = l.length → ∃ m l', laws_markStepS.l0 k s (1 + 3 * i) (i : Int) = some (m, l') ∧ 0 ≤ m := by
    intro n
    induction n with
    | zero =>
      intro i k s hi hk hs
      obtain ⟨k, rfl⟩ : ∃ m, k = m + 1 := ⟨k - 1, by omega⟩
      simp only [laws_markStepS.l0]
      rw [if_neg (by omega)]
      exact ⟨_, _, rfl, by omega⟩
    | succ n ih =>
      intro i k s hi hk hs
      obtain ⟨k, rfl⟩ : ∃ m, k = m + 1 := ⟨k - 1, by omega⟩
      simp only [laws_markStepS.l0]
      rw [if_pos (by omega), if_pos (by omega), w64 (x := 1 + 3 * (i : Int) + 1) (by omega) (by omega), w64 (x := 1 + 3 * (i : Int) + 1 + 1) (by omega) (by omega), w64 (x := 1 + 3 * (i : Int) + 1 + 1 + 1) (by omega) (by omega), wnat (by omega), show 1 + 3 * (i : Int) + 1 + 1 + 1 = 1 + 3 * ((i + 1 : Nat) : Int) by omega]
      simp only [Option.bind_some]
      exact ih (i + 1) k _ (by omega) (by omega) (by simp [hs])
  have := key l.length 0 k l (by omega) (by omega) rfl
  unfold laws_markStepS.f
  simpa using this

theorem FnExactRecipeShades : laws_FnExactRecipeShades.Pure := by
  intro a sh s l ha _ ⟨hs, hl, _⟩
  obtain ⟨k, hk⟩ : ∃ k : Nat, k = 1049200 := ⟨_, rfl⟩
  refine ⟨k + 1 + 1 + 1, ?_⟩
  unfold laws_FnExactRecipeShades.f
  by_cases hsz : (a.size : Int) > 1048576
  · rw [if_pos hsz]
  rw [if_neg hsz]
  obtain ⟨v, e1, h1⟩ := szRecipe_eq s l 1048576 (by omega) (by omega) hs hl
  rw [e1]
  simp only [Option.bind_some]
  rcases h1 with h1 | ⟨h1, h2, h3, h4⟩
  · rw [if_pos h1]
  have h4' : (l.map toSt).length ≤ 1048576 := by simpa using h4
  obtain ⟨r, p3, pr⟩ := res_eq a sh s (l.map toSt) h4'
  have p1 := (pr (k + 1 + 1 + 1) (by omega)).1
  have p2 := (pr (k + 1 + 1 + 1) (by omega)).2
  have p2' := (pr (k + 1) (by omega)).2
  rw [if_neg (by omega), toRecipe_eq s l h4 _ (by omega)]
  simp only [Option.bind_some]
  rw [p1]
  simp only [Option.bind_some]
  rw [p2]
  simp only [Option.bind_some]
  rw [eqInt64S_eq r.1 (by omega) _ (by omega)]
  simp only [Option.bind_some, if_true, bne_self_eq_false]
  obtain ⟨m, l', hm, hm0⟩ := markStepS_eq (l.map toSt) h4' (k + 1 + 1) (by simp; omega)
  have hm' : laws_markRecipe.f (k + 1 + 1) s (l.map toSt) 1 = some (m, l') := by
    unfold laws_markRecipe.f; rw [hm]; rfl
  simp only [laws_FnExactRecipeShades.j0, Bool.false_eq_true, if_false]
  rw [toRecipe_eq s l h4 _ (by omega)]
  simp only [Option.bind_some]
  rw [eqRecipe_eq s (l.map toSt) h4' _ (by simp; omega)]
  simp only [Option.bind_some, if_true]
  rw [hm']
  simp only [Option.bind_some]
  rw [if_neg (by omega), eqInt64S_eq r.1 (by omega) _ (by omega)]
  simp only [Option.bind_some, if_true, laws_FnExactRecipeShades.j1, Bool.false_eq_true, if_false]
  rw [markInts_eq r.1 (by omega) 1 (by omega) (by omega) (k + 1) (by omega)]
  simp only [Option.bind_some]
  rw [heldInts_eq r.1.length (by omega) 1 (by omega) (by omega) (k + 1) (by omega)]
  simp only [Option.bind_some]
  rw [if_neg (show ¬ (1 + (r.1.length : Int) < 0) by omega)]
  simp only [if_true]
  rw [toRecipe_eq s l h4 _ (by omega)]
  simp only [Option.bind_some]
  rw [p2']
  simp only [Option.bind_some]
  rw [eqInt64S_eq r.1 (by omega) _ (by omega)]
  simp only [Option.bind_some, if_true, bne_self_eq_false, laws_FnExactRecipeShades.j2, Bool.false_eq_true, if_false]
  rw [heldInts_eq r.1.length (by omega) 1 (by omega) (by omega) k (by omega)]
  simp only [Option.bind_some]
  rw [if_neg (show ¬ (1 + (r.1.length : Int) < 0) by omega)]
  simp

end Go.Proofs.Yteijbdngbmciaaa.Pure

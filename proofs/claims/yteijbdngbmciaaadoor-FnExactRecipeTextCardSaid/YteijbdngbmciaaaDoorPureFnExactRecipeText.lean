/- FnExactRecipeText: the program's RecipeText returns what the reference's returns, for all arguments; no condition but that the listed tables read as the card ties them. -/
import Derived.Test.YteijbdngbmciaaaDoorGFnExactRecipeTextx
import Derived.Lib.ItoaLen
import Derived.Lib.Join
import Derived.Lib.SplitLaws
import Derived.Lib.IndexBytes
namespace Go.Proofs.YteijbdngbmciaaaDoor.Pure
open Go.RowKit Go.Proofs.YteijbdngbmciaaaDoor.GFnExactRecipeText Go.Proofs.YteijbdngbmciaaaDoorW.PrintWords Go.Proofs.YteijbdngbmciaaaDoorW.PrintLast
set_option linter.unusedSimpArgs false
set_option linter.unusedVariables false

theorem w64 {x : Int} (h0 : -9223372036854775808 ≤ x) (h1 : x ≤ 9223372036854775807) : wrap64 x = x := by
  unfold wrap64; omega

theorem within_eq (a b c : Int) : impl_within.f a b c = some (decide (b ≤ a ∧ a ≤ c)) := by
  unfold impl_within.f
  by_cases h : a ≥ b
  · rw [if_pos h]; simp [h]
  · rw [if_neg h]; simp; omega

theorem l00In_eq (a b c : Int) : spec_l00In.f a b c = some (decide (b ≤ a ∧ a ≤ c)) := by
  unfold spec_l00In.f
  by_cases h : a ≥ b
  · rw [if_pos h]; simp [h]
  · rw [if_neg h]; simp; omega

/-- a loop over a list: from one state to the next, or out of it -/
def run {α σ β : Type} (st : σ → α → Nat → σ ⊕ β) (en : σ → β) : List α → σ → Nat → β
  | [], s, _ => en s
  | x :: xs, s, i => match st s x i with
    | .inl s' => run st en xs s' (i + 1)
    | .inr r => r

theorem loop_run {α σ β : Type} (xs : List α) (K0 : Nat) (Inv : σ → Nat → Prop) (L : Nat → σ → Int → Option β) (st : σ → α → Nat → σ ⊕ β) (en : σ → β)
    (hs : ∀ (k : Nat) (s : σ) (i : Nat) (h : i < xs.length), K0 ≤ k → Inv s i →
      (∃ s', st s xs[i] i = .inl s' ∧ Inv s' (i + 1) ∧ L (k + 1) s (i : Int) = L k s' ((i + 1 : Nat) : Int)) ∨ (∃ r, st s xs[i] i = .inr r ∧ L (k + 1) s (i : Int) = some r))
    (he : ∀ (k : Nat) (s : σ), K0 ≤ k → Inv s xs.length → L (k + 1) s (xs.length : Int) = some (en s)) :
    ∀ (n i k : Nat) (s : σ), i + n = xs.length → K0 + n < k → Inv s i → L k s (i : Int) = some (run st en (xs.drop i) s i) := by
  intro n
  induction n with
  | zero =>
    intro i k s hi hk hI
    obtain ⟨k, rfl⟩ : ∃ m, k = m + 1 := ⟨k - 1, by omega⟩
    obtain rfl : i = xs.length := by omega
    rw [he k s (by omega) hI, List.drop_length]; rfl
  | succ n ih =>
    intro i k s hi hk hI
    obtain ⟨k, rfl⟩ : ∃ m, k = m + 1 := ⟨k - 1, by omega⟩
    have hlt : i < xs.length := by omega
    rw [List.drop_eq_getElem_cons hlt]
    rcases hs k s i hlt (by omega) hI with ⟨s', h1, h2, h3⟩ | ⟨r, h1, h3⟩
    · rw [h3, ih (i + 1) k s' (by omega) (by omega) h2]
      simp only [run, h1]
    · rw [h3]
      simp only [run, h1]

theorem loop_run0 {α σ β : Type} (xs : List α) (K0 : Nat) (Inv : σ → Nat → Prop) (L : Nat → σ → Int → Option β) (st : σ → α → Nat → σ ⊕ β) (en : σ → β)
    (hs : ∀ (k : Nat) (s : σ) (i : Nat) (h : i < xs.length), K0 ≤ k → Inv s i →
      (∃ s', st s xs[i] i = .inl s' ∧ Inv s' (i + 1) ∧ L (k + 1) s (i : Int) = L k s' ((i + 1 : Nat) : Int)) ∨ (∃ r, st s xs[i] i = .inr r ∧ L (k + 1) s (i : Int) = some r))
    (he : ∀ (k : Nat) (s : σ), K0 ≤ k → Inv s xs.length → L (k + 1) s (xs.length : Int) = some (en s)) (k : Nat) (s : σ) (hk : K0 + xs.length < k) (hI : Inv s 0) :
    L k s 0 = some (run st en xs s 0) := by
  have := loop_run xs K0 Inv L st en hs he xs.length 0 k s (by omega) hk hI
  simpa using this

/-- a row that is made and then filled, element by element -/
theorem loop_map {α β : Type} (xs : List α) (z : β) (c : α → β) (L : Nat → List β → Int → Option (List β))
    (hs : ∀ (k : Nat) (s : List β) (i : Nat) (h : i < xs.length), s.length = xs.length → L (k + 1) s (i : Int) = L k (s.set i (c xs[i])) ((i + 1 : Nat) : Int))
    (he : ∀ (k : Nat) (s : List β), L (k + 1) s (xs.length : Int) = some s) (k : Nat) (hk : xs.length < k) :
    L k (List.replicate xs.length z) 0 = some (xs.map c) := by
  have key : ∀ (n i k : Nat) (s : List β), i + n = xs.length → n < k → s.length = xs.length → s.take i = (xs.map c).take i → L k s (i : Int) = some (xs.map c) := by
    intro n
    induction n with
    | zero =>
      intro i k s hi hk hl ht
      obtain ⟨k, rfl⟩ : ∃ m, k = m + 1 := ⟨k - 1, by omega⟩
      obtain rfl : i = xs.length := by omega
      have h1 : s.take xs.length = s := List.take_of_length_le (by omega)
      rw [he, ← h1, ht, List.take_of_length_le (by simp)]
    | succ n ih =>
      intro i k s hi hk hl ht
      obtain ⟨k, rfl⟩ : ∃ m, k = m + 1 := ⟨k - 1, by omega⟩
      have hlt : i < xs.length := by omega
      rw [hs k s i hlt hl]
      refine ih (i + 1) k _ (by omega) (by omega) (by rw [List.length_set]; exact hl) ?_
      rw [List.take_succ_eq_append_getElem (by rw [List.length_set]; omega), List.take_succ_eq_append_getElem (by rw [List.length_map]; omega), List.take_set_of_le (by omega), ht]
      simp
  have := key xs.length 0 k (List.replicate xs.length z) (by omega) hk (by simp) (by simp)
  simpa using this

theorem wnat {n : Nat} (h : n < 9223372036854775807) : wrap64 ((n : Int) + 1) = ((n + 1 : Nat) : Int) := by
  unfold wrap64; omega

theorem loop_all {β : Type} (n K0 : Nat) (L : Nat → Int → Option β) (r : β) (hs : ∀ (k i : Nat), K0 ≤ k → i < n → L (k + 1) (i : Int) = L k ((i + 1 : Nat) : Int)) (he : ∀ k : Nat, L (k + 1) (n : Int) = some r)
    (k : Nat) (hk : K0 + n < k) : L k 0 = some r := by
  have key : ∀ (m i k : Nat), i + m = n → K0 + m < k → L k (i : Int) = some r := by
    intro m
    induction m with
    | zero =>
      intro i k hi hk
      obtain ⟨k, rfl⟩ : ∃ m, k = m + 1 := ⟨k - 1, by omega⟩
      obtain rfl : i = n := by omega
      exact he k
    | succ m ih =>
      intro i k hi hk
      obtain ⟨k, rfl⟩ : ∃ m, k = m + 1 := ⟨k - 1, by omega⟩
      rw [hs k i (by omega) (by omega)]
      exact ih (i + 1) k (by omega) (by omega)
  simpa using key n 0 k (by omega) hk

theorem all_from {α β : Type} (xs : List α) (K0 : Nat) (p : α → Bool) (r0 r1 : β) (L : Nat → Int → Option β)
    (hs : ∀ (k i : Nat) (h : i < xs.length), K0 ≤ k → L (k + 1) (i : Int) = if p xs[i] = true then L k ((i + 1 : Nat) : Int) else some r0)
    (he : ∀ k : Nat, K0 ≤ k → L (k + 1) (xs.length : Int) = some r1) : ∀ (n i k : Nat), i + n = xs.length → K0 + n < k → L k (i : Int) = some (if (xs.drop i).all p = true then r1 else r0) := by
  intro n
  induction n with
  | zero =>
    intro i k hi hk
    obtain ⟨k, rfl⟩ : ∃ m, k = m + 1 := ⟨k - 1, by omega⟩
    obtain rfl : i = xs.length := by omega
    rw [he k (by omega), List.drop_length]; rfl
  | succ n ih =>
    intro i k hi hk
    obtain ⟨k, rfl⟩ : ∃ m, k = m + 1 := ⟨k - 1, by omega⟩
    have hlt : i < xs.length := by omega
    rw [hs k i hlt (by omega), List.drop_eq_getElem_cons hlt, List.all_cons]
    cases hp : p xs[i] with
    | true => rw [if_pos rfl, ih (i + 1) k (by omega) (by omega), Bool.true_and]
    | false => simp

theorem all_loop {α β : Type} (xs : List α) (K0 : Nat) (p : α → Bool) (r0 r1 : β) (L : Nat → Int → Option β)
    (hs : ∀ (k i : Nat) (h : i < xs.length), K0 ≤ k → L (k + 1) (i : Int) = if p xs[i] = true then L k ((i + 1 : Nat) : Int) else some r0)
    (he : ∀ k : Nat, K0 ≤ k → L (k + 1) (xs.length : Int) = some r1) (k : Nat) (hk : K0 + xs.length < k) : L k 0 = some (if xs.all p = true then r1 else r0) := by
  simpa using all_from xs K0 p r0 r1 L hs he xs.length 0 k (by omega) hk

theorem idx_from {α : Type} (xs : List α) (K0 : Nat) (q : α → Bool) (L : Nat → Int → Option Int)
    (hs : ∀ (k i : Nat) (h : i < xs.length), K0 ≤ k → L (k + 1) (i : Int) = if q xs[i] = true then some (i : Int) else L k ((i + 1 : Nat) : Int))
    (he : ∀ k : Nat, K0 ≤ k → L (k + 1) (xs.length : Int) = some (-1)) : ∀ (n i k : Nat), i + n = xs.length → K0 + n < k → ∃ r, L k (i : Int) = some r ∧ decide (r ≥ 0) = (xs.drop i).any q := by
  intro n
  induction n with
  | zero =>
    intro i k hi hk
    obtain ⟨k, rfl⟩ : ∃ m, k = m + 1 := ⟨k - 1, by omega⟩
    obtain rfl : i = xs.length := by omega
    exact ⟨-1, he k (by omega), by rw [List.drop_length]; rfl⟩
  | succ n ih =>
    intro i k hi hk
    obtain ⟨k, rfl⟩ : ∃ m, k = m + 1 := ⟨k - 1, by omega⟩
    have hlt : i < xs.length := by omega
    rw [hs k i hlt (by omega), List.drop_eq_getElem_cons hlt, List.any_cons]
    cases hp : q xs[i] with
    | true => exact ⟨i, by rw [if_pos rfl], by simp⟩
    | false =>
      obtain ⟨r, h1, h2⟩ := ih (i + 1) k (by omega) (by omega)
      exact ⟨r, by rw [if_neg (by simp)]; exact h1, by rw [h2]; simp⟩

theorem idx_loop {α : Type} (xs : List α) (K0 : Nat) (q : α → Bool) (L : Nat → Int → Option Int)
    (hs : ∀ (k i : Nat) (h : i < xs.length), K0 ≤ k → L (k + 1) (i : Int) = if q xs[i] = true then some (i : Int) else L k ((i + 1 : Nat) : Int))
    (he : ∀ k : Nat, K0 ≤ k → L (k + 1) (xs.length : Int) = some (-1)) (k : Nat) (hk : K0 + xs.length < k) : ∃ r, L k 0 = some r ∧ decide (r ≥ 0) = xs.any q := by
  simpa using idx_from xs K0 q L hs he xs.length 0 k (by omega) hk

theorem any_not {α : Type} (l : List α) (p : α → Bool) : l.any (fun x => !p x) = !l.all p := by
  induction l with
  | nil => rfl
  | cons x l ih => rw [List.any_cons, List.all_cons, ih]; cases p x <;> simp

theorem rdi (xs : List Int) (i : Nat) (h : i < xs.length) : rd xs (i : Int) = xs[i] := by
  unfold rd; simp [List.getD, h]

theorem rd61 (xs : List S61) (i : Nat) (h : i < xs.length) : rd_T61 xs (i : Int) = xs[i] := by
  unfold rd_T61; simp [List.getD, h]
theorem rd44 (xs : List S44) (i : Nat) (h : i < xs.length) : rd_T44 xs (i : Int) = xs[i] := by
  unfold rd_T44; simp [List.getD, h]

def toSt (x : S61) : S44 := ⟨x.f0, x.f1, x.f2⟩

theorem toStepS_eq (l : List S61) (hl : l.length ≤ 1048576) (k : Nat) (hk : l.length < k) : laws_toStepS.f k l = some (l.map toSt) := by
  unfold laws_toStepS.f
  rw [if_pos (by omega), if_pos (by omega), show ((l.length : Int)).toNat = l.length by omega]
  refine loop_map l z44 toSt (fun k s i => laws_toStepS.l0 k l s i) ?_ ?_ k hk
  · intro k s i h hs
    simp only [laws_toStepS.l0]
    rw [if_pos (by omega), if_pos (by omega), rd61 l i h]
    unfold laws_toStep.f
    simp only [Option.bind_some]
    rw [if_pos (by omega), wnat (by omega)]
    rfl
  · intro k s
    simp only [laws_toStepS.l0]
    rw [if_neg (by omega)]

theorem eqStepS_eq (l : List S44) (hl : l.length ≤ 1048576) (k : Nat) (hk : l.length < k) : laws_eqStepS.f k l l = some true := by
  unfold laws_eqStepS.f
  rw [if_pos rfl]
  refine loop_all l.length 0 (fun k i => laws_eqStepS.l0 k l l i) true ?_ ?_ k (by omega)
  · intro k i _ h
    simp only [laws_eqStepS.l0]
    rw [if_pos (by omega), if_pos (by omega), if_pos (by omega)]
    unfold laws_eqStep.f
    simp only [if_true, Option.bind_some]
    rw [wnat (by omega)]
  · intro k
    simp only [laws_eqStepS.l0]
    rw [if_neg (by omega)]

theorem szStepS_eq (l : List S61) (a : Int) (ha : 0 ≤ a) (ha2 : a ≤ 1048576) (hl : l.length ≤ maxLen) : laws_szStepS.f l a = some (if a < l.length then -1 else a - l.length) := by
  unfold maxLen at hl
  unfold laws_szStepS.f
  rw [w64 (x := a - l.length) (by omega) (by omega)]
  by_cases h : a < l.length
  · rw [if_pos (by omega), if_pos h]
  · rw [if_neg (by omega), if_neg h]

theorem szRecipe_eq (s : ByteArray) (l : List S61) (a : Int) (ha : 0 ≤ a) (ha2 : a ≤ 1048576) (hs : s.size ≤ maxLen) (hl : l.length ≤ maxLen) :
    ∃ v, laws_szRecipe.f s l a = some v ∧ (v < 0 ∨ 0 ≤ v ∧ v ≤ a ∧ s.size ≤ 1048576 ∧ l.length ≤ 1048576) := by
  unfold maxLen at hs
  unfold laws_szRecipe.f
  rw [w64 (x := a - s.size) (by omega) (by omega)]
  by_cases h : a - s.size < 0
  · rw [if_pos h]; exact ⟨_, rfl, .inl (by omega)⟩
  · rw [if_neg h, szStepS_eq l _ (by omega) (by omega) hl]
    simp only [Option.bind_some]
    by_cases h2 : a - s.size < l.length
    · rw [if_pos h2, if_pos (by omega)]; exact ⟨_, rfl, .inl (by omega)⟩
    · rw [if_neg h2, if_neg (by omega)]; exact ⟨_, rfl, .inr ⟨by omega, by omega, by omega, by omega⟩⟩

theorem bt_byte (s : ByteArray) (i : Int) : 0 ≤ bt s i ∧ bt s i ≤ 255 := by
  unfold bt
  split
  · have := (s[i.toNat]'(by assumption)).toNat_lt; omega
  · omega

/-- a letter or a digit of a name -/
def nmC (c : Int) : Bool := decide (97 ≤ c ∧ c ≤ 122 ∨ 48 ≤ c ∧ c ≤ 57)

theorem nil_iff (s : ByteArray) : s.toList = [] ↔ s.size = 0 := by
  rw [ByteArray.toList_eq]
  constructor
  · intro h
    have : s.data.toList.length = 0 := by rw [h]; rfl
    rw [Array.length_toList] at this; exact this
  · intro h
    apply List.eq_nil_of_length_eq_zero
    rw [Array.length_toList]; exact h

theorem small_eq (c : Int) : spec_l01Small.f c = some (decide (97 ≤ c ∧ c ≤ 122)) := by
  unfold spec_l01Small.f
  by_cases h : c ≥ 97
  · rw [if_pos h]; simp [h]
  · rw [if_neg h]; simp; omega
theorem digit_eq (c : Int) : spec_l01Digit.f c = some (decide (48 ≤ c ∧ c ≤ 57)) := by
  unfold spec_l01Digit.f
  by_cases h : c ≥ 48
  · rw [if_pos h]; simp [h]
  · rw [if_neg h]; simp; omega

theorem name_loop (s : ByteArray) (hs : s.size ≤ 10) : ∀ (n i k : Nat), i + n = s.size → n < k →
    ∃ b, spec_l01Name.l0 k s (i : Int) = some b ∧ impl_IsName.l0 k s (i : Int) = some b := by
  intro n
  induction n with
  | zero =>
    intro i k hi hk
    obtain ⟨k, rfl⟩ : ∃ m, k = m + 1 := ⟨k - 1, by omega⟩
    simp only [spec_l01Name.l0, impl_IsName.l0]
    exact ⟨true, by rw [if_neg (by omega)], by rw [if_neg (by omega)]⟩
  | succ n ih =>
    intro i k hi hk
    obtain ⟨k, rfl⟩ : ∃ m, k = m + 1 := ⟨k - 1, by omega⟩
    obtain ⟨b, e1, e2⟩ := ih (i + 1) k (by omega) (by omega)
    have hw : wrap64 ((i : Int) + 1) = ((i + 1 : Nat) : Int) := wnat (by omega)
    have a1 : (i : Int) < (s.size : Int) := by omega
    have a2 : (0 : Int) ≤ (i : Int) := by omega
    simp only [spec_l01Name.l0, impl_IsName.l0, small_eq, digit_eq, Option.bind_some, decide_eq_true_eq, a1, a2, if_true, hw, e1, e2]
    generalize bt s (i : Int) = c
    by_cases h1 : c < 97
    · by_cases h2 : c < 48
      · exact ⟨false, by simp [h1, h2, show ¬ (97 ≤ c ∧ c ≤ 122) by omega, show ¬ (48 ≤ c ∧ c ≤ 57) by omega], by simp [h1, h2]⟩
      · by_cases h3 : c > 57
        · exact ⟨false, by simp [show ¬ (97 ≤ c ∧ c ≤ 122) by omega, show ¬ (48 ≤ c ∧ c ≤ 57) by omega], by simp [h1, h2, h3]⟩
        · exact ⟨b, by simp [show ¬ (97 ≤ c ∧ c ≤ 122) by omega, show (48 ≤ c ∧ c ≤ 57) by omega], by simp [h1, h2, h3]⟩
    · by_cases h4 : c > 122
      · exact ⟨false, by simp [show ¬ (97 ≤ c ∧ c ≤ 122) by omega, show ¬ (48 ≤ c ∧ c ≤ 57) by omega], by simp [h1, h4, show ¬ (c < 48) by omega, show c > 57 by omega]⟩
      · exact ⟨b, by simp [show (97 ≤ c ∧ c ≤ 122) by omega], by simp [h1, h4]⟩

theorem name_eq (s : ByteArray) : ∃ b : Bool, (∀ k, 13 ≤ k → spec_l01Name.f k s = some b ∧ impl_IsName.f k s = some b) := by
  have fin : ∃ b : Bool, spec_l01Name.f 13 s = some b ∧ impl_IsName.f 13 s = some b := by
    unfold spec_l01Name.f impl_IsName.f
    by_cases h0 : s.size = 0
    · exact ⟨false, by simp [(nil_iff s).2 h0, spec_l01Name.j0], by simp [show (s.size : Int) < 1 by omega, impl_IsName.j0]⟩
    · have n0 : ¬ s.toList = [] := fun h => h0 ((nil_iff s).1 h)
      have n1 : ¬ (s.size : Int) < 1 := by omega
      by_cases h1 : (s.size : Int) > 10
      · exact ⟨false, by simp [n0, h1, spec_l01Name.j0], by simp [n1, h1, impl_IsName.j0]⟩
      · have n2 : (0 : Int) < (s.size : Int) := by omega
        simp only [n0, n1, h1, n2, if_true, if_false, small_eq, Option.bind_some]
        obtain ⟨b, e1, e2⟩ := name_loop s (by omega) s.size 0 12 (by omega) (by omega)
        have e1' : spec_l01Name.l0 12 s 0 = some b := e1
        have e2' : impl_IsName.l0 12 s 0 = some b := e2
        generalize bt s 0 = c
        by_cases h2 : c < 97
        · exact ⟨false, by simp [spec_l01Name.j0, show ¬ (97 ≤ c ∧ c ≤ 122) by omega], by simp [impl_IsName.j0, h2]⟩
        · by_cases h3 : c > 122
          · exact ⟨false, by simp [spec_l01Name.j0, show ¬ (97 ≤ c ∧ c ≤ 122) by omega], by simp [impl_IsName.j0, h2, h3]⟩
          · exact ⟨b, by simp [spec_l01Name.j0, show (97 ≤ c ∧ c ≤ 122) by omega, e1'], by simp [impl_IsName.j0, h2, show ¬ (c > 122) by omega, e2']⟩
  obtain ⟨b, e1, e2⟩ := fin
  exact ⟨b, fun k hk => ⟨at_rounds (g := fun k => spec_l01Name.f k s) (fun k => spec_l01Name.mono s k) hk e1, at_rounds (g := fun k => impl_IsName.f k s) (fun k => impl_IsName.mono s k) hk e2⟩⟩

theorem step_eq (x : S44) : ∃ b : Bool, spec_l21Step.f [x] = some b ∧ impl_ValidStep.f x.f0 x.f1 x.f2 = some b ∧
    (b = true → (x.f0 = 1 ∧ 100 ≤ x.f1 ∧ x.f1 ≤ 300 ∧ 0 ≤ x.f2 ∧ x.f2 ≤ 600) ∨ (x.f0 = 2 ∧ 0 ≤ x.f1 ∧ x.f1 ≤ 100 ∧ 0 ≤ x.f2 ∧ x.f2 ≤ 100) ∨ (x.f0 = 3 ∧ 0 ≤ x.f1 ∧ x.f1 ≤ 600 ∧ x.f2 = 0)) := by
  have r : rd_T44 [x] 0 = x := rfl
  unfold impl_ValidStep.f spec_l21Step.f spec_l21Heat.f
  simp only [Option.bind_some, within_eq, l00In_eq, r, List.length_cons, List.length_nil]
  generalize x.f0 = a
  generalize x.f1 = b
  generalize x.f2 = c
  by_cases h1 : a = 1
  · subst h1
    refine ⟨decide (100 ≤ b ∧ b ≤ 300) && decide (0 ≤ c ∧ c ≤ 600), ?_, ?_, ?_⟩
    · by_cases g1 : 100 ≤ b ∧ b ≤ 300 <;> by_cases g2 : 0 ≤ c ∧ c ≤ 600 <;> simp [g1, g2]
    · by_cases g1 : 100 ≤ b ∧ b ≤ 300 <;> by_cases g2 : 0 ≤ c ∧ c ≤ 600 <;> simp [g1, g2]
    · simp; omega
  · by_cases h2 : a = 2
    · subst h2
      refine ⟨decide (0 ≤ b ∧ b ≤ 100) && decide (0 ≤ c ∧ c ≤ 100), ?_, ?_, ?_⟩
      · by_cases g1 : 0 ≤ b ∧ b ≤ 100 <;> by_cases g2 : 0 ≤ c ∧ c ≤ 100 <;> simp [g1, g2]
      · by_cases g1 : 0 ≤ b ∧ b ≤ 100 <;> by_cases g2 : 0 ≤ c ∧ c ≤ 100 <;> simp [g1, g2]
      · simp; omega
    · by_cases h3 : a = 3
      · subst h3
        refine ⟨decide (0 ≤ b ∧ b ≤ 600) && decide (c = 0), ?_, ?_, ?_⟩
        · by_cases g1 : 0 ≤ b ∧ b ≤ 600 <;> by_cases g2 : c = 0 <;> simp [g1, g2]
        · by_cases g1 : 0 ≤ b ∧ b ≤ 600 <;> by_cases g2 : c = 0 <;> simp [g1, g2]
        · simp; omega
      · exact ⟨false, by simp [h1, h2, h3], by simp [h1, h2, h3], by simp⟩

def vs (x : S44) : Bool := impl_ValidStep.f x.f0 x.f1 x.f2 == some true

theorem vs_spec (x : S44) : spec_l21Step.f [x] = some (vs x) ∧ impl_ValidStep.f x.f0 x.f1 x.f2 = some (vs x) ∧
    (vs x = true → (x.f0 = 1 ∧ 100 ≤ x.f1 ∧ x.f1 ≤ 300 ∧ 0 ≤ x.f2 ∧ x.f2 ≤ 600) ∨ (x.f0 = 2 ∧ 0 ≤ x.f1 ∧ x.f1 ≤ 100 ∧ 0 ≤ x.f2 ∧ x.f2 ≤ 100) ∨ (x.f0 = 3 ∧ 0 ≤ x.f1 ∧ x.f1 ≤ 600 ∧ x.f2 = 0)) := by
  obtain ⟨b, e1, e2, e3⟩ := step_eq x
  have e : vs x = b := by unfold vs; rw [e2]; cases b <;> rfl
  rw [e]; exact ⟨e1, e2, e3⟩

def nmB (s : ByteArray) : Bool := impl_IsName.f 13 s == some true

theorem nm_spec (s : ByteArray) (k : Nat) (hk : 13 ≤ k) : spec_l01Name.f k s = some (nmB s) ∧ impl_IsName.f k s = some (nmB s) := by
  obtain ⟨b, hb⟩ := name_eq s
  have e : nmB s = b := by unfold nmB; rw [(hb 13 (Nat.le_refl _)).2]; cases b <;> rfl
  rw [e]; exact hb k hk

def okS (l : List S44) : Bool := l.all vs && decide (l.length ≤ 8)
def okR (s : ByteArray) (l : List S44) : Bool := nmB s && okS l

theorem specSteps (l : List S44) (hl : l.length ≤ 1048576) (k : Nat) (hk : l.length + 20 < k) : spec_l21Steps.f k l = some (okS l) := by
  unfold spec_l21Steps.f okS
  rw [all_loop l 0 vs false (decide (l.length ≤ 8)) (fun k i => spec_l21Steps.l0 k l i) ?_ ?_ k (by omega)]
  · cases l.all vs <;> simp
  · intro k i hi _
    simp only [spec_l21Steps.l0]
    rw [if_pos (by omega), if_pos (by omega), rd44 l i hi, wnat (by omega), (vs_spec l[i]).1]
    simp only [Option.bind_some]
  · intro k _
    simp only [spec_l21Steps.l0]
    rw [if_neg (by omega)]
    simp; omega

theorem implSteps (l : List S44) (hl : l.length ≤ 1048576) (k : Nat) (hk : l.length + 20 < k) : impl_validSteps.f k l = some (okS l) := by
  unfold impl_validSteps.f okS
  by_cases h : (l.length : Int) ≤ 8
  · rw [if_pos h]
    unfold fi46_47.f fi61_47.f
    obtain ⟨r, h1, h2⟩ := idx_loop l 0 (fun x => !vs x) (fun k i => fi61_47.l0 k l (l.length : Int) i) (by
      intro k i hi _
      simp only [fi61_47.l0]
      rw [if_pos (by omega), if_pos (by omega), if_pos (by omega), rd44 l i hi, wnat (by omega)]
      unfold impl_validSteps_1.f
      rw [(vs_spec l[i]).2.1]
      simp only [Option.bind_some]) (by
      intro k _
      simp only [fi61_47.l0]
      rw [if_neg (by omega)]) k (by omega)
    rw [h1]
    simp only [Option.bind_some]
    rw [h2, any_not]
    simp; omega
  · rw [if_neg h]; simp; omega

theorem recipe_eq (s : ByteArray) (l : List S44) (hl : l.length ≤ 1048576) (k : Nat) (hk : l.length + 30 < k) : spec_l21Ok.f k [(⟨s, l⟩ : S29)] = some (okR s l) ∧ impl_ValidRecipe.f k s l = some (okR s l) := by
  have r : rd_T29 [(⟨s, l⟩ : S29)] 0 = ⟨s, l⟩ := rfl
  unfold spec_l21Ok.f impl_ValidRecipe.f okR
  rw [if_pos (by simp), r, (nm_spec s k (by omega)).1, (nm_spec s k (by omega)).2]
  simp only [Option.bind_some, specSteps l hl k (by omega), implSteps l hl k (by omega)]
  cases nmB s <;> simp

theorem okR_mem {s : ByteArray} {l : List S44} (h : okR s l = true) (i : Nat) (hi : i < l.length) : vs l[i] = true := by
  unfold okR okS at h
  rw [Bool.and_eq_true, Bool.and_eq_true, List.all_eq_true] at h
  exact h.2.1 _ (List.getElem_mem hi)
theorem okR_len {s : ByteArray} {l : List S44} (h : okR s l = true) : l.length ≤ 8 := by
  unfold okR okS at h
  rw [Bool.and_eq_true, Bool.and_eq_true, decide_eq_true_eq] at h
  exact h.2.2

theorem toRecipe_eq (s : ByteArray) (l : List S61) (hl : l.length ≤ 1048576) (k : Nat) (hk : l.length < k) : laws_toRecipe.f k s l = some (s, l.map toSt) := by
  unfold laws_toRecipe.f
  rw [toStepS_eq l hl k hk]; rfl
theorem eqRecipe_eq (s : ByteArray) (l : List S44) (hl : l.length ≤ 1048576) (k : Nat) (hk : l.length < k) : laws_eqRecipe.f k s l s l = some true := by
  unfold laws_eqRecipe.f
  simp [eqStepS_eq l hl k hk]

theorem itoa_len (n : Int) (h0 : -9223372036854775808 ≤ n) (h1 : n ≤ 9223372036854775807) : (Lib.itoa n).length ≤ 21 := Lib.itoa_length_le n h0 h1

theorem fmt_eq (n : Int) (h0 : -9223372036854775808 ≤ n) (h1 : n ≤ 9223372036854775807) : impl_Decimal.f n [()] = some ⟨(Lib.itoa n).toArray⟩ := by
  unfold impl_Decimal.f Go.Proofs.YteijbdngbmciaaaDoorX.strconv_FormatInt.f
  rw [if_pos ⟨rfl, rfl, h0, h1⟩]; rfl

/-- digits, the last first -/
def digs (u : Nat) : List Int := if h : u = 0 then [] else (48 + (u % 10 : Nat) : Int) :: digs (u / 10)
termination_by u
decreasing_by omega

def toB (xs : List Int) : List UInt8 := xs.map fun x => UInt8.ofNat x.toNat

theorem strOf_eq (xs : List Int) : strOfNums xs = ⟨(toB xs).toArray⟩ := by
  unfold strOfNums toB
  simp

theorem digs_dec : ∀ (u : Nat), 0 < u → toB (digs u).reverse = Lib.decDigits u := by
  intro u
  induction u using Nat.strongRecOn with
  | ind u ih =>
    intro hu
    rw [digs, dif_neg (by omega), List.reverse_cons]
    by_cases h : u < 10
    · rw [Lib.decDigits_one h, show u / 10 = 0 by omega, digs, dif_pos rfl, show u % 10 = u by omega]
      simp only [toB, List.reverse_nil, List.nil_append, List.map_cons, List.map_nil]
      rw [show ((48 : Int) + (u : Nat)).toNat = 48 + u by omega]
    · have := ih (u / 10) (by omega) (by omega)
      unfold toB at this ⊢
      rw [List.map_append, this, show Lib.decDigits u = Lib.decDigits (u / 10) ++ [UInt8.ofNat (48 + u % 10)] by rw [Lib.decDigits, dif_neg h]]
      simp only [List.map_cons, List.map_nil]
      rw [show ((48 : Int) + ((u % 10 : Nat) : Int)).toNat = 48 + u % 10 by omega]

theorem dec_l1 (xs : List Int) (hx : xs.length ≤ 100) : ∀ (i : Nat) (k : Nat) (out : List Int), i ≤ xs.length → out.length + i ≤ 200 → i < k → spec_l01Dec.l1 k xs out ((i : Int) - 1) = some (strOfNums (out ++ (xs.take i).reverse)) := by
  intro i
  induction i with
  | zero =>
    intro k out _ _ hk
    obtain ⟨k, rfl⟩ : ∃ m, k = m + 1 := ⟨k - 1, by omega⟩
    simp only [spec_l01Dec.l1]
    rw [if_neg (by omega)]; simp
  | succ i ih =>
    intro k out hi ho hk
    obtain ⟨k, rfl⟩ : ∃ m, k = m + 1 := ⟨k - 1, by omega⟩
    have hlt : i < xs.length := by omega
    simp only [spec_l01Dec.l1]
    rw [show ((i + 1 : Nat) : Int) - 1 = (i : Int) by omega, if_pos (by omega), if_pos (by omega), if_pos (by omega), if_pos (by omega), rdi xs i hlt, w64 (by omega) (by omega),
      ih k _ (by omega) (by simp; omega) (by omega), List.take_succ_eq_append_getElem hlt, List.reverse_append]
    simp

theorem dec_j1 (xs : List Int) (hx : xs.length ≤ 100) (k : Nat) (hk : 200 < k) : spec_l01Dec.j1 k xs = some (strOfNums xs.reverse) := by
  obtain ⟨k, rfl⟩ : ∃ m, k = m + 1 := ⟨k - 1, by omega⟩
  simp only [spec_l01Dec.j1]
  rw [w64 (by omega) (by omega), dec_l1 xs hx xs.length k [] (Nat.le_refl _) (by simp; omega) (by omega)]
  simp

theorem dec_l0 (n : Int) : ∀ (d u : Nat) (k : Nat) (out : List Int) (m : Int), (m = u ∨ m = -(u : Int)) → u < 10 ^ d → u ≤ 9223372036854775808 → (m = u → u ≤ 9223372036854775807) → out.length + d ≤ 90 → 300 + d < k →
    spec_l01Dec.l0 k n out m = some (strOfNums (out ++ digs u ++ if n < 0 then [45] else []).reverse) := by
  intro d
  induction d with
  | zero =>
    intro u k out m hm hu _ _ ho hk
    obtain ⟨k, rfl⟩ : ∃ m, k = m + 1 := ⟨k - 1, by omega⟩
    obtain rfl : u = 0 := by simpa using hu
    simp only [spec_l01Dec.l0]
    rw [if_pos (by omega), digs, dif_pos rfl]
    by_cases hn : n < 0
    · rw [if_pos hn, if_pos hn, if_pos (by omega), dec_j1 _ (by simp; omega) k (by omega)]; simp
    · rw [if_neg hn, if_neg hn, dec_j1 _ (by omega) k (by omega)]; simp
  | succ d ih =>
    intro u k out m hm hu hb hp ho hk
    obtain ⟨k, rfl⟩ : ∃ m, k = m + 1 := ⟨k - 1, by omega⟩
    by_cases h0 : u = 0
    · subst h0
      simp only [spec_l01Dec.l0]
      rw [if_pos (by omega), digs, dif_pos rfl]
      by_cases hn : n < 0
      · rw [if_pos hn, if_pos hn, if_pos (by omega), dec_j1 _ (by simp; omega) k (by omega)]; simp
      · rw [if_neg hn, if_neg hn, dec_j1 _ (by omega) k (by omega)]; simp
    · have hq : u / 10 < 10 ^ d := by rw [Nat.pow_succ] at hu; omega
      have e1 : digs u = (48 + ((u % 10 : Nat) : Int)) :: digs (u / 10) := by rw [digs, dif_neg h0]
      have ht : Int.tdiv m 10 = (u / 10 : Nat) ∨ Int.tdiv m 10 = -((u / 10 : Nat) : Int) := by
        rcases hm with rfl | rfl
        · left; rw [Int.tdiv_eq_ediv_of_nonneg (by omega)]; omega
        · right; rw [Int.neg_tdiv, Int.tdiv_eq_ediv_of_nonneg (by omega)]; omega
      have hmod : Int.tmod m 10 = ((u % 10 : Nat) : Int) ∨ Int.tmod m 10 = -((u % 10 : Nat) : Int) := by
        rcases hm with rfl | rfl
        · left; rw [Int.tmod_eq_emod_of_nonneg (by omega)]; omega
        · right; rw [Int.neg_tmod, Int.tmod_eq_emod_of_nonneg (by omega)]; omega
      have hw : wrap64 (Int.tdiv m 10) = Int.tdiv m 10 := w64 (by omega) (by omega)
      have hn := ih (u / 10) k (out ++ [48 + ((u % 10 : Nat) : Int)]) (Int.tdiv m 10) ht hq (by omega) (by omega) (by simp; omega) (by omega)
      simp only [spec_l01Dec.l0]
      rw [if_neg (by omega)]
      by_cases hs : Int.tmod m 10 < 0
      · rw [if_pos hs, if_pos (by omega)]
        have e2 : (wrap64 (48 + wrap64 (-Int.tmod m 10))) % 256 = 48 + ((u % 10 : Nat) : Int) := by
          rw [w64 (x := -Int.tmod m 10) (by omega) (by omega), w64 (by omega) (by omega)]; omega
        rw [e2, hw, hn, e1]; simp
      · rw [if_neg hs, if_pos (by omega)]
        have e2 : (wrap64 (48 + Int.tmod m 10)) % 256 = 48 + ((u % 10 : Nat) : Int) := by
          rw [w64 (by omega) (by omega)]; omega
        rw [e2, hw, hn, e1]; simp

/-- the reference's decimal form is the library's -/
theorem dec_eq (n : Int) (h0 : -9223372036854775808 ≤ n) (h1 : n ≤ 9223372036854775807) (k : Nat) (hk : 400 < k) : spec_l01Dec.f k n = some ⟨(Lib.itoa n).toArray⟩ := by
  unfold spec_l01Dec.f
  by_cases hz : n = 0
  · subst hz
    rw [if_pos rfl]
    have : Lib.itoa 0 = [48] := by unfold Lib.itoa; rw [if_neg (by omega)]; exact Lib.decDigits_one (by omega)
    rw [this]
  · rw [if_neg hz, dec_l0 n 20 n.natAbs k [] n (by omega) (by omega) (by omega) (by omega) (by simp) (by omega), strOf_eq]
    congr 2
    have hd := digs_dec n.natAbs (by omega)
    unfold Lib.itoa
    by_cases hn : n < 0
    · rw [if_pos hn, if_pos hn, ← hd]; simp [toB]
    · rw [if_neg hn, if_neg hn, show n.toNat = n.natAbs by omega, ← hd]; simp

theorem bcat (a b : List UInt8) : (⟨a.toArray⟩ : ByteArray) ++ (⟨b.toArray⟩ : ByteArray) = ⟨(a ++ b).toArray⟩ := by
  apply ByteArray.ext
  simp
theorem bsize (a : List UInt8) : (⟨a.toArray⟩ : ByteArray).size = a.length := by simp [ByteArray.size]
theorem beta_ (s : ByteArray) : s = ⟨s.data.toList.toArray⟩ := by
  apply ByteArray.ext; simp

/-- the text of a list of numbers -/
def ltext (xs : List Int) : List UInt8 := if xs.length = 0 then [45] else Lib.join (xs.map Lib.itoa) [44]
def i64 (n : Int) : Prop := -9223372036854775808 ≤ n ∧ n ≤ 9223372036854775807

theorem joinTail_len (xs : List Int) (hx : ∀ n ∈ xs, i64 n) : (Lib.joinTail [44] (xs.map Lib.itoa)).length ≤ 22 * xs.length := by
  induction xs with
  | nil => simp [Lib.joinTail]
  | cons n xs ih =>
    have h := hx n List.mem_cons_self
    have hl := itoa_len n h.1 h.2
    have hi := ih (fun m hm => hx m (List.mem_cons_of_mem _ hm))
    unfold Lib.joinTail at hi ⊢
    simp only [List.map_cons, List.flatten_cons, List.length_append, List.length_cons, List.length_nil] at hi ⊢
    omega

theorem joinTail_snoc (sep : List UInt8) (r : List (List UInt8)) (x : List UInt8) : Lib.joinTail sep (r ++ [x]) = Lib.joinTail sep r ++ (sep ++ x) := by
  unfold Lib.joinTail; simp

theorem ltext_len (xs : List Int) (hx : ∀ n ∈ xs, i64 n) : (ltext xs).length ≤ 22 * xs.length + 1 := by
  unfold ltext
  cases xs with
  | nil => simp
  | cons n xs =>
    rw [if_neg (by simp), List.map_cons, Lib.join_cons, List.length_append]
    have := joinTail_len xs (fun m hm => hx m (List.mem_cons_of_mem _ hm))
    have h := hx n List.mem_cons_self
    have hl := itoa_len n h.1 h.2
    simp only [List.length_cons]; omega

def fits (xs : List Int) : Bool := decide (xs.length ≤ 64) && xs.all fun n => decide (-1000000000000 ≤ n ∧ n ≤ 1000000000000)

theorem fits_i64 {xs : List Int} (h : fits xs = true) : xs.length ≤ 64 ∧ ∀ n ∈ xs, -1000000000000 ≤ n ∧ n ≤ 1000000000000 := by
  unfold fits at h
  rw [Bool.and_eq_true, decide_eq_true_eq, List.all_eq_true] at h
  exact ⟨h.1, fun n hn => by simpa using h.2 n hn⟩

theorem implList_l1 (xs : List Int) (hl : xs.length ≤ 64) (hx : ∀ n ∈ xs, i64 n) (hp : 1 ≤ xs.length) : ∀ (d i k : Nat), i + d = xs.length → 10 + d < k → impl_ListText.l1 k ((xs.take i).map fun n => ⟨(Lib.itoa n).toArray⟩) xs (xs.length : Int) (i : Int) [()] = some ⟨(Lib.join (xs.map Lib.itoa) [44]).toArray⟩ := by
  intro d
  induction d with
  | zero =>
    intro i k hi hk
    obtain ⟨k, rfl⟩ : ∃ m, k = m + 1 := ⟨k - 1, by omega⟩
    simp only [impl_ListText.l1]
    rw [if_neg (by omega), List.take_of_length_le (by omega)]
    unfold Go.Proofs.YteijbdngbmciaaaDoorX.strings_Join.f
    have e : (xs.map fun n => (⟨(Lib.itoa n).toArray⟩ : ByteArray)).map (·.data.toList) = xs.map Lib.itoa := by rw [List.map_map]; rfl
    rw [e, show (⟨#[44]⟩ : ByteArray).data.toList = [44] from rfl]
    have hj : (Lib.join (xs.map Lib.itoa) [44]).length ≤ 22 * xs.length + 1 := by
      have := ltext_len xs hx
      unfold ltext at this
      rwa [if_neg (by omega)] at this
    rw [if_pos ⟨by simpa using hp, by simp; omega, by omega⟩]; rfl
  | succ d ih =>
    intro i k hi hk
    obtain ⟨k, rfl⟩ : ∃ m, k = m + 1 := ⟨k - 1, by omega⟩
    have hlt : i < xs.length := by omega
    have hm := hx _ (List.getElem_mem hlt)
    simp only [impl_ListText.l1]
    rw [if_pos (by omega), if_pos (by omega), if_pos (by omega), rdi xs i hlt, fmt_eq _ hm.1 hm.2]
    simp only [Option.bind_some]
    rw [if_pos (by simp; omega), wnat (by omega)]
    have := ih (i + 1) k (by omega) (by omega)
    rw [List.take_succ_eq_append_getElem hlt, List.map_append, List.map_cons, List.map_nil] at this
    exact this

theorem implList_eq (xs : List Int) (k : Nat) (hk : 300 < k) : impl_ListText.f k xs [()] = some (if fits xs = true then ⟨(ltext xs).toArray⟩ else ⟨#[]⟩) := by
  unfold impl_ListText.f
  by_cases hl : xs.length ≤ 64
  · rw [if_neg (by omega)]
    have key : ∀ (d i k : Nat), i + d = xs.length → 100 + d < k → (∀ (j : Nat) (h : j < xs.length), j < i → -1000000000000 ≤ xs[j] ∧ xs[j] ≤ 1000000000000) → impl_ListText.l0 k xs xs (xs.length : Int) (i : Int) [()] = some (if fits xs = true then ⟨(ltext xs).toArray⟩ else ⟨#[]⟩) := by
      intro d
      induction d with
      | zero =>
        intro i k hi hk ha
        obtain ⟨k, rfl⟩ : ∃ m, k = m + 1 := ⟨k - 1, by omega⟩
        have hall : ∀ n ∈ xs, -1000000000000 ≤ n ∧ n ≤ 1000000000000 := by
          intro n hn
          obtain ⟨j, hj, rfl⟩ := List.mem_iff_getElem.1 hn
          exact ha j hj (by omega)
        have hf : fits xs = true := by
          unfold fits
          rw [Bool.and_eq_true, decide_eq_true_eq, List.all_eq_true]
          exact ⟨hl, fun n hn => by simpa using hall n hn⟩
        simp only [impl_ListText.l0]
        rw [if_neg (by omega), if_pos hf]
        by_cases h0 : xs.length = 0
        · rw [if_pos (by omega)]
          unfold ltext; rw [if_pos h0]
        · rw [if_neg (by omega)]
          have := implList_l1 xs hl (fun n hn => by have := hall n hn; unfold i64; omega) (by omega) xs.length 0 k (by omega) (by omega)
          unfold ltext; rw [if_neg h0]
          simpa using this
      | succ d ih =>
        intro i k hi hk ha
        obtain ⟨k, rfl⟩ : ∃ m, k = m + 1 := ⟨k - 1, by omega⟩
        have hlt : i < xs.length := by omega
        simp only [impl_ListText.l0]
        rw [if_pos (by omega), if_pos (by omega), if_pos (by omega), rdi xs i hlt, within_eq]
        simp only [Option.bind_some]
        by_cases hw : -1000000000000 ≤ xs[i] ∧ xs[i] ≤ 1000000000000
        · rw [if_pos (decide_eq_true hw), wnat (by omega)]
          refine ih (i + 1) k (by omega) (by omega) (fun j hj hji => ?_)
          by_cases e : j = i
          · subst e; exact hw
          · exact ha j hj (by omega)
        · rw [if_neg (by simpa using hw), if_neg (fun hf => hw ((fits_i64 hf).2 _ (List.getElem_mem hlt)))]
    simpa using key xs.length 0 k (by omega) (by omega) (fun j _ h => absurd h (by omega))
  · rw [if_pos (by omega), if_neg (fun hf => hl (fits_i64 hf).1)]

def bs (l : List UInt8) : ByteArray := ⟨l.toArray⟩
theorem bs_list (l : List UInt8) : (bs l).data.toList = l := rfl
theorem bs_of (s : ByteArray) : bs s.data.toList = s := by apply ByteArray.ext; simp [bs]
theorem bs_size (l : List UInt8) : (bs l).size = l.length := by simp [bs, ByteArray.size]
theorem bs_toList (l : List UInt8) : (bs l).toList = l := by rw [ByteArray.toList_eq]; rfl
theorem bs_inj {a b : List UInt8} (h : bs a = bs b) : a = b := by have := congrArg (fun s => s.data.toList) h; simpa [bs] using this
theorem size_list (s : ByteArray) : s.size = s.data.toList.length := by rw [Array.length_toList]; rfl
theorem extract_bs (l : List UInt8) (a b : Nat) : (bs l).extract a b = bs ((l.drop a).take (b - a)) := by
  rw [← bs_of ((bs l).extract a b), Lib.extract_data, bs_list]
theorem bt_bs (l : List UInt8) (i : Nat) (h : i < l.length) : bt (bs l) (i : Int) = (l[i].toNat : Int) := by
  unfold bt
  rw [dif_pos (by rw [bs_size]; simpa using h)]
  simp [bs, ByteArray.getElem_eq_getElem_data]

/-- a text divided at each byte c -/
def splitL (c : UInt8) : List UInt8 → List (List UInt8)
  | [] => [[]]
  | b :: l => if b = c then [] :: splitL c l else match splitL c l with
    | [] => [[b]]
    | x :: r => (b :: x) :: r

def hd (cur : List UInt8) : List (List UInt8) → List (List UInt8)
  | [] => [cur]
  | x :: r => (cur ++ x) :: r

theorem splitL_ne (c : UInt8) (l : List UInt8) : splitL c l ≠ [] := by
  cases l with
  | nil => simp [splitL]
  | cons b l =>
    rw [splitL]
    split
    · simp
    · split <;> simp

theorem splitL_cons_ne {c b : UInt8} (h : b ≠ c) (l : List UInt8) : splitL c (b :: l) = hd [b] (splitL c l) := by
  rw [splitL, if_neg h]
  cases splitL c l <;> rfl

theorem hd_hd (a b : List UInt8) (x : List (List UInt8)) : hd a (hd b x) = hd (a ++ b) x := by
  cases x <;> simp [hd]

theorem hd_nil (c : UInt8) (l : List UInt8) : hd [] (splitL c l) = splitL c l := by
  have := splitL_ne c l
  cases h : splitL c l with
  | nil => exact absurd h this
  | cons x r => rfl

theorem index_one (c : UInt8) : ∀ l : List UInt8, (c ∉ l ∧ Lib.index l [c] = -1) ∨ (∃ a r, l = a ++ c :: r ∧ c ∉ a ∧ Lib.index l [c] = (a.length : Int))
  | [] => .inl ⟨by simp, rfl⟩
  | b :: l => by
    by_cases h : b = c
    · subst h
      exact .inr ⟨[], l, rfl, by simp, by rw [Lib.index]; simp [List.isPrefixOf]⟩
    · have hp : ([c] : List UInt8).isPrefixOf (b :: l) = false := by simp [List.isPrefixOf, Ne.symm h]
      rcases index_one c l with ⟨h1, h2⟩ | ⟨a, r, h1, h2, h3⟩
      · exact .inl ⟨by simp [h1, Ne.symm h], by rw [Lib.index, hp, h2]; rfl⟩
      · refine .inr ⟨b :: a, r, by rw [h1]; rfl, by simp [h2, Ne.symm h], ?_⟩
        rw [Lib.index, hp, h3]
        rw [if_neg (by simp), if_neg (by rw [beq_iff_eq]; omega)]
        simp

theorem splitL_none (c : UInt8) : ∀ l : List UInt8, c ∉ l → splitL c l = [l]
  | [], _ => rfl
  | b :: l, h => by
    simp only [List.mem_cons, not_or] at h
    rw [splitL_cons_ne (Ne.symm h.1), splitL_none c l h.2]; rfl

theorem splitL_app (c : UInt8) (r : List UInt8) : ∀ a : List UInt8, c ∉ a → splitL c (a ++ c :: r) = a :: splitL c r
  | [], _ => by rw [List.nil_append, splitL, if_pos rfl]
  | b :: a, h => by
    simp only [List.mem_cons, not_or] at h
    rw [List.cons_append, splitL_cons_ne (Ne.symm h.1), splitL_app c r a h.2]; rfl

theorem count_app (c : UInt8) (a r : List UInt8) (h : c ∉ a) : (a ++ c :: r).count c = r.count c + 1 := by
  rw [List.count_append, List.count_eq_zero.2 h, List.count_cons_self]; omega

theorem splitK_eq (c : UInt8) : ∀ (n : Nat) (l : List UInt8), l.count c = n → Lib.splitK [c] 0 n l = splitL c l
  | 0, l, h => by rw [splitL_none c l (List.count_eq_zero.1 h)]; rfl
  | n + 1, l, h => by
    rcases index_one c l with ⟨h1, _⟩ | ⟨a, r, h1, h2, h3⟩
    · rw [List.count_eq_zero.2 h1] at h; omega
    · subst h1
      rw [count_app c a r h2] at h
      rw [Lib.splitK, if_neg (by rw [h3, beq_iff_eq]; omega), h3, splitL_app c r a h2]
      have := splitK_eq c n r (by omega)
      simp only [Int.toNat_natCast, Nat.add_zero, List.length_singleton]
      rw [List.take_left' rfl, show List.drop (a.length + 1) (a ++ c :: r) = r by rw [← List.drop_drop, List.drop_left' rfl]; rfl, this]

theorem map_data_inj : ∀ {x y : List ByteArray}, x.map (·.data.toList) = y.map (·.data.toList) → x = y
  | [], [], _ => rfl
  | [], _ :: _, h => by simp at h
  | _ :: _, [], h => by simp at h
  | a :: x, b :: y, h => by
    simp only [List.map_cons, List.cons.injEq] at h
    rw [map_data_inj h.2, ← bs_of a, ← bs_of b, h.1]

theorem splitB_eq (l : List UInt8) (c : UInt8) : Lib.splitB (bs [c]) 0 (Lib.countB (bs l) (bs [c])) (bs l) = (splitL c l).map bs := by
  apply map_data_inj
  rw [Lib.splitB_data, bs_list, bs_list, List.map_map]
  have e : ((fun x : ByteArray => x.data.toList) ∘ bs) = id := by funext x; rfl
  rw [e, List.map_id]
  have hc : Lib.countB (bs l) (bs [c]) = l.count c := by
    rw [show Lib.countB (bs l) (bs [c]) = Lib.count (bs l).data.toList (bs [c]).data.toList from rfl, bs_list, bs_list, Lib.count_one]
  rw [hc]
  exact splitK_eq c _ l rfl

theorem splitL_len (c : UInt8) : ∀ l : List UInt8, (splitL c l).length ≤ l.length + 1
  | [] => by simp [splitL]
  | b :: l => by
    have := splitL_len c l
    by_cases h : b = c
    · rw [splitL, if_pos h]; simp; omega
    · rw [splitL_cons_ne h]
      cases hs : splitL c l with
      | nil => simp [hd]
      | cons x r => rw [hs] at this; simp [hd] at this ⊢; omega

theorem implSplit (l : List UInt8) (c : UInt8) (hl : l.length ≤ 1048576) : Go.Proofs.YteijbdngbmciaaaDoorX.strings_Split.f (bs l) (bs [c]) [()] = some ((splitL c l).map bs) := by
  unfold Go.Proofs.YteijbdngbmciaaaDoorX.strings_Split.f
  rw [if_pos ⟨rfl, by rw [bs_size]; omega, by rw [bs_size]; simp⟩, splitB_eq]

theorem splitL_mem {c b : UInt8} (hb : b ≠ c) : ∀ {l : List UInt8}, b ∈ l → ∃ p ∈ splitL c l, b ∈ p
  | x :: l, h => by
    by_cases hx : x = c
    · rw [splitL, if_pos hx]
      rcases List.mem_cons.1 h with rfl | h
      · exact absurd hx hb
      · obtain ⟨p, hp, h2⟩ := splitL_mem hb h
        exact ⟨p, List.mem_cons_of_mem _ hp, h2⟩
    · rw [splitL_cons_ne hx]
      have hne := splitL_ne c l
      cases hs : splitL c l with
      | nil => exact absurd hs hne
      | cons y r =>
        rcases List.mem_cons.1 h with rfl | h
        · exact ⟨[b] ++ y, by simp [hd], by simp⟩
        · obtain ⟨p, hp, h2⟩ := splitL_mem hb h
          rw [hs] at hp
          rcases List.mem_cons.1 hp with rfl | hp
          · exact ⟨[x] ++ p, by simp [hd], by simp [h2]⟩
          · exact ⟨p, by simp [hd, hp], h2⟩

theorem splitL_part {c : UInt8} : ∀ {l p : List UInt8}, p ∈ splitL c l → p.length ≤ l.length ∧ ∀ b ∈ p, b ∈ l
  | [], p, h => by simp [splitL] at h; subst h; simp
  | x :: l, p, h => by
    by_cases hx : x = c
    · rw [splitL, if_pos hx] at h
      rcases List.mem_cons.1 h with rfl | h
      · simp
      · have := splitL_part h
        exact ⟨by simp; omega, fun b hb => List.mem_cons_of_mem _ (this.2 b hb)⟩
    · rw [splitL_cons_ne hx] at h
      have hne := splitL_ne c l
      cases hs : splitL c l with
      | nil => exact absurd hs hne
      | cons y r =>
        rw [hs] at h
        rcases List.mem_cons.1 h with rfl | h
        · have := splitL_part (show y ∈ splitL c l by rw [hs]; exact List.mem_cons_self)
          refine ⟨by simp; omega, fun b hb => ?_⟩
          rcases List.mem_cons.1 hb with rfl | hb
          · exact List.mem_cons_self
          · exact List.mem_cons_of_mem _ (this.2 b hb)
        · have := splitL_part (show p ∈ splitL c l by rw [hs]; exact List.mem_cons_of_mem _ h)
          exact ⟨by simp; omega, fun b hb => List.mem_cons_of_mem _ (this.2 b hb)⟩

/-- a step as text -/
def stT (x : S44) : List UInt8 :=
  if x.f0 = 1 then [32, 115, 97, 110, 100, 58] ++ Lib.itoa x.f1 ++ [44] ++ Lib.itoa x.f2
  else if x.f0 = 2 then [32, 100, 121, 101, 58] ++ Lib.itoa x.f1 ++ [44] ++ Lib.itoa x.f2
  else [32, 98, 108, 101, 97, 99, 104, 58] ++ Lib.itoa x.f1
/-- a recipe as text -/
def recT (s : List UInt8) (l : List S44) : List UInt8 := s ++ (l.map stT).flatten

theorem vs_in (x : S44) (h : vs x = true) : (x.f0 = 1 ∨ x.f0 = 2 ∨ x.f0 = 3) ∧ (0 ≤ x.f1 ∧ x.f1 ≤ 600) ∧ (0 ≤ x.f2 ∧ x.f2 ≤ 600) := by
  have h1 := (vs_spec x).2.1
  rw [h] at h1
  unfold impl_ValidStep.f at h1
  simp only [within_eq, Option.bind_some] at h1
  by_cases a : x.f0 = 1
  · rw [if_pos a] at h1
    by_cases b : 100 ≤ x.f1 ∧ x.f1 ≤ 300
    · by_cases c : 0 ≤ x.f2 ∧ x.f2 ≤ 600
      · omega
      · simp [b, c] at h1
    · simp [b] at h1
  · rw [if_neg a] at h1
    by_cases a2 : x.f0 = 2
    · rw [if_pos a2] at h1
      by_cases b : 0 ≤ x.f1 ∧ x.f1 ≤ 100
      · by_cases c : 0 ≤ x.f2 ∧ x.f2 ≤ 100
        · omega
        · simp [b, c] at h1
      · simp [b] at h1
    · rw [if_neg a2] at h1
      by_cases a3 : x.f0 = 3
      · rw [if_pos a3] at h1
        by_cases b : 0 ≤ x.f1 ∧ x.f1 ≤ 600
        · by_cases c : x.f2 = 0
          · omega
          · simp [b, c] at h1
        · simp [b] at h1
      · simp [a3] at h1

theorem ltext2 (a b : Int) : ltext [a, b] = Lib.itoa a ++ [44] ++ Lib.itoa b := by
  unfold ltext; rw [if_neg (by simp)]
  simp [Lib.join_cons, Lib.joinTail]

theorem bcat' (a b : List UInt8) : bs a ++ bs b = bs (a ++ b) := bcat a b

theorem stT_len (x : S44) (h : vs x = true) : (stT x).length ≤ 60 := by
  obtain ⟨_, h1, h2⟩ := vs_in x h
  have e1 := itoa_len x.f1 (by omega) (by omega)
  have e2 := itoa_len x.f2 (by omega) (by omega)
  unfold stT
  split
  · simp; omega
  · split <;> simp <;> omega

theorem flat_len (l : List S44) (h : ∀ x ∈ l, vs x = true) : ((l.map stT).flatten).length ≤ 60 * l.length := by
  induction l with
  | nil => simp
  | cons x l ih =>
    have := stT_len x (h x List.mem_cons_self)
    have := ih (fun y hy => h y (List.mem_cons_of_mem _ hy))
    simp only [List.map_cons, List.flatten_cons, List.length_append, List.length_cons]; omega

theorem specRT (s : List UInt8) (l : List S44) (hs : s.length ≤ 1048576) (hl : l.length ≤ 8) (hv : ∀ x ∈ l, vs x = true) (k : Nat) (hk : 1000 < k) : spec_l21Text.f k [(⟨bs s, l⟩ : S29)] = some (bs (recT s l)) := by
  have r : rd_T29 [(⟨bs s, l⟩ : S29)] 0 = ⟨bs s, l⟩ := rfl
  unfold spec_l21Text.f
  rw [if_pos (by simp), r]
  have key : ∀ (d i k : Nat), i + d = l.length → 500 + d < k → spec_l21Text.l0 k (bs (recT s (l.take i))) (i : Int) [(⟨bs s, l⟩ : S29)] = some (bs (recT s l)) := by
    intro d
    induction d with
    | zero =>
      intro i k hi hk
      obtain ⟨k, rfl⟩ : ∃ m, k = m + 1 := ⟨k - 1, by omega⟩
      simp only [spec_l21Text.l0, r]
      rw [if_pos (by simp), if_neg (by omega), List.take_of_length_le (by omega)]
    | succ d ih =>
      intro i k hi hk
      obtain ⟨k, rfl⟩ : ∃ m, k = m + 1 := ⟨k - 1, by omega⟩
      have hlt : i < l.length := by omega
      have hx := hv _ (List.getElem_mem hlt)
      obtain ⟨h0, h1, h2⟩ := vs_in _ hx
      have ht : l.take (i + 1) = l.take i ++ [l[i]] := List.take_succ_eq_append_getElem hlt
      have hf := flat_len (l.take i) (fun x hx => hv x (List.mem_of_mem_take hx))
      have htl : (l.take i).length ≤ 8 := by simp; omega
      have e1 := itoa_len l[i].f1 (by omega) (by omega)
      have e2 := itoa_len l[i].f2 (by omega) (by omega)
      have hrl : (bs (recT s (l.take i))).size ≤ 1050000 := by rw [bs_size]; unfold recT; rw [List.length_append]; omega
      have z1 : (bs (Lib.itoa l[i].f1)).size ≤ 21 := by rw [bs_size]; exact e1
      have z2 : (bs (Lib.itoa l[i].f2)).size ≤ 21 := by rw [bs_size]; exact e2
      have d1 : spec_l01Dec.f k l[i].f1 = some (bs (Lib.itoa l[i].f1)) := dec_eq _ (by omega) (by omega) k (by omega)
      have d2 : spec_l01Dec.f k l[i].f2 = some (bs (Lib.itoa l[i].f2)) := dec_eq _ (by omega) (by omega) k (by omega)
      have hn := ih (i + 1) k (by omega) (by omega)
      have hrt : recT s (l.take (i + 1)) = recT s (l.take i) ++ stT l[i] := by rw [ht]; unfold recT; rw [List.map_append, List.flatten_append, List.map_cons, List.map_nil, List.flatten_cons, List.flatten_nil, List.append_nil, List.append_assoc]
      rw [hrt] at hn
      simp only [spec_l21Text.l0, r]
      rw [if_pos (by simp), if_pos (by omega), if_pos (by omega), rd44 l i hlt]
      generalize hg1 : bs (Lib.itoa l[i].f1) = g1 at *
      generalize hg2 : bs (Lib.itoa l[i].f2) = g2 at *
      rcases h0 with h0 | h0 | h0
      · rw [if_pos h0, d1]
        simp only [Option.bind_some]
        rw [if_pos (by omega), if_pos (by omega), d2]
        simp only [Option.bind_some]
        rw [if_pos (by omega), if_pos (by omega), wnat (by omega)]
        rw [← hg1, ← hg2, show (⟨#[32, 115, 97, 110, 100, 58]⟩ : ByteArray) = bs [32, 115, 97, 110, 100, 58] from rfl, show (⟨#[44]⟩ : ByteArray) = bs [44] from rfl, bcat', bcat', bcat', bcat']
        have : stT l[i] = [32, 115, 97, 110, 100, 58] ++ Lib.itoa l[i].f1 ++ [44] ++ Lib.itoa l[i].f2 := by unfold stT; rw [if_pos h0]
        rw [← this]; exact hn
      · rw [if_neg (by omega), if_pos h0, d1]
        simp only [Option.bind_some]
        rw [if_pos (by omega), if_pos (by omega), d2]
        simp only [Option.bind_some]
        rw [if_pos (by omega), if_pos (by omega), wnat (by omega)]
        rw [← hg1, ← hg2, show (⟨#[32, 100, 121, 101, 58]⟩ : ByteArray) = bs [32, 100, 121, 101, 58] from rfl, show (⟨#[44]⟩ : ByteArray) = bs [44] from rfl, bcat', bcat', bcat', bcat']
        have : stT l[i] = [32, 100, 121, 101, 58] ++ Lib.itoa l[i].f1 ++ [44] ++ Lib.itoa l[i].f2 := by unfold stT; rw [if_neg (by omega), if_pos h0]
        rw [← this]; exact hn
      · rw [if_neg (by omega), if_neg (by omega), d1]
        simp only [Option.bind_some]
        rw [if_pos (by omega), if_pos (by omega), wnat (by omega)]
        rw [← hg1, show (⟨#[32, 98, 108, 101, 97, 99, 104, 58]⟩ : ByteArray) = bs [32, 98, 108, 101, 97, 99, 104, 58] from rfl, bcat', bcat']
        have : stT l[i] = [32, 98, 108, 101, 97, 99, 104, 58] ++ Lib.itoa l[i].f1 := by unfold stT; rw [if_neg (by omega), if_neg (by omega)]
        rw [← this]; exact hn
  have := key l.length 0 k (by omega) (by omega)
  rw [show recT s (l.take 0) = s by unfold recT; simp] at this
  exact this

theorem implRT (s : List UInt8) (l : List S44) (hs : s.length ≤ 1048576) (hl : l.length ≤ 8) (hv : ∀ x ∈ l, vs x = true) (k : Nat) (hk : 1000 < k) : impl_RecipeText.l0 k (bs s) l (l.length : Int) 0 [()] = some (bs (recT s l)) := by
  have key : ∀ (d i k : Nat), i + d = l.length → 500 + d < k → impl_RecipeText.l0 k (bs (recT s (l.take i))) l (l.length : Int) (i : Int) [()] = some (bs (recT s l)) := by
    intro d
    induction d with
    | zero =>
      intro i k hi hk
      obtain ⟨k, rfl⟩ : ∃ m, k = m + 1 := ⟨k - 1, by omega⟩
      simp only [impl_RecipeText.l0]
      rw [if_neg (by omega), List.take_of_length_le (by omega)]
    | succ d ih =>
      intro i k hi hk
      obtain ⟨k, rfl⟩ : ∃ m, k = m + 1 := ⟨k - 1, by omega⟩
      have hlt : i < l.length := by omega
      have hx := hv _ (List.getElem_mem hlt)
      obtain ⟨h0, h1, h2⟩ := vs_in _ hx
      have ht : l.take (i + 1) = l.take i ++ [l[i]] := List.take_succ_eq_append_getElem hlt
      have hf := flat_len (l.take i) (fun x hx => hv x (List.mem_of_mem_take hx))
      have htl : (l.take i).length ≤ 8 := by simp; omega
      have e1 := itoa_len l[i].f1 (by omega) (by omega)
      have e2 := itoa_len l[i].f2 (by omega) (by omega)
      have hrl : (bs (recT s (l.take i))).size ≤ 1050000 := by rw [bs_size]; unfold recT; rw [List.length_append]; omega
      have hf2 : fits [l[i].f1, l[i].f2] = true := by unfold fits; simp; omega
      have d12 : impl_ListText.f k [l[i].f1, l[i].f2] [()] = some (bs (Lib.itoa l[i].f1 ++ [44] ++ Lib.itoa l[i].f2)) := by
        rw [implList_eq _ k (by omega), if_pos hf2, ltext2]; rfl
      have z12 : (bs (Lib.itoa l[i].f1 ++ [44] ++ Lib.itoa l[i].f2)).size ≤ 50 := by rw [bs_size]; simp; omega
      have d1 : impl_Decimal.f l[i].f1 [()] = some (bs (Lib.itoa l[i].f1)) := fmt_eq _ (by omega) (by omega)
      have z1 : (bs (Lib.itoa l[i].f1)).size ≤ 21 := by rw [bs_size]; exact e1
      have hn := ih (i + 1) k (by omega) (by omega)
      have hrt : recT s (l.take (i + 1)) = recT s (l.take i) ++ stT l[i] := by rw [ht]; unfold recT; rw [List.map_append, List.flatten_append, List.map_cons, List.map_nil, List.flatten_cons, List.flatten_nil, List.append_nil, List.append_assoc]
      rw [hrt] at hn
      simp only [impl_RecipeText.l0]
      rw [if_pos (by omega), if_pos (by omega), if_pos (by omega), rd44 l i hlt]
      rcases h0 with h0 | h0 | h0
      · rw [if_pos h0, d12]
        simp only [Option.bind_some]
        rw [if_pos (by omega), if_pos (by omega), wnat (by omega)]
        rw [show (⟨#[32, 115, 97, 110, 100, 58]⟩ : ByteArray) = bs [32, 115, 97, 110, 100, 58] from rfl, bcat', bcat']
        have : stT l[i] = [32, 115, 97, 110, 100, 58] ++ (Lib.itoa l[i].f1 ++ [44] ++ Lib.itoa l[i].f2) := by unfold stT; rw [if_pos h0]; simp
        rw [← this]; exact hn
      · rw [if_neg (by omega), if_pos h0, d12]
        simp only [Option.bind_some]
        rw [if_pos (by omega), if_pos (by omega), wnat (by omega)]
        rw [show (⟨#[32, 100, 121, 101, 58]⟩ : ByteArray) = bs [32, 100, 121, 101, 58] from rfl, bcat', bcat']
        have : stT l[i] = [32, 100, 121, 101, 58] ++ (Lib.itoa l[i].f1 ++ [44] ++ Lib.itoa l[i].f2) := by unfold stT; rw [if_neg (by omega), if_pos h0]; simp
        rw [← this]; exact hn
      · rw [if_neg (by omega), if_neg (by omega), if_pos h0, d1]
        simp only [Option.bind_some]
        rw [if_pos (by omega), if_pos (by omega), wnat (by omega)]
        rw [show (⟨#[32, 98, 108, 101, 97, 99, 104, 58]⟩ : ByteArray) = bs [32, 98, 108, 101, 97, 99, 104, 58] from rfl, bcat', bcat']
        have : stT l[i] = [32, 98, 108, 101, 97, 99, 104, 58] ++ Lib.itoa l[i].f1 := by unfold stT; rw [if_neg (by omega), if_neg (by omega)]
        rw [← this]; exact hn
  have := key l.length 0 k (by omega) (by omega)
  rw [show recT s (l.take 0) = s by unfold recT; simp] at this
  exact this

theorem rectext_eq (s : List UInt8) (l : List S44) (hs : s.length ≤ 1048576) (hl : l.length ≤ 1048576) (k : Nat) (hk : 1048700 < k) :
    spec_RecipeText.f k (bs s) l = some (if okR (bs s) l = true then bs (recT s l) else ⟨#[]⟩) ∧ impl_RecipeText.f k (bs s) l [()] = some (if okR (bs s) l = true then bs (recT s l) else ⟨#[]⟩) := by
  obtain ⟨r1, r2⟩ := recipe_eq (bs s) l hl k (by omega)
  unfold spec_RecipeText.f impl_RecipeText.f
  rw [r1, r2]
  simp only [Option.bind_some]
  cases h : okR (bs s) l with
  | false => simp
  | true =>
    have h8 := okR_len h
    have hv : ∀ x ∈ l, vs x = true := by
      intro x hx
      obtain ⟨i, hi, rfl⟩ := List.mem_iff_getElem.1 hx
      exact okR_mem h i hi
    simp only [if_true]
    rw [specRT s l hs h8 hv k (by omega), implRT s l hs h8 hv k (by omega)]
    exact ⟨rfl, rfl⟩

theorem FnExactRecipeText : laws_FnExactRecipeText.Pure := by
  intro s l ⟨hs, hl, _⟩
  obtain ⟨k, hk⟩ : ∃ k : Nat, k = 1049200 := ⟨_, rfl⟩
  refine ⟨k, ?_⟩
  unfold laws_FnExactRecipeText.f
  obtain ⟨v, e1, h1⟩ := szRecipe_eq s l 1048576 (by omega) (by omega) hs hl
  rw [e1]
  simp only [Option.bind_some]
  rcases h1 with h1 | ⟨h1, h2, h3, h4⟩
  · rw [if_pos h1]
  obtain ⟨m, rfl⟩ : ∃ m, s = bs m := ⟨_, (bs_of s).symm⟩
  rw [bs_size] at h3
  rw [if_neg (by omega), toRecipe_eq (bs m) l h4 k (by omega)]
  simp only [Option.bind_some]
  have h4' : (l.map toSt).length ≤ 1048576 := by simpa using h4
  obtain ⟨r1, r2⟩ := rectext_eq m (l.map toSt) (by omega) h4' k (by omega)
  rw [r1, r2]
  simp only [Option.bind_some, if_true]
  rw [eqRecipe_eq (bs m) (l.map toSt) h4' k (by simp; omega)]
  simp

end Go.Proofs.YteijbdngbmciaaaDoor.Pure

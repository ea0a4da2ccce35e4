/- FnExactReadRecipe: the program's ReadRecipe returns what the reference's returns, for all arguments; no condition but that the listed tables read as the card ties them. -/
import Derived.Test.YteijbdngbmciaaaDoorGFnExactReadRecipex
import Derived.Lib.ItoaLen
import Derived.Lib.Join
import Derived.Lib.SplitLaws
import Derived.Lib.IndexBytes
namespace Go.Proofs.YteijbdngbmciaaaDoor.Pure
open Go.RowKit Go.Proofs.YteijbdngbmciaaaDoor.GFnExactReadRecipe Go.Proofs.YteijbdngbmciaaaDoorW.PrintWords Go.Proofs.YteijbdngbmciaaaDoorW.PrintLast
set_option linter.unusedSimpArgs false
set_option linter.unusedVariables false

theorem w64 {x : Int} (h0 : -9223372036854775808 ≤ x) (h1 : x ≤ 9223372036854775807) : wrap64 x = x := by
  unfold wrap64; omega

theorem within_eq (a b c : Int) : impl_within.f a b c = some (decide (b ≤ a ∧ a ≤ c)) := by
  unfold impl_within.f
  by_cases h : a ≥ b
  · rw [if_pos h]; simp [h]
  · rw [if_neg h]; simp; omega

theorem l00In_eq (a b c : Int) : spec_l00In.f a b c = some (decide (b ≤ a ∧ a ≤ c)) := by
  unfold spec_l00In.f
  by_cases h : a ≥ b
  · rw [if_pos h]; simp [h]
  · rw [if_neg h]; simp; omega

/-- a loop over a list: from one state to the next, or out of it -/
def run {α σ β : Type} (st : σ → α → Nat → σ ⊕ β) (en : σ → β) : List α → σ → Nat → β
  | [], s, _ => en s
  | x :: xs, s, i => match st s x i with
    | .inl s' => run st en xs s' (i + 1)
    | .inr r => r

theorem loop_run {α σ β : Type} (xs : List α) (K0 : Nat) (Inv : σ → Nat → Prop) (L : Nat → σ → Int → Option β) (st : σ → α → Nat → σ ⊕ β) (en : σ → β)
    (hs : ∀ (k : Nat) (s : σ) (i : Nat) (h : i < xs.length), K0 ≤ k → Inv s i →
      (∃ s', st s xs[i] i = .inl s' ∧ Inv s' (i + 1) ∧ L (k + 1) s (i : Int) = L k s' ((i + 1 : Nat) : Int)) ∨ (∃ r, st s xs[i] i = .inr r ∧ L (k + 1) s (i : Int) = some r))
    (he : ∀ (k : Nat) (s : σ), K0 ≤ k → Inv s xs.length → L (k + 1) s (xs.length : Int) = some (en s)) :
    ∀ (n i k : Nat) (s : σ), i + n = xs.length → K0 + n < k → Inv s i → L k s (i : Int) = some (run st en (xs.drop i) s i) := by
  intro n
  induction n with
  | zero =>
    intro i k s hi hk hI
    obtain ⟨k, rfl⟩ : ∃ m, k = m + 1 := ⟨k - 1, by omega⟩
    obtain rfl : i = xs.length := by omega
    rw [he k s (by omega) hI, List.drop_length]; rfl
  | succ n ih =>
    intro i k s hi hk hI
    obtain ⟨k, rfl⟩ : ∃ m, k = m + 1 := ⟨k - 1, by omega⟩
    have hlt : i < xs.length := by omega
    rw [List.drop_eq_getElem_cons hlt]
    rcases hs k s i hlt (by omega) hI with ⟨s', h1, h2, h3⟩ | ⟨r, h1, h3⟩
    · rw [h3, ih (i + 1) k s' (by omega) (by omega) h2]
      simp only [run, h1]
    · rw [h3]
      simp only [run, h1]

theorem loop_run0 {α σ β : Type} (xs : List α) (K0 : Nat) (Inv : σ → Nat → Prop) (L : Nat → σ → Int → Option β) (st : σ → α → Nat → σ ⊕ β) (en : σ → β)
    (hs : ∀ (k : Nat) (s : σ) (i : Nat) (h : i < xs.length), K0 ≤ k → Inv s i →
      (∃ s', st s xs[i] i = .inl s' ∧ Inv s' (i + 1) ∧ L (k + 1) s (i : Int) = L k s' ((i + 1 : Nat) : Int)) ∨ (∃ r, st s xs[i] i = .inr r ∧ L (k + 1) s (i : Int) = some r))
    (he : ∀ (k : Nat) (s : σ), K0 ≤ k → Inv s xs.length → L (k + 1) s (xs.length : Int) = some (en s)) (k : Nat) (s : σ) (hk : K0 + xs.length < k) (hI : Inv s 0) :
    L k s 0 = some (run st en xs s 0) := by
  have := loop_run xs K0 Inv L st en hs he xs.length 0 k s (by omega) hk hI
  simpa using this

/-- a row that is made and then filled, element by element -/
theorem loop_map {α β : Type} (xs : List α) (z : β) (c : α → β) (L : Nat → List β → Int → Option (List β))
    (hs : ∀ (k : Nat) (s : List β) (i : Nat) (h : i < xs.length), s.length = xs.length → L (k + 1) s (i : Int) = L k (s.set i (c xs[i])) ((i + 1 : Nat) : Int))
    (he : ∀ (k : Nat) (s : List β), L (k + 1) s (xs.length : Int) = some s) (k : Nat) (hk : xs.length < k) :
    L k (List.replicate xs.length z) 0 = some (xs.map c) := by
  have key : ∀ (n i k : Nat) (s : List β), i + n = xs.length → n < k → s.length = xs.length → s.take i = (xs.map c).take i → L k s (i : Int) = some (xs.map c) := by
    intro n
    induction n with
    | zero =>
      intro i k s hi hk hl ht
      obtain ⟨k, rfl⟩ : ∃ m, k = m + 1 := ⟨k - 1, by omega⟩
      obtain rfl : i = xs.length := by omega
      have h1 : s.take xs.length = s := List.take_of_length_le (by omega)
      rw [he, ← h1, ht, List.take_of_length_le (by simp)]
    | succ n ih =>
      intro i k s hi hk hl ht
      obtain ⟨k, rfl⟩ : ∃ m, k = m + 1 := ⟨k - 1, by omega⟩
      have hlt : i < xs.length := by omega
      rw [hs k s i hlt hl]
      refine ih (i + 1) k _ (by omega) (by omega) (by rw [List.length_set]; exact hl) ?_
      rw [List.take_succ_eq_append_getElem (by rw [List.length_set]; omega), List.take_succ_eq_append_getElem (by rw [List.length_map]; omega), List.take_set_of_le (by omega), ht]
      simp
  have := key xs.length 0 k (List.replicate xs.length z) (by omega) hk (by simp) (by simp)
  simpa using this

theorem wnat {n : Nat} (h : n < 9223372036854775807) : wrap64 ((n : Int) + 1) = ((n + 1 : Nat) : Int) := by
  unfold wrap64; omega

theorem loop_all {β : Type} (n K0 : Nat) (L : Nat → Int → Option β) (r : β) (hs : ∀ (k i : Nat), K0 ≤ k → i < n → L (k + 1) (i : Int) = L k ((i + 1 : Nat) : Int)) (he : ∀ k : Nat, L (k + 1) (n : Int) = some r)
    (k : Nat) (hk : K0 + n < k) : L k 0 = some r := by
  have key : ∀ (m i k : Nat), i + m = n → K0 + m < k → L k (i : Int) = some r := by
    intro m
    induction m with
    | zero =>
      intro i k hi hk
      obtain ⟨k, rfl⟩ : ∃ m, k = m + 1 := ⟨k - 1, by omega⟩
      obtain rfl : i = n := by omega
      exact he k
    | succ m ih =>
      intro i k hi hk
      obtain ⟨k, rfl⟩ : ∃ m, k = m + 1 := ⟨k - 1, by omega⟩
      rw [hs k i (by omega) (by omega)]
      exact ih (i + 1) k (by omega) (by omega)
  simpa using key n 0 k (by omega) hk

theorem all_from {α β : Type} (xs : List α) (K0 : Nat) (p : α → Bool) (r0 r1 : β) (L : Nat → Int → Option β)
    (hs : ∀ (k i : Nat) (h : i < xs.length), K0 ≤ k → L (k + 1) (i : Int) = if p xs[i] = true then L k ((i + 1 : Nat) : Int) else some r0)
    (he : ∀ k : Nat, K0 ≤ k → L (k + 1) (xs.length : Int) = some r1) : ∀ (n i k : Nat), i + n = xs.length → K0 + n < k → L k (i : Int) = some (if (xs.drop i).all p = true then r1 else r0) := by
  intro n
  induction n with
  | zero =>
    intro i k hi hk
    obtain ⟨k, rfl⟩ : ∃ m, k = m + 1 := ⟨k - 1, by omega⟩
    obtain rfl : i = xs.length := by omega
    rw [he k (by omega), List.drop_length]; rfl
  | succ n ih =>
    intro i k hi hk
    obtain ⟨k, rfl⟩ : ∃ m, k = m + 1 := ⟨k - 1, by omega⟩
    have hlt : i < xs.length := by omega
    rw [hs k i hlt (by omega), List.drop_eq_getElem_cons hlt, List.all_cons]
    cases hp : p xs[i] with
    | true => rw [if_pos rfl, ih (i + 1) k (by omega) (by omega), Bool.true_and]
    | false => simp

theorem all_loop {α β : Type} (xs : List α) (K0 : Nat) (p : α → Bool) (r0 r1 : β) (L : Nat → Int → Option β)
    (hs : ∀ (k i : Nat) (h : i < xs.length), K0 ≤ k → L (k + 1) (i : Int) = if p xs[i] = true then L k ((i + 1 : Nat) : Int) else some r0)
    (he : ∀ k : Nat, K0 ≤ k → L (k + 1) (xs.length : Int) = some r1) (k : Nat) (hk : K0 + xs.length < k) : L k 0 = some (if xs.all p = true then r1 else r0) := by
  simpa using all_from xs K0 p r0 r1 L hs he xs.length 0 k (by omega) hk

theorem idx_from {α : Type} (xs : List α) (K0 : Nat) (q : α → Bool) (L : Nat → Int → Option Int)
    (hs : ∀ (k i : Nat) (h : i < xs.length), K0 ≤ k → L (k + 1) (i : Int) = if q xs[i] = true then some (i : Int) else L k ((i + 1 : Nat) : Int))
    (he : ∀ k : Nat, K0 ≤ k → L (k + 1) (xs.length : Int) = some (-1)) : ∀ (n i k : Nat), i + n = xs.length → K0 + n < k → ∃ r, L k (i : Int) = some r ∧ decide (r ≥ 0) = (xs.drop i).any q := by
  intro n
  induction n with
  | zero =>
    intro i k hi hk
    obtain ⟨k, rfl⟩ : ∃ m, k = m + 1 := ⟨k - 1, by omega⟩
    obtain rfl : i = xs.length := by omega
    exact ⟨-1, he k (by omega), by rw [List.drop_length]; rfl⟩
  | succ n ih =>
    intro i k hi hk
    obtain ⟨k, rfl⟩ : ∃ m, k = m + 1 := ⟨k - 1, by omega⟩
    have hlt : i < xs.length := by omega
    rw [hs k i hlt (by omega), List.drop_eq_getElem_cons hlt, List.any_cons]
    cases hp : q xs[i] with
    | true => exact ⟨i, by rw [if_pos rfl], by simp⟩
    | false =>
      obtain ⟨r, h1, h2⟩ := ih (i + 1) k (by omega) (by omega)
      exact ⟨r, by rw [if_neg (by simp)]; exact h1, by rw [h2]; simp⟩

theorem idx_loop {α : Type} (xs : List α) (K0 : Nat) (q : α → Bool) (L : Nat → Int → Option Int)
    (hs : ∀ (k i : Nat) (h : i < xs.length), K0 ≤ k → L (k + 1) (i : Int) = if q xs[i] = true then some (i : Int) else L k ((i + 1 : Nat) : Int))
    (he : ∀ k : Nat, K0 ≤ k → L (k + 1) (xs.length : Int) = some (-1)) (k : Nat) (hk : K0 + xs.length < k) : ∃ r, L k 0 = some r ∧ decide (r ≥ 0) = xs.any q := by
  simpa using idx_from xs K0 q L hs he xs.length 0 k (by omega) hk

theorem any_not {α : Type} (l : List α) (p : α → Bool) : l.any (fun x => !p x) = !l.all p := by
  induction l with
  | nil => rfl
  | cons x l ih => rw [List.any_cons, List.all_cons, ih]; cases p x <;> simp

theorem rdi (xs : List Int) (i : Nat) (h : i < xs.length) : rd xs (i : Int) = xs[i] := by
  unfold rd; simp [List.getD, h]

theorem rd44 (xs : List S44) (i : Nat) (h : i < xs.length) : rd_T44 xs (i : Int) = xs[i] := by
  unfold rd_T44; simp [List.getD, h]

theorem eqStepS_eq (l : List S44) (hl : l.length ≤ 1048576) (k : Nat) (hk : l.length < k) : laws_eqStepS.f k l l = some true := by
  unfold laws_eqStepS.f
  rw [if_pos rfl]
  refine loop_all l.length 0 (fun k i => laws_eqStepS.l0 k l l i) true ?_ ?_ k (by omega)
  · intro k i _ h
    simp only [laws_eqStepS.l0]
    rw [if_pos (by omega), if_pos (by omega), if_pos (by omega)]
    unfold laws_eqStep.f
    simp only [if_true, Option.bind_some]
    rw [wnat (by omega)]
  · intro k
    simp only [laws_eqStepS.l0]
    rw [if_neg (by omega)]

theorem bt_byte (s : ByteArray) (i : Int) : 0 ≤ bt s i ∧ bt s i ≤ 255 := by
  unfold bt
  split
  · have := (s[i.toNat]'(by assumption)).toNat_lt; omega
  · omega

/-- a letter or a digit of a name -/
def nmC (c : Int) : Bool := decide (97 ≤ c ∧ c ≤ 122 ∨ 48 ≤ c ∧ c ≤ 57)

theorem nil_iff (s : ByteArray) : s.toList = [] ↔ s.size = 0 := by
  rw [ByteArray.toList_eq]
  constructor
  · intro h
    have : s.data.toList.length = 0 := by rw [h]; rfl
    rw [Array.length_toList] at this; exact this
  · intro h
    apply List.eq_nil_of_length_eq_zero
    rw [Array.length_toList]; exact h

theorem small_eq (c : Int) : spec_l01Small.f c = some (decide (97 ≤ c ∧ c ≤ 122)) := by
  unfold spec_l01Small.f
  by_cases h : c ≥ 97
  · rw [if_pos h]; simp [h]
  · rw [if_neg h]; simp; omega
theorem digit_eq (c : Int) : spec_l01Digit.f c = some (decide (48 ≤ c ∧ c ≤ 57)) := by
  unfold spec_l01Digit.f
  by_cases h : c ≥ 48
  · rw [if_pos h]; simp [h]
  · rw [if_neg h]; simp; omega

theorem name_loop (s : ByteArray) (hs : s.size ≤ 10) : ∀ (n i k : Nat), i + n = s.size → n < k →
    ∃ b, spec_l01Name.l0 k s (i : Int) = some b ∧ impl_IsName.l0 k s (i : Int) = some b := by
  intro n
  induction n with
  | zero =>
    intro i k hi hk
    obtain ⟨k, rfl⟩ : ∃ m, k = m + 1 := ⟨k - 1, by omega⟩
    simp only [spec_l01Name.l0, impl_IsName.l0]
    exact ⟨true, by rw [if_neg (by omega)], by rw [if_neg (by omega)]⟩
  | succ n ih =>
    intro i k hi hk
    obtain ⟨k, rfl⟩ : ∃ m, k = m + 1 := ⟨k - 1, by omega⟩
    obtain ⟨b, e1, e2⟩ := ih (i + 1) k (by omega) (by omega)
    have hw : wrap64 ((i : Int) + 1) = ((i + 1 : Nat) : Int) := wnat (by omega)
    have a1 : (i : Int) < (s.size : Int) := by omega
    have a2 : (0 : Int) ≤ (i : Int) := by omega
    simp only [spec_l01Name.l0, impl_IsName.l0, small_eq, digit_eq, Option.bind_some, decide_eq_true_eq, a1, a2, if_true, hw, e1, e2]
    generalize bt s (i : Int) = c
    by_cases h1 : c < 97
    · by_cases h2 : c < 48
      · exact ⟨false, by simp [h1, h2, show ¬ (97 ≤ c ∧ c ≤ 122) by omega, show ¬ (48 ≤ c ∧ c ≤ 57) by omega], by simp [h1, h2]⟩
      · by_cases h3 : c > 57
        · exact ⟨false, by simp [show ¬ (97 ≤ c ∧ c ≤ 122) by omega, show ¬ (48 ≤ c ∧ c ≤ 57) by omega], by simp [h1, h2, h3]⟩
        · exact ⟨b, by simp [show ¬ (97 ≤ c ∧ c ≤ 122) by omega, show (48 ≤ c ∧ c ≤ 57) by omega], by simp [h1, h2, h3]⟩
    · by_cases h4 : c > 122
      · exact ⟨false, by simp [show ¬ (97 ≤ c ∧ c ≤ 122) by omega, show ¬ (48 ≤ c ∧ c ≤ 57) by omega], by simp [h1, h4, show ¬ (c < 48) by omega, show c > 57 by omega]⟩
      · exact ⟨b, by simp [show (97 ≤ c ∧ c ≤ 122) by omega], by simp [h1, h4]⟩

theorem name_eq (s : ByteArray) : ∃ b : Bool, (∀ k, 13 ≤ k → spec_l01Name.f k s = some b ∧ impl_IsName.f k s = some b) := by
  have fin : ∃ b : Bool, spec_l01Name.f 13 s = some b ∧ impl_IsName.f 13 s = some b := by
    unfold spec_l01Name.f impl_IsName.f
    by_cases h0 : s.size = 0
    · exact ⟨false, by simp [(nil_iff s).2 h0, spec_l01Name.j0], by simp [show (s.size : Int) < 1 by omega, impl_IsName.j0]⟩
    · have n0 : ¬ s.toList = [] := fun h => h0 ((nil_iff s).1 h)
      have n1 : ¬ (s.size : Int) < 1 := by omega
      by_cases h1 : (s.size : Int) > 10
      · exact ⟨false, by simp [n0, h1, spec_l01Name.j0], by simp [n1, h1, impl_IsName.j0]⟩
      · have n2 : (0 : Int) < (s.size : Int) := by omega
        simp only [n0, n1, h1, n2, if_true, if_false, small_eq, Option.bind_some]
        obtain ⟨b, e1, e2⟩ := name_loop s (by omega) s.size 0 12 (by omega) (by omega)
        have e1' : spec_l01Name.l0 12 s 0 = some b := e1
        have e2' : impl_IsName.l0 12 s 0 = some b := e2
        generalize bt s 0 = c
        by_cases h2 : c < 97
        · exact ⟨false, by simp [spec_l01Name.j0, show ¬ (97 ≤ c ∧ c ≤ 122) by omega], by simp [impl_IsName.j0, h2]⟩
        · by_cases h3 : c > 122
          · exact ⟨false, by simp [spec_l01Name.j0, show ¬ (97 ≤ c ∧ c ≤ 122) by omega], by simp [impl_IsName.j0, h2, h3]⟩
          · exact ⟨b, by simp [spec_l01Name.j0, show (97 ≤ c ∧ c ≤ 122) by omega, e1'], by simp [impl_IsName.j0, h2, show ¬ (c > 122) by omega, e2']⟩
  obtain ⟨b, e1, e2⟩ := fin
  exact ⟨b, fun k hk => ⟨at_rounds (g := fun k => spec_l01Name.f k s) (fun k => spec_l01Name.mono s k) hk e1, at_rounds (g := fun k => impl_IsName.f k s) (fun k => impl_IsName.mono s k) hk e2⟩⟩

theorem step_eq (x : S44) : ∃ b : Bool, spec_l21Step.f [x] = some b ∧ impl_ValidStep.f x.f0 x.f1 x.f2 = some b ∧
    (b = true → (x.f0 = 1 ∧ 100 ≤ x.f1 ∧ x.f1 ≤ 300 ∧ 0 ≤ x.f2 ∧ x.f2 ≤ 600) ∨ (x.f0 = 2 ∧ 0 ≤ x.f1 ∧ x.f1 ≤ 100 ∧ 0 ≤ x.f2 ∧ x.f2 ≤ 100) ∨ (x.f0 = 3 ∧ 0 ≤ x.f1 ∧ x.f1 ≤ 600 ∧ x.f2 = 0)) := by
  have r : rd_T44 [x] 0 = x := rfl
  unfold impl_ValidStep.f spec_l21Step.f spec_l21Heat.f
  simp only [Option.bind_some, within_eq, l00In_eq, r, List.length_cons, List.length_nil]
  generalize x.f0 = a
  generalize x.f1 = b
  generalize x.f2 = c
  by_cases h1 : a = 1
  · subst h1
    refine ⟨decide (100 ≤ b ∧ b ≤ 300) && decide (0 ≤ c ∧ c ≤ 600), ?_, ?_, ?_⟩
    · by_cases g1 : 100 ≤ b ∧ b ≤ 300 <;> by_cases g2 : 0 ≤ c ∧ c ≤ 600 <;> simp [g1, g2]
    · by_cases g1 : 100 ≤ b ∧ b ≤ 300 <;> by_cases g2 : 0 ≤ c ∧ c ≤ 600 <;> simp [g1, g2]
    · simp; omega
  · by_cases h2 : a = 2
    · subst h2
      refine ⟨decide (0 ≤ b ∧ b ≤ 100) && decide (0 ≤ c ∧ c ≤ 100), ?_, ?_, ?_⟩
      · by_cases g1 : 0 ≤ b ∧ b ≤ 100 <;> by_cases g2 : 0 ≤ c ∧ c ≤ 100 <;> simp [g1, g2]
      · by_cases g1 : 0 ≤ b ∧ b ≤ 100 <;> by_cases g2 : 0 ≤ c ∧ c ≤ 100 <;> simp [g1, g2]
      · simp; omega
    · by_cases h3 : a = 3
      · subst h3
        refine ⟨decide (0 ≤ b ∧ b ≤ 600) && decide (c = 0), ?_, ?_, ?_⟩
        · by_cases g1 : 0 ≤ b ∧ b ≤ 600 <;> by_cases g2 : c = 0 <;> simp [g1, g2]
        · by_cases g1 : 0 ≤ b ∧ b ≤ 600 <;> by_cases g2 : c = 0 <;> simp [g1, g2]
        · simp; omega
      · exact ⟨false, by simp [h1, h2, h3], by simp [h1, h2, h3], by simp⟩

def vs (x : S44) : Bool := impl_ValidStep.f x.f0 x.f1 x.f2 == some true

theorem vs_spec (x : S44) : spec_l21Step.f [x] = some (vs x) ∧ impl_ValidStep.f x.f0 x.f1 x.f2 = some (vs x) ∧
    (vs x = true → (x.f0 = 1 ∧ 100 ≤ x.f1 ∧ x.f1 ≤ 300 ∧ 0 ≤ x.f2 ∧ x.f2 ≤ 600) ∨ (x.f0 = 2 ∧ 0 ≤ x.f1 ∧ x.f1 ≤ 100 ∧ 0 ≤ x.f2 ∧ x.f2 ≤ 100) ∨ (x.f0 = 3 ∧ 0 ≤ x.f1 ∧ x.f1 ≤ 600 ∧ x.f2 = 0)) := by
  obtain ⟨b, e1, e2, e3⟩ := step_eq x
  have e : vs x = b := by unfold vs; rw [e2]; cases b <;> rfl
  rw [e]; exact ⟨e1, e2, e3⟩

def nmB (s : ByteArray) : Bool := impl_IsName.f 13 s == some true

theorem nm_spec (s : ByteArray) (k : Nat) (hk : 13 ≤ k) : spec_l01Name.f k s = some (nmB s) ∧ impl_IsName.f k s = some (nmB s) := by
  obtain ⟨b, hb⟩ := name_eq s
  have e : nmB s = b := by unfold nmB; rw [(hb 13 (Nat.le_refl _)).2]; cases b <;> rfl
  rw [e]; exact hb k hk

def okS (l : List S44) : Bool := l.all vs && decide (l.length ≤ 8)
def okR (s : ByteArray) (l : List S44) : Bool := nmB s && okS l

theorem specSteps (l : List S44) (hl : l.length ≤ 1048576) (k : Nat) (hk : l.length + 20 < k) : spec_l21Steps.f k l = some (okS l) := by
  unfold spec_l21Steps.f okS
  rw [all_loop l 0 vs false (decide (l.length ≤ 8)) (fun k i => spec_l21Steps.l0 k l i) ?_ ?_ k (by omega)]
  · cases l.all vs <;> simp
  · intro k i hi _
    simp only [spec_l21Steps.l0]
    rw [if_pos (by omega), if_pos (by omega), rd44 l i hi, wnat (by omega), (vs_spec l[i]).1]
    simp only [Option.bind_some]
  · intro k _
    simp only [spec_l21Steps.l0]
    rw [if_neg (by omega)]
    simp; omega

theorem implSteps (l : List S44) (hl : l.length ≤ 1048576) (k : Nat) (hk : l.length + 20 < k) : impl_validSteps.f k l = some (okS l) := by
  unfold impl_validSteps.f okS
  by_cases h : (l.length : Int) ≤ 8
  · rw [if_pos h]
    unfold fi46_47.f fi61_47.f
    obtain ⟨r, h1, h2⟩ := idx_loop l 0 (fun x => !vs x) (fun k i => fi61_47.l0 k l (l.length : Int) i) (by
      intro k i hi _
      simp only [fi61_47.l0]
      rw [if_pos (by omega), if_pos (by omega), if_pos (by omega), rd44 l i hi, wnat (by omega)]
      unfold impl_validSteps_1.f
      rw [(vs_spec l[i]).2.1]
      simp only [Option.bind_some]) (by
      intro k _
      simp only [fi61_47.l0]
      rw [if_neg (by omega)]) k (by omega)
    rw [h1]
    simp only [Option.bind_some]
    rw [h2, any_not]
    simp; omega
  · rw [if_neg h]; simp; omega

theorem recipe_eq (s : ByteArray) (l : List S44) (hl : l.length ≤ 1048576) (k : Nat) (hk : l.length + 30 < k) : spec_l21Ok.f k [(⟨s, l⟩ : S29)] = some (okR s l) ∧ impl_ValidRecipe.f k s l = some (okR s l) := by
  have r : rd_T29 [(⟨s, l⟩ : S29)] 0 = ⟨s, l⟩ := rfl
  unfold spec_l21Ok.f impl_ValidRecipe.f okR
  rw [if_pos (by simp), r, (nm_spec s k (by omega)).1, (nm_spec s k (by omega)).2]
  simp only [Option.bind_some, specSteps l hl k (by omega), implSteps l hl k (by omega)]
  cases nmB s <;> simp

theorem okR_mem {s : ByteArray} {l : List S44} (h : okR s l = true) (i : Nat) (hi : i < l.length) : vs l[i] = true := by
  unfold okR okS at h
  rw [Bool.and_eq_true, Bool.and_eq_true, List.all_eq_true] at h
  exact h.2.1 _ (List.getElem_mem hi)
theorem okR_len {s : ByteArray} {l : List S44} (h : okR s l = true) : l.length ≤ 8 := by
  unfold okR okS at h
  rw [Bool.and_eq_true, Bool.and_eq_true, decide_eq_true_eq] at h
  exact h.2.2

theorem eqRecipe_eq (s : ByteArray) (l : List S44) (hl : l.length ≤ 1048576) (k : Nat) (hk : l.length < k) : laws_eqRecipe.f k s l s l = some true := by
  unfold laws_eqRecipe.f
  simp [eqStepS_eq l hl k hk]

theorem itoa_len (n : Int) (h0 : -9223372036854775808 ≤ n) (h1 : n ≤ 9223372036854775807) : (Lib.itoa n).length ≤ 21 := Lib.itoa_length_le n h0 h1

theorem fmt_eq (n : Int) (h0 : -9223372036854775808 ≤ n) (h1 : n ≤ 9223372036854775807) : impl_Decimal.f n [()] = some ⟨(Lib.itoa n).toArray⟩ := by
  unfold impl_Decimal.f Go.Proofs.YteijbdngbmciaaaDoorX.strconv_FormatInt.f
  rw [if_pos ⟨rfl, rfl, h0, h1⟩]; rfl

theorem bcat (a b : List UInt8) : (⟨a.toArray⟩ : ByteArray) ++ (⟨b.toArray⟩ : ByteArray) = ⟨(a ++ b).toArray⟩ := by
  apply ByteArray.ext
  simp
theorem bsize (a : List UInt8) : (⟨a.toArray⟩ : ByteArray).size = a.length := by simp [ByteArray.size]
theorem beta_ (s : ByteArray) : s = ⟨s.data.toList.toArray⟩ := by
  apply ByteArray.ext; simp

/-- the text of a list of numbers -/
def ltext (xs : List Int) : List UInt8 := if xs.length = 0 then [45] else Lib.join (xs.map Lib.itoa) [44]
def i64 (n : Int) : Prop := -9223372036854775808 ≤ n ∧ n ≤ 9223372036854775807

theorem joinTail_len (xs : List Int) (hx : ∀ n ∈ xs, i64 n) : (Lib.joinTail [44] (xs.map Lib.itoa)).length ≤ 22 * xs.length := by
  induction xs with
  | nil => simp [Lib.joinTail]
  | cons n xs ih =>
    have h := hx n List.mem_cons_self
    have hl := itoa_len n h.1 h.2
    have hi := ih (fun m hm => hx m (List.mem_cons_of_mem _ hm))
    unfold Lib.joinTail at hi ⊢
    simp only [List.map_cons, List.flatten_cons, List.length_append, List.length_cons, List.length_nil] at hi ⊢
    omega

theorem joinTail_snoc (sep : List UInt8) (r : List (List UInt8)) (x : List UInt8) : Lib.joinTail sep (r ++ [x]) = Lib.joinTail sep r ++ (sep ++ x) := by
  unfold Lib.joinTail; simp

theorem ltext_len (xs : List Int) (hx : ∀ n ∈ xs, i64 n) : (ltext xs).length ≤ 22 * xs.length + 1 := by
  unfold ltext
  cases xs with
  | nil => simp
  | cons n xs =>
    rw [if_neg (by simp), List.map_cons, Lib.join_cons, List.length_append]
    have := joinTail_len xs (fun m hm => hx m (List.mem_cons_of_mem _ hm))
    have h := hx n List.mem_cons_self
    have hl := itoa_len n h.1 h.2
    simp only [List.length_cons]; omega

def fits (xs : List Int) : Bool := decide (xs.length ≤ 64) && xs.all fun n => decide (-1000000000000 ≤ n ∧ n ≤ 1000000000000)

theorem fits_i64 {xs : List Int} (h : fits xs = true) : xs.length ≤ 64 ∧ ∀ n ∈ xs, -1000000000000 ≤ n ∧ n ≤ 1000000000000 := by
  unfold fits at h
  rw [Bool.and_eq_true, decide_eq_true_eq, List.all_eq_true] at h
  exact ⟨h.1, fun n hn => by simpa using h.2 n hn⟩

theorem implList_l1 (xs : List Int) (hl : xs.length ≤ 64) (hx : ∀ n ∈ xs, i64 n) (hp : 1 ≤ xs.length) : ∀ (d i k : Nat), i + d = xs.length → 10 + d < k → impl_ListText.l1 k ((xs.take i).map fun n => ⟨(Lib.itoa n).toArray⟩) xs (xs.length : Int) (i : Int) [()] = some ⟨(Lib.join (xs.map Lib.itoa) [44]).toArray⟩ := by
  intro d
  induction d with
  | zero =>
    intro i k hi hk
    obtain ⟨k, rfl⟩ : ∃ m, k = m + 1 := ⟨k - 1, by omega⟩
    simp only [impl_ListText.l1]
    rw [if_neg (by omega), List.take_of_length_le (by omega)]
    unfold Go.Proofs.YteijbdngbmciaaaDoorX.strings_Join.f
    have e : (xs.map fun n => (⟨(Lib.itoa n).toArray⟩ : ByteArray)).map (·.data.toList) = xs.map Lib.itoa := by rw [List.map_map]; rfl
    rw [e, show (⟨#[44]⟩ : ByteArray).data.toList = [44] from rfl]
    have hj : (Lib.join (xs.map Lib.itoa) [44]).length ≤ 22 * xs.length + 1 := by
      have := ltext_len xs hx
      unfold ltext at this
      rwa [if_neg (by omega)] at this
    rw [if_pos ⟨by simpa using hp, by simp; omega, by omega⟩]; rfl
  | succ d ih =>
    intro i k hi hk
    obtain ⟨k, rfl⟩ : ∃ m, k = m + 1 := ⟨k - 1, by omega⟩
    have hlt : i < xs.length := by omega
    have hm := hx _ (List.getElem_mem hlt)
    simp only [impl_ListText.l1]
    rw [if_pos (by omega), if_pos (by omega), if_pos (by omega), rdi xs i hlt, fmt_eq _ hm.1 hm.2]
    simp only [Option.bind_some]
    rw [if_pos (by simp; omega), wnat (by omega)]
    have := ih (i + 1) k (by omega) (by omega)
    rw [List.take_succ_eq_append_getElem hlt, List.map_append, List.map_cons, List.map_nil] at this
    exact this

theorem implList_eq (xs : List Int) (k : Nat) (hk : 300 < k) : impl_ListText.f k xs [()] = some (if fits xs = true then ⟨(ltext xs).toArray⟩ else ⟨#[]⟩) := by
  unfold impl_ListText.f
  by_cases hl : xs.length ≤ 64
  · rw [if_neg (by omega)]
    have key : ∀ (d i k : Nat), i + d = xs.length → 100 + d < k → (∀ (j : Nat) (h : j < xs.length), j < i → -1000000000000 ≤ xs[j] ∧ xs[j] ≤ 1000000000000) → impl_ListText.l0 k xs xs (xs.length : Int) (i : Int) [()] = some (if fits xs = true then ⟨(ltext xs).toArray⟩ else ⟨#[]⟩) := by
      intro d
      induction d with
      | zero =>
        intro i k hi hk ha
        obtain ⟨k, rfl⟩ : ∃ m, k = m + 1 := ⟨k - 1, by omega⟩
        have hall : ∀ n ∈ xs, -1000000000000 ≤ n ∧ n ≤ 1000000000000 := by
          intro n hn
          obtain ⟨j, hj, rfl⟩ := List.mem_iff_getElem.1 hn
          exact ha j hj (by omega)
        have hf : fits xs = true := by
          unfold fits
          rw [Bool.and_eq_true, decide_eq_true_eq, List.all_eq_true]
          exact ⟨hl, fun n hn => by simpa using hall n hn⟩
        simp only [impl_ListText.l0]
        rw [if_neg (by omega), if_pos hf]
        by_cases h0 : xs.length = 0
        · rw [if_pos (by omega)]
          unfold ltext; rw [if_pos h0]
        · rw [if_neg (by omega)]
          have := implList_l1 xs hl (fun n hn => by have := hall n hn; unfold i64; omega) (by omega) xs.length 0 k (by omega) (by omega)
          unfold ltext; rw [if_neg h0]
          simpa using this
      | succ d ih =>
        intro i k hi hk ha
        obtain ⟨k, rfl⟩ : ∃ m, k = m + 1 := ⟨k - 1, by omega⟩
        have hlt : i < xs.length := by omega
        simp only [impl_ListText.l0]
        rw [if_pos (by omega), if_pos (by omega), if_pos (by omega), rdi xs i hlt, within_eq]
        simp only [Option.bind_some]
        by_cases hw : -1000000000000 ≤ xs[i] ∧ xs[i] ≤ 1000000000000
        · rw [if_pos (decide_eq_true hw), wnat (by omega)]
          refine ih (i + 1) k (by omega) (by omega) (fun j hj hji => ?_)
          by_cases e : j = i
          · subst e; exact hw
          · exact ha j hj (by omega)
        · rw [if_neg (by simpa using hw), if_neg (fun hf => hw ((fits_i64 hf).2 _ (List.getElem_mem hlt)))]
    simpa using key xs.length 0 k (by omega) (by omega) (fun j _ h => absurd h (by omega))
  · rw [if_pos (by omega), if_neg (fun hf => hl (fits_i64 hf).1)]

def bs (l : List UInt8) : ByteArray := ⟨l.toArray⟩
theorem bs_list (l : List UInt8) : (bs l).data.toList = l := rfl
theorem bs_of (s : ByteArray) : bs s.data.toList = s := by apply ByteArray.ext; simp [bs]
theorem bs_size (l : List UInt8) : (bs l).size = l.length := by simp [bs, ByteArray.size]
theorem bs_toList (l : List UInt8) : (bs l).toList = l := by rw [ByteArray.toList_eq]; rfl
theorem bs_inj {a b : List UInt8} (h : bs a = bs b) : a = b := by have := congrArg (fun s => s.data.toList) h; simpa [bs] using this
theorem size_list (s : ByteArray) : s.size = s.data.toList.length := by rw [Array.length_toList]; rfl
theorem extract_bs (l : List UInt8) (a b : Nat) : (bs l).extract a b = bs ((l.drop a).take (b - a)) := by
  rw [← bs_of ((bs l).extract a b), Lib.extract_data, bs_list]
theorem bt_bs (l : List UInt8) (i : Nat) (h : i < l.length) : bt (bs l) (i : Int) = (l[i].toNat : Int) := by
  unfold bt
  rw [dif_pos (by rw [bs_size]; simpa using h)]
  simp [bs, ByteArray.getElem_eq_getElem_data]

/-- a text divided at each byte c -/
def splitL (c : UInt8) : List UInt8 → List (List UInt8)
  | [] => [[]]
  | b :: l => if b = c then [] :: splitL c l else match splitL c l with
    | [] => [[b]]
    | x :: r => (b :: x) :: r

def hd (cur : List UInt8) : List (List UInt8) → List (List UInt8)
  | [] => [cur]
  | x :: r => (cur ++ x) :: r

theorem splitL_ne (c : UInt8) (l : List UInt8) : splitL c l ≠ [] := by
  cases l with
  | nil => simp [splitL]
  | cons b l =>
    rw [splitL]
    split
    · simp
    · split <;> simp

theorem splitL_cons_ne {c b : UInt8} (h : b ≠ c) (l : List UInt8) : splitL c (b :: l) = hd [b] (splitL c l) := by
  rw [splitL, if_neg h]
  cases splitL c l <;> rfl

theorem hd_hd (a b : List UInt8) (x : List (List UInt8)) : hd a (hd b x) = hd (a ++ b) x := by
  cases x <;> simp [hd]

theorem hd_nil (c : UInt8) (l : List UInt8) : hd [] (splitL c l) = splitL c l := by
  have := splitL_ne c l
  cases h : splitL c l with
  | nil => exact absurd h this
  | cons x r => rfl

theorem specSplit (l : List UInt8) (c : UInt8) (hl : l.length ≤ 1048576) (k : Nat) (hk : l.length < k) : spec_l01Split.f k (bs l) (c.toNat : Int) = some ((splitL c l).map bs) := by
  unfold spec_l01Split.f
  have key : ∀ (d i k fr : Nat) (out : List (List UInt8)), i + d = l.length → d < k → fr ≤ i → out.length ≤ i →
      spec_l01Split.l0 k (bs l) (c.toNat : Int) (out.map bs) (fr : Int) (i : Int) = some ((out ++ hd ((l.drop fr).take (i - fr)) (splitL c (l.drop i))).map bs) := by
    intro d
    induction d with
    | zero =>
      intro i k fr out hi hk hf ho
      obtain ⟨k, rfl⟩ : ∃ m, k = m + 1 := ⟨k - 1, by omega⟩
      simp only [spec_l01Split.l0]
      rw [bs_size, if_neg (by omega), if_pos (by omega), if_pos (by omega), if_pos (by rw [List.length_map]; omega), List.drop_of_length_le (by omega : l.length ≤ i), extract_bs]
      simp only [splitL, hd, Int.toNat_natCast, List.append_nil, List.map_append, List.map_cons, List.map_nil]
      rw [show i = l.length by omega]
    | succ d ih =>
      intro i k fr out hi hk hf ho
      obtain ⟨k, rfl⟩ : ∃ m, k = m + 1 := ⟨k - 1, by omega⟩
      have hlt : i < l.length := by omega
      simp only [spec_l01Split.l0]
      rw [bs_size, if_pos (by omega), if_pos (by omega), bt_bs l i hlt, List.drop_eq_getElem_cons hlt]
      by_cases hc : l[i] = c
      · rw [if_pos (by rw [hc]), if_pos (by omega), if_pos (by omega), if_pos (by omega), if_pos (by rw [List.length_map]; omega), wnat (by omega), extract_bs]
        have := ih (i + 1) k (i + 1) (out ++ [(l.drop fr).take (i - fr)]) (by omega) (by omega) (by omega) (by simp; omega)
        rw [List.map_append, List.map_cons, List.map_nil] at this
        simp only [Int.toNat_natCast]
        rw [this, splitL, if_pos hc, Nat.sub_self, List.take_zero, hd_nil]
        simp [hd]
      · rw [if_neg (fun h => hc (UInt8.toNat_inj.1 (by omega))), wnat (by omega), ih (i + 1) k fr out (by omega) (by omega) (by omega) (by omega), splitL_cons_ne hc, hd_hd]
        have e : (l.drop fr).take (i + 1 - fr) = (l.drop fr).take (i - fr) ++ [l[i]] := by
          rw [show i + 1 - fr = (i - fr) + 1 by omega, List.take_succ_eq_append_getElem (by simp; omega), List.getElem_drop]
          congr 2
          simp only [show fr + (i - fr) = i by omega]
        rw [e]
  have := key l.length 0 k 0 [] (by omega) hk (by omega) (by simp)
  simp only [List.map_nil, Nat.sub_self, List.take_zero, List.drop_zero, List.nil_append, hd_nil] at this
  exact this

theorem index_one (c : UInt8) : ∀ l : List UInt8, (c ∉ l ∧ Lib.index l [c] = -1) ∨ (∃ a r, l = a ++ c :: r ∧ c ∉ a ∧ Lib.index l [c] = (a.length : Int))
  | [] => .inl ⟨by simp, rfl⟩
  | b :: l => by
    by_cases h : b = c
    · subst h
      exact .inr ⟨[], l, rfl, by simp, by rw [Lib.index]; simp [List.isPrefixOf]⟩
    · have hp : ([c] : List UInt8).isPrefixOf (b :: l) = false := by simp [List.isPrefixOf, Ne.symm h]
      rcases index_one c l with ⟨h1, h2⟩ | ⟨a, r, h1, h2, h3⟩
      · exact .inl ⟨by simp [h1, Ne.symm h], by rw [Lib.index, hp, h2]; rfl⟩
      · refine .inr ⟨b :: a, r, by rw [h1]; rfl, by simp [h2, Ne.symm h], ?_⟩
        rw [Lib.index, hp, h3]
        rw [if_neg (by simp), if_neg (by rw [beq_iff_eq]; omega)]
        simp

theorem splitL_none (c : UInt8) : ∀ l : List UInt8, c ∉ l → splitL c l = [l]
  | [], _ => rfl
  | b :: l, h => by
    simp only [List.mem_cons, not_or] at h
    rw [splitL_cons_ne (Ne.symm h.1), splitL_none c l h.2]; rfl

theorem splitL_app (c : UInt8) (r : List UInt8) : ∀ a : List UInt8, c ∉ a → splitL c (a ++ c :: r) = a :: splitL c r
  | [], _ => by rw [List.nil_append, splitL, if_pos rfl]
  | b :: a, h => by
    simp only [List.mem_cons, not_or] at h
    rw [List.cons_append, splitL_cons_ne (Ne.symm h.1), splitL_app c r a h.2]; rfl

theorem count_app (c : UInt8) (a r : List UInt8) (h : c ∉ a) : (a ++ c :: r).count c = r.count c + 1 := by
  rw [List.count_append, List.count_eq_zero.2 h, List.count_cons_self]; omega

theorem splitK_eq (c : UInt8) : ∀ (n : Nat) (l : List UInt8), l.count c = n → Lib.splitK [c] 0 n l = splitL c l
  | 0, l, h => by rw [splitL_none c l (List.count_eq_zero.1 h)]; rfl
  | n + 1, l, h => by
    rcases index_one c l with ⟨h1, _⟩ | ⟨a, r, h1, h2, h3⟩
    · rw [List.count_eq_zero.2 h1] at h; omega
    · subst h1
      rw [count_app c a r h2] at h
      rw [Lib.splitK, if_neg (by rw [h3, beq_iff_eq]; omega), h3, splitL_app c r a h2]
      have := splitK_eq c n r (by omega)
      simp only [Int.toNat_natCast, Nat.add_zero, List.length_singleton]
      rw [List.take_left' rfl, show List.drop (a.length + 1) (a ++ c :: r) = r by rw [← List.drop_drop, List.drop_left' rfl]; rfl, this]

theorem map_data_inj : ∀ {x y : List ByteArray}, x.map (·.data.toList) = y.map (·.data.toList) → x = y
  | [], [], _ => rfl
  | [], _ :: _, h => by simp at h
  | _ :: _, [], h => by simp at h
  | a :: x, b :: y, h => by
    simp only [List.map_cons, List.cons.injEq] at h
    rw [map_data_inj h.2, ← bs_of a, ← bs_of b, h.1]

theorem splitB_eq (l : List UInt8) (c : UInt8) : Lib.splitB (bs [c]) 0 (Lib.countB (bs l) (bs [c])) (bs l) = (splitL c l).map bs := by
  apply map_data_inj
  rw [Lib.splitB_data, bs_list, bs_list, List.map_map]
  have e : ((fun x : ByteArray => x.data.toList) ∘ bs) = id := by funext x; rfl
  rw [e, List.map_id]
  have hc : Lib.countB (bs l) (bs [c]) = l.count c := by
    rw [show Lib.countB (bs l) (bs [c]) = Lib.count (bs l).data.toList (bs [c]).data.toList from rfl, bs_list, bs_list, Lib.count_one]
  rw [hc]
  exact splitK_eq c _ l rfl

theorem splitL_len (c : UInt8) : ∀ l : List UInt8, (splitL c l).length ≤ l.length + 1
  | [] => by simp [splitL]
  | b :: l => by
    have := splitL_len c l
    by_cases h : b = c
    · rw [splitL, if_pos h]; simp; omega
    · rw [splitL_cons_ne h]
      cases hs : splitL c l with
      | nil => simp [hd]
      | cons x r => rw [hs] at this; simp [hd] at this ⊢; omega

theorem implSplit (l : List UInt8) (c : UInt8) (hl : l.length ≤ 1048576) : Go.Proofs.YteijbdngbmciaaaDoorX.strings_Split.f (bs l) (bs [c]) [()] = some ((splitL c l).map bs) := by
  unfold Go.Proofs.YteijbdngbmciaaaDoorX.strings_Split.f
  rw [if_pos ⟨rfl, by rw [bs_size]; omega, by rw [bs_size]; simp⟩, splitB_eq]

theorem splitL_mem {c b : UInt8} (hb : b ≠ c) : ∀ {l : List UInt8}, b ∈ l → ∃ p ∈ splitL c l, b ∈ p
  | x :: l, h => by
    by_cases hx : x = c
    · rw [splitL, if_pos hx]
      rcases List.mem_cons.1 h with rfl | h
      · exact absurd hx hb
      · obtain ⟨p, hp, h2⟩ := splitL_mem hb h
        exact ⟨p, List.mem_cons_of_mem _ hp, h2⟩
    · rw [splitL_cons_ne hx]
      have hne := splitL_ne c l
      cases hs : splitL c l with
      | nil => exact absurd hs hne
      | cons y r =>
        rcases List.mem_cons.1 h with rfl | h
        · exact ⟨[b] ++ y, by simp [hd], by simp⟩
        · obtain ⟨p, hp, h2⟩ := splitL_mem hb h
          rw [hs] at hp
          rcases List.mem_cons.1 hp with rfl | hp
          · exact ⟨[x] ++ p, by simp [hd], by simp [h2]⟩
          · exact ⟨p, by simp [hd, hp], h2⟩

theorem splitL_part {c : UInt8} : ∀ {l p : List UInt8}, p ∈ splitL c l → p.length ≤ l.length ∧ ∀ b ∈ p, b ∈ l
  | [], p, h => by simp [splitL] at h; subst h; simp
  | x :: l, p, h => by
    by_cases hx : x = c
    · rw [splitL, if_pos hx] at h
      rcases List.mem_cons.1 h with rfl | h
      · simp
      · have := splitL_part h
        exact ⟨by simp; omega, fun b hb => List.mem_cons_of_mem _ (this.2 b hb)⟩
    · rw [splitL_cons_ne hx] at h
      have hne := splitL_ne c l
      cases hs : splitL c l with
      | nil => exact absurd hs hne
      | cons y r =>
        rw [hs] at h
        rcases List.mem_cons.1 h with rfl | h
        · have := splitL_part (show y ∈ splitL c l by rw [hs]; exact List.mem_cons_self)
          refine ⟨by simp; omega, fun b hb => ?_⟩
          rcases List.mem_cons.1 hb with rfl | hb
          · exact List.mem_cons_self
          · exact List.mem_cons_of_mem _ (this.2 b hb)
        · have := splitL_part (show p ∈ splitL c l by rw [hs]; exact List.mem_cons_of_mem _ h)
          exact ⟨by simp; omega, fun b hb => List.mem_cons_of_mem _ (this.2 b hb)⟩

/-- a step as text -/
def stT (x : S44) : List UInt8 :=
  if x.f0 = 1 then [32, 115, 97, 110, 100, 58] ++ Lib.itoa x.f1 ++ [44] ++ Lib.itoa x.f2
  else if x.f0 = 2 then [32, 100, 121, 101, 58] ++ Lib.itoa x.f1 ++ [44] ++ Lib.itoa x.f2
  else [32, 98, 108, 101, 97, 99, 104, 58] ++ Lib.itoa x.f1
/-- a recipe as text -/
def recT (s : List UInt8) (l : List S44) : List UInt8 := s ++ (l.map stT).flatten

theorem vs_in (x : S44) (h : vs x = true) : (x.f0 = 1 ∨ x.f0 = 2 ∨ x.f0 = 3) ∧ (0 ≤ x.f1 ∧ x.f1 ≤ 600) ∧ (0 ≤ x.f2 ∧ x.f2 ≤ 600) := by
  have h1 := (vs_spec x).2.1
  rw [h] at h1
  unfold impl_ValidStep.f at h1
  simp only [within_eq, Option.bind_some] at h1
  by_cases a : x.f0 = 1
  · rw [if_pos a] at h1
    by_cases b : 100 ≤ x.f1 ∧ x.f1 ≤ 300
    · by_cases c : 0 ≤ x.f2 ∧ x.f2 ≤ 600
      · omega
      · simp [b, c] at h1
    · simp [b] at h1
  · rw [if_neg a] at h1
    by_cases a2 : x.f0 = 2
    · rw [if_pos a2] at h1
      by_cases b : 0 ≤ x.f1 ∧ x.f1 ≤ 100
      · by_cases c : 0 ≤ x.f2 ∧ x.f2 ≤ 100
        · omega
        · simp [b, c] at h1
      · simp [b] at h1
    · rw [if_neg a2] at h1
      by_cases a3 : x.f0 = 3
      · rw [if_pos a3] at h1
        by_cases b : 0 ≤ x.f1 ∧ x.f1 ≤ 600
        · by_cases c : x.f2 = 0
          · omega
          · simp [b, c] at h1
        · simp [b] at h1
      · simp [a3] at h1

theorem ltext2 (a b : Int) : ltext [a, b] = Lib.itoa a ++ [44] ++ Lib.itoa b := by
  unfold ltext; rw [if_neg (by simp)]
  simp [Lib.join_cons, Lib.joinTail]

theorem bcat' (a b : List UInt8) : bs a ++ bs b = bs (a ++ b) := bcat a b

theorem stT_len (x : S44) (h : vs x = true) : (stT x).length ≤ 60 := by
  obtain ⟨_, h1, h2⟩ := vs_in x h
  have e1 := itoa_len x.f1 (by omega) (by omega)
  have e2 := itoa_len x.f2 (by omega) (by omega)
  unfold stT
  split
  · simp; omega
  · split <;> simp <;> omega

theorem flat_len (l : List S44) (h : ∀ x ∈ l, vs x = true) : ((l.map stT).flatten).length ≤ 60 * l.length := by
  induction l with
  | nil => simp
  | cons x l ih =>
    have := stT_len x (h x List.mem_cons_self)
    have := ih (fun y hy => h y (List.mem_cons_of_mem _ hy))
    simp only [List.map_cons, List.flatten_cons, List.length_append, List.length_cons]; omega

theorem implRT (s : List UInt8) (l : List S44) (hs : s.length ≤ 1048576) (hl : l.length ≤ 8) (hv : ∀ x ∈ l, vs x = true) (k : Nat) (hk : 1000 < k) : impl_RecipeText.l0 k (bs s) l (l.length : Int) 0 [()] = some (bs (recT s l)) := by
  have key : ∀ (d i k : Nat), i + d = l.length → 500 + d < k → impl_RecipeText.l0 k (bs (recT s (l.take i))) l (l.length : Int) (i : Int) [()] = some (bs (recT s l)) := by
    intro d
    induction d with
    | zero =>
      intro i k hi hk
      obtain ⟨k, rfl⟩ : ∃ m, k = m + 1 := ⟨k - 1, by omega⟩
      simp only [impl_RecipeText.l0]
      rw [if_neg (by omega), List.take_of_length_le (by omega)]
    | succ d ih =>
      intro i k hi hk
      obtain ⟨k, rfl⟩ : ∃ m, k = m + 1 := ⟨k - 1, by omega⟩
      have hlt : i < l.length := by omega
      have hx := hv _ (List.getElem_mem hlt)
      obtain ⟨h0, h1, h2⟩ := vs_in _ hx
      have ht : l.take (i + 1) = l.take i ++ [l[i]] := List.take_succ_eq_append_getElem hlt
      have hf := flat_len (l.take i) (fun x hx => hv x (List.mem_of_mem_take hx))
      have htl : (l.take i).length ≤ 8 := by simp; omega
      have e1 := itoa_len l[i].f1 (by omega) (by omega)
      have e2 := itoa_len l[i].f2 (by omega) (by omega)
      have hrl : (bs (recT s (l.take i))).size ≤ 1050000 := by rw [bs_size]; unfold recT; rw [List.length_append]; omega
      have hf2 : fits [l[i].f1, l[i].f2] = true := by unfold fits; simp; omega
      have d12 : impl_ListText.f k [l[i].f1, l[i].f2] [()] = some (bs (Lib.itoa l[i].f1 ++ [44] ++ Lib.itoa l[i].f2)) := by
        rw [implList_eq _ k (by omega), if_pos hf2, ltext2]; rfl
      have z12 : (bs (Lib.itoa l[i].f1 ++ [44] ++ Lib.itoa l[i].f2)).size ≤ 50 := by rw [bs_size]; simp; omega
      have d1 : impl_Decimal.f l[i].f1 [()] = some (bs (Lib.itoa l[i].f1)) := fmt_eq _ (by omega) (by omega)
      have z1 : (bs (Lib.itoa l[i].f1)).size ≤ 21 := by rw [bs_size]; exact e1
      have hn := ih (i + 1) k (by omega) (by omega)
      have hrt : recT s (l.take (i + 1)) = recT s (l.take i) ++ stT l[i] := by rw [ht]; unfold recT; rw [List.map_append, List.flatten_append, List.map_cons, List.map_nil, List.flatten_cons, List.flatten_nil, List.append_nil, List.append_assoc]
      rw [hrt] at hn
      simp only [impl_RecipeText.l0]
      rw [if_pos (by omega), if_pos (by omega), if_pos (by omega), rd44 l i hlt]
      rcases h0 with h0 | h0 | h0
      · rw [if_pos h0, d12]
        simp only [Option.bind_some]
        rw [if_pos (by omega), if_pos (by omega), wnat (by omega)]
        rw [show (⟨#[32, 115, 97, 110, 100, 58]⟩ : ByteArray) = bs [32, 115, 97, 110, 100, 58] from rfl, bcat', bcat']
        have : stT l[i] = [32, 115, 97, 110, 100, 58] ++ (Lib.itoa l[i].f1 ++ [44] ++ Lib.itoa l[i].f2) := by unfold stT; rw [if_pos h0]; simp
        rw [← this]; exact hn
      · rw [if_neg (by omega), if_pos h0, d12]
        simp only [Option.bind_some]
        rw [if_pos (by omega), if_pos (by omega), wnat (by omega)]
        rw [show (⟨#[32, 100, 121, 101, 58]⟩ : ByteArray) = bs [32, 100, 121, 101, 58] from rfl, bcat', bcat']
        have : stT l[i] = [32, 100, 121, 101, 58] ++ (Lib.itoa l[i].f1 ++ [44] ++ Lib.itoa l[i].f2) := by unfold stT; rw [if_neg (by omega), if_pos h0]; simp
        rw [← this]; exact hn
      · rw [if_neg (by omega), if_neg (by omega), if_pos h0, d1]
        simp only [Option.bind_some]
        rw [if_pos (by omega), if_pos (by omega), wnat (by omega)]
        rw [show (⟨#[32, 98, 108, 101, 97, 99, 104, 58]⟩ : ByteArray) = bs [32, 98, 108, 101, 97, 99, 104, 58] from rfl, bcat', bcat']
        have : stT l[i] = [32, 98, 108, 101, 97, 99, 104, 58] ++ Lib.itoa l[i].f1 := by unfold stT; rw [if_neg (by omega), if_neg (by omega)]
        rw [← this]; exact hn
  have := key l.length 0 k (by omega) (by omega)
  rw [show recT s (l.take 0) = s by unfold recT; simp] at this
  exact this

def dgt (c : UInt8) : Bool := decide (48 ≤ c.toNat ∧ c.toNat ≤ 57)
def valf : List UInt8 → Int → Int
  | [], n => n
  | c :: l, n => valf l (10 * n + ((c.toNat : Int) - 48))

theorem valf_snoc (c : UInt8) : ∀ (l : List UInt8) (n : Int), valf (l ++ [c]) n = 10 * valf l n + ((c.toNat : Int) - 48)
  | [], n => rfl
  | b :: l, n => valf_snoc c l _

theorem valf_bound : ∀ (l : List UInt8) (n : Int) (d : Nat), l.all dgt = true → 0 ≤ n → n < 10 ^ d → 0 ≤ valf l n ∧ valf l n < 10 ^ (d + l.length)
  | [], n, d, _, h0, h1 => ⟨h0, h1⟩
  | c :: l, n, d, h, h0, h1 => by
    rw [List.all_cons, Bool.and_eq_true] at h
    have hc : 48 ≤ c.toNat ∧ c.toNat ≤ 57 := by simpa [dgt] using h.1
    have := valf_bound l (10 * n + ((c.toNat : Int) - 48)) (d + 1) h.2 (by omega) (by rw [Int.pow_succ]; omega)
    rw [List.length_cons, show d + (l.length + 1) = d + 1 + l.length by omega]
    exact this

/-- the number with a decimal form, if there is one -/
def num (l : List UInt8) : Int × Bool :=
  let D := if l.head? = some 45 then l.drop 1 else l
  if 1 ≤ D.length ∧ D.length ≤ 18 ∧ ¬ (D.head? = some 48 ∧ 1 < l.length) ∧ D.all dgt = true then (if l.head? = some 45 then -valf D 0 else valf D 0, true) else (0, false)

theorem dgt_eq (c : UInt8) : spec_l01Digit.f (c.toNat : Int) = some (dgt c) := by
  unfold spec_l01Digit.f dgt
  by_cases h : (c.toNat : Int) ≥ 48
  · rw [if_pos h]
    have : 48 ≤ c.toNat := by omega
    simp [this]; omega
  · rw [if_neg h]
    have : ¬ (48 ≤ c.toNat ∧ c.toNat ≤ 57) := by omega
    simp [this]

theorem wstep (n : Int) (c : UInt8) (hc : dgt c = true) (h0 : 0 ≤ n) (h1 : n < 10 ^ 17) : wrap64 (wrap64 (10 * n) + ((c.toNat : Int) - 48) % 256) = 10 * n + ((c.toNat : Int) - 48) := by
  have hc : 48 ≤ c.toNat ∧ c.toNat ≤ 57 := by simpa [dgt] using hc
  rw [w64 (x := 10 * n) (by omega) (by omega), w64 (by omega) (by omega)]; omega
theorem wstep' (n : Int) (c : UInt8) (hc : dgt c = true) (h0 : 0 ≤ n) (h1 : n < 10 ^ 17) : wrap64 (wrap64 (n * 10) + ((c.toNat : Int) - 48) % 256) = 10 * n + ((c.toNat : Int) - 48) := by
  rw [Int.mul_comm]; exact wstep n c hc h0 h1

theorem specNum_l0 (l : List UInt8) (hl : l.length ≤ 19) (at_ : Nat) (ha : at_ ≤ 1) (hD : l.length - at_ ≤ 18) : ∀ (d i k : Nat) (n : Int), i + d = l.length → at_ ≤ i → d < k → 0 ≤ n → n < 10 ^ (i - at_) →
    spec_l01Number.l0 k (bs l) (at_ : Int) n (i : Int) = some (if (l.drop i).all dgt = true then (if at_ = 1 then -valf (l.drop i) n else valf (l.drop i) n, true) else (0, false)) := by
  intro d
  induction d with
  | zero =>
    intro i k n hi hai hk h0 h1
    obtain ⟨k, rfl⟩ : ∃ m, k = m + 1 := ⟨k - 1, by omega⟩
    have hb : n < 10 ^ 18 := Int.lt_of_lt_of_le h1 (by
      have := Nat.pow_le_pow_right (show 0 < 10 by omega) (show i - at_ ≤ 18 by omega)
      exact_mod_cast this)
    simp only [spec_l01Number.l0]
    rw [bs_size, if_neg (by omega), List.drop_of_length_le (by omega)]
    by_cases h : at_ = 1
    · rw [if_pos (by omega), w64 (by omega) (by omega)]; simp [h, valf]
    · rw [if_neg (by omega)]; simp [h, valf]
  | succ d ih =>
    intro i k n hi hai hk h0 h1
    obtain ⟨k, rfl⟩ : ∃ m, k = m + 1 := ⟨k - 1, by omega⟩
    have hlt : i < l.length := by omega
    have hb : n < 10 ^ 17 := Int.lt_of_lt_of_le h1 (by
      have := Nat.pow_le_pow_right (show 0 < 10 by omega) (show i - at_ ≤ 17 by omega)
      exact_mod_cast this)
    simp only [spec_l01Number.l0]
    rw [bs_size, if_pos (by omega), if_pos (by omega), bt_bs l i hlt, dgt_eq, List.drop_eq_getElem_cons hlt, List.all_cons]
    simp only [Option.bind_some]
    cases hc : dgt l[i] with
    | false => simp
    | true =>
      have hc' : 48 ≤ (l[i]).toNat ∧ (l[i]).toNat ≤ 57 := by simpa [dgt] using hc
      rw [if_pos rfl, wstep n _ hc h0 hb, wnat (by omega), ih (i + 1) k _ (by omega) (by omega) (by omega) (by omega) (by
        rw [show i + 1 - at_ = (i - at_) + 1 by omega, Int.pow_succ]; omega)]
      simp [valf]

theorem head_at (l : List UInt8) (c : UInt8) (h : 0 < l.length) : (bt (bs l) 0 == (c.toNat : Int)) = decide (l.head? = some c) := by
  have := bt_bs l 0 h
  rw [show ((0 : Nat) : Int) = 0 from rfl] at this
  rw [this]
  cases l with
  | nil => simp at h
  | cons b r =>
    simp only [List.getElem_cons_zero, List.head?_cons, Option.some.injEq]
    by_cases e : b = c
    · subst e; simp
    · have : ¬ ((b.toNat : Int) = c.toNat) := fun h => e (UInt8.toNat_inj.1 (by omega))
      simp [e, this]

theorem specNum_j1 (l : List UInt8) (hl : l.length ≤ 1048576) (at_ : Nat) (ha : (at_ = 1 ∧ l.head? = some 45) ∨ (at_ = 0 ∧ ¬ l.head? = some 45)) (k : Nat) (hk : 100 < k) : spec_l01Number.j1 k (bs l) (at_ : Int) = some (num l) := by
  obtain ⟨k, rfl⟩ : ∃ m, k = m + 2 := ⟨k - 2, by omega⟩
  have hD : (if l.head? = some 45 then l.drop 1 else l) = l.drop at_ := by
    rcases ha with ⟨h1, h2⟩ | ⟨h1, h2⟩
    · rw [if_pos h2, h1]
    · rw [if_neg h2, h1]; rfl
  have hat : at_ ≤ 1 := by omega
  have hal : at_ ≤ l.length := by
    rcases ha with ⟨h1, h2⟩ | ⟨h1, h2⟩
    · cases l with
      | nil => simp at h2
      | cons b r => simp; omega
    · omega
  have hneg : (if l.head? = some 45 then -valf (l.drop at_) 0 else valf (l.drop at_) 0) = (if at_ = 1 then -valf (l.drop at_) 0 else valf (l.drop at_) 0) := by
    rcases ha with ⟨h1, h2⟩ | ⟨h1, h2⟩
    · rw [if_pos h2, if_pos h1]
    · rw [if_neg h2, if_neg (by omega)]
  unfold num
  simp only [hD, List.length_drop, hneg]
  simp only [spec_l01Number.j1]
  rw [bs_size]
  by_cases h1 : l.length = at_
  · rw [if_pos (by omega), if_neg (by omega)]
    simp [spec_l01Number.j2]
  · rw [if_neg (by omega), w64 (by omega) (by omega)]
    by_cases h2 : (l.length : Int) - at_ > 18
    · rw [if_pos h2, if_neg (by omega)]
      simp [spec_l01Number.j2]
    · have hlt : at_ < l.length := by omega
      rw [if_neg h2, if_pos (by omega), if_pos (by omega), bt_bs l at_ hlt]
      have hh : (l.drop at_).head? = some l[at_] := by rw [List.drop_eq_getElem_cons hlt]; rfl
      have hl0 := specNum_l0 l (by omega) at_ hat (by omega) (l.length - at_) at_ k 0 (by omega) (Nat.le_refl _) (by omega) (by omega) (by simp)
      by_cases h3 : l[at_] = 48
      · rw [if_pos (by rw [h3]; rfl)]
        by_cases h4 : (l.length : Int) > 1
        · rw [show decide ((l.length : Int) > 1) = true from decide_eq_true h4, if_neg (by rw [hh, h3]; rintro ⟨_, _, h, _⟩; exact h ⟨rfl, by omega⟩)]
          simp [spec_l01Number.j2]
        · rw [show decide ((l.length : Int) > 1) = false from decide_eq_false h4]
          simp only [spec_l01Number.j2, Bool.false_eq_true, if_false]
          rw [hl0]
          by_cases h5 : (l.drop at_).all dgt = true
          · have hc : 1 ≤ l.length - at_ ∧ l.length - at_ ≤ 18 ∧ ¬ ((l.drop at_).head? = some 48 ∧ 1 < l.length) ∧ (l.drop at_).all dgt = true := ⟨by omega, by omega, fun h => by omega, h5⟩
            rw [if_pos h5, if_pos hc]
          · rw [if_neg h5, if_neg (fun h => h5 h.2.2.2)]
      · rw [if_neg (fun h => h3 (UInt8.toNat_inj.1 (by rw [show (48 : UInt8).toNat = 48 from rfl]; omega)))]
        simp only [spec_l01Number.j2, Bool.false_eq_true, if_false]
        rw [hl0]
        by_cases h5 : (l.drop at_).all dgt = true
        · have hc : 1 ≤ l.length - at_ ∧ l.length - at_ ≤ 18 ∧ ¬ ((l.drop at_).head? = some 48 ∧ 1 < l.length) ∧ (l.drop at_).all dgt = true := ⟨by omega, by omega, fun h => h3 (by rw [hh] at h; exact Option.some.inj h.1), h5⟩
          rw [if_pos h5, if_pos hc]
        · rw [if_neg h5, if_neg (fun h => h5 h.2.2.2)]

theorem specNum (l : List UInt8) (hl : l.length ≤ 1048576) (k : Nat) (hk : 200 < k) : spec_l01Number.f k (bs l) = some (num l) := by
  unfold spec_l01Number.f
  obtain ⟨k, rfl⟩ : ∃ m, k = m + 1 := ⟨k - 1, by omega⟩
  rw [bs_size]
  by_cases h : l.length = 0
  · have : l = [] := List.eq_nil_of_length_eq_zero h
    rw [if_neg (by omega)]
    simp only [spec_l01Number.j0, Bool.false_eq_true, if_false]
    exact specNum_j1 l hl 0 (.inr ⟨rfl, by rw [this]; simp⟩) k (by omega)
  · rw [if_pos (by omega), if_pos (by omega), show (45 : Int) = ((45 : UInt8).toNat : Int) from rfl, head_at l 45 (by omega)]
    simp only [spec_l01Number.j0, decide_eq_true_eq]
    by_cases h2 : l.head? = some 45
    · rw [if_pos h2]; exact specNum_j1 l hl 1 (.inl ⟨rfl, h2⟩) k (by omega)
    · rw [if_neg h2]; exact specNum_j1 l hl 0 (.inr ⟨rfl, h2⟩) k (by omega)

theorem head_app (a b : List UInt8) (h : a ≠ []) : (a ++ b).head? = a.head? := by
  cases a with
  | nil => exact absurd rfl h
  | cons x r => rfl

theorem decDigits_head : ∀ u : Nat, 0 < u → ∀ c, (Lib.decDigits u).head? = some c → c ≠ 48 := by
  intro u
  induction u using Nat.strongRecOn with
  | ind u ih =>
    intro hu c hc
    by_cases h : u < 10
    · rw [Lib.decDigits_one h] at hc
      simp only [List.head?_cons, Option.some.injEq] at hc
      subst hc
      intro h2
      have := congrArg UInt8.toNat h2
      rw [UInt8.toNat_ofNat', show (48 : UInt8).toNat = 48 from rfl] at this
      omega
    · rw [show Lib.decDigits u = Lib.decDigits (u / 10) ++ [UInt8.ofNat (48 + u % 10)] by rw [Lib.decDigits, dif_neg h]] at hc
      have hne : Lib.decDigits (u / 10) ≠ [] := by
        intro h2
        have := Lib.decDigits_length (u / 10)
        rw [h2] at this
        have := Lib.nDigits_pos (u / 10)
        simp at *; omega
      rw [head_app _ _ hne] at hc
      exact ih (u / 10) (by omega) (by omega) c hc

theorem ofNat_dgt (c : UInt8) (h : 48 ≤ c.toNat ∧ c.toNat ≤ 57) : UInt8.ofNat (48 + (c.toNat - 48)) = c := by
  apply UInt8.toNat_inj.1
  rw [UInt8.toNat_ofNat']
  omega

/-- digits without a leading zero are the digits of their value -/
theorem decDigits_valf : ∀ (n : Nat) (l : List UInt8), l.length = n + 1 → l.all dgt = true → ((l.head? = some 48) → n = 0) → 0 ≤ valf l 0 ∧ Lib.decDigits (valf l 0).toNat = l ∧ (l.head? ≠ some 48 → 0 < valf l 0) := by
  intro n
  induction n with
  | zero =>
    intro l hl ha _
    match l, hl with
    | [c], _ =>
      have hc : 48 ≤ c.toNat ∧ c.toNat ≤ 57 := by simpa [dgt] using ha
      have e : valf [c] 0 = ((c.toNat - 48 : Nat) : Int) := by simp only [valf]; omega
      refine ⟨by rw [e]; omega, ?_, fun h => ?_⟩
      · rw [e, Int.toNat_natCast, Lib.decDigits_one (by omega), ofNat_dgt c hc]
      · rw [e]
        have : c ≠ 48 := fun h2 => h (by rw [h2]; rfl)
        have : c.toNat ≠ 48 := fun h2 => this (UInt8.toNat_inj.1 h2)
        omega
  | succ n ih =>
    intro l hl ha hz
    have hne : l ≠ [] := by intro h; rw [h] at hl; simp at hl
    obtain ⟨m, c, rfl⟩ : ∃ m c, l = m ++ [c] := ⟨l.dropLast, l.getLast hne, (List.dropLast_concat_getLast hne).symm⟩
    rw [List.all_append, Bool.and_eq_true] at ha
    have hc : 48 ≤ c.toNat ∧ c.toNat ≤ 57 := by simpa [dgt] using ha.2
    have hm : m.length = n + 1 := by simpa using hl
    have hmn : m ≠ [] := by intro h; rw [h] at hm; simp at hm
    rw [head_app _ _ hmn] at hz ⊢
    have h48 : m.head? ≠ some 48 := fun h => by have := hz h; omega
    obtain ⟨h1, h2, h3⟩ := ih m hm ha.1 (fun h => absurd h h48)
    have h4 := h3 h48
    have e : valf (m ++ [c]) 0 = ((10 * (valf m 0).toNat + (c.toNat - 48) : Nat) : Int) := by rw [valf_snoc]; omega
    refine ⟨by rw [e]; omega, ?_, fun _ => by rw [e]; omega⟩
    rw [e, Int.toNat_natCast, Lib.decDigits, dif_neg (by omega), show (10 * (valf m 0).toNat + (c.toNat - 48)) / 10 = (valf m 0).toNat by omega, h2, show (10 * (valf m 0).toNat + (c.toNat - 48)) % 10 = c.toNat - 48 by omega, ofNat_dgt c hc]

theorem decDigits_no (l : List UInt8) (u : Nat) (h : l.head? = some 48) (hl : 1 < l.length) : Lib.decDigits u ≠ l := by
  intro e
  by_cases hu : u = 0
  · subst hu
    rw [Lib.decDigits_one (by omega)] at e
    rw [← e] at hl; simp at hl
  · exact decDigits_head u (by omega) 48 (by rw [e]; exact h) rfl

theorem hasPrefix_neg (l : List UInt8) : Lib.hasPrefix l [45] = decide (l.head? = some 45) := by
  unfold Lib.hasPrefix
  cases l with
  | nil => rfl
  | cons b r =>
    simp only [List.isPrefixOf, List.head?_cons, Option.some.injEq, Bool.and_true]
    by_cases h : b = 45
    · subst h; rfl
    · have : ((45 : UInt8) == b) = false := by simpa using Ne.symm h
      rw [this]; simp [h]

theorem bs_eq_toList (a b : List UInt8) : ((bs a).toList = (bs b).toList) = (a = b) := by rw [bs_toList, bs_toList]

theorem implNum_l0 (l D : List UInt8) (neg : Bool) (hN : (neg = true ∧ l = 45 :: D) ∨ (neg = false ∧ l = D)) (hD : D.length ≤ 18) (h1 : 1 ≤ D.length) : ∀ (d i k : Nat) (n : Int), i + d = D.length → d < k → (D.take i).all dgt = true → n = valf (D.take i) 0 →
    impl_ReadDecimal.l0 k (bs l) (bs D) n (i : Int) [()] = some (if ¬ (D.head? = some 48 ∧ 1 < l.length) ∧ D.all dgt = true then (if neg = true then -valf D 0 else valf D 0, true) else (0, false)) := by
  intro d
  induction d with
  | zero =>
    intro i k n hi hk hp hn
    obtain ⟨k, rfl⟩ : ∃ m, k = m + 1 := ⟨k - 1, by omega⟩
    have ht : D.take i = D := List.take_of_length_le (by omega)
    rw [ht] at hp hn
    obtain ⟨b0, b1⟩ := valf_bound D 0 0 hp (by omega) (by simp)
    have hb : valf D 0 < 10 ^ 18 := Int.lt_of_lt_of_le b1 (by
      have := Nat.pow_le_pow_right (show 0 < 10 by omega) (show 0 + D.length ≤ 18 by omega)
      exact_mod_cast this)
    subst hn
    simp only [impl_ReadDecimal.l0]
    rw [bs_size, bs_size, if_neg (by omega)]
    rcases hN with ⟨rfl, rfl⟩ | ⟨rfl, rfl⟩
    · rw [if_pos (by simp only [List.length_cons]; omega), w64 (by omega) (by omega), fmt_eq _ (by omega) (by omega)]
      simp only [Option.bind_some]
      rw [show (⟨(Lib.itoa (-valf D 0)).toArray⟩ : ByteArray) = bs (Lib.itoa (-valf D 0)) from rfl]
      simp only [bs_eq_toList]
      by_cases h48 : D.head? = some 48
      · have hcn : ¬ (¬ (D.head? = some 48 ∧ 1 < (45 :: D).length) ∧ D.all dgt = true) := fun h => h.1 ⟨h48, by simp only [List.length_cons]; omega⟩
        have hne : ¬ (Lib.itoa (-valf D 0) = 45 :: D) := by
          intro e
          by_cases hv : valf D 0 = 0
          · rw [hv] at e
            have : Lib.itoa (-0) = [48] := by unfold Lib.itoa; rw [if_neg (by omega)]; exact Lib.decDigits_one (by omega)
            rw [this] at e
            simp at e
          · unfold Lib.itoa at e
            rw [if_pos (by omega), List.cons.injEq] at e
            exact decDigits_head (-valf D 0).natAbs (by omega) 48 (by rw [e.2]; exact h48) rfl
        rw [if_neg hne, if_neg hcn]
      · obtain ⟨_, e2, e3⟩ := decDigits_valf (D.length - 1) D (by omega) hp (fun h => absurd h h48)
        have hv := e3 h48
        have hcp : ¬ (D.head? = some 48 ∧ 1 < (45 :: D).length) ∧ D.all dgt = true := ⟨fun h => h48 h.1, hp⟩
        have heq : Lib.itoa (-valf D 0) = 45 :: D := by
          unfold Lib.itoa
          rw [if_pos (by omega), show (-valf D 0).natAbs = (valf D 0).toNat by omega, e2]
        rw [if_pos heq, if_pos hcp]; simp
    · rw [if_neg (by omega), fmt_eq _ (by omega) (by omega)]
      simp only [Option.bind_some]
      rw [show (⟨(Lib.itoa (valf l 0)).toArray⟩ : ByteArray) = bs (Lib.itoa (valf l 0)) from rfl]
      simp only [bs_eq_toList]
      have hit : Lib.itoa (valf l 0) = Lib.decDigits (valf l 0).toNat := by unfold Lib.itoa; rw [if_neg (by omega)]
      rw [hit]
      by_cases h48 : l.head? = some 48 ∧ 1 < l.length
      · have hcn : ¬ (¬ (l.head? = some 48 ∧ 1 < l.length) ∧ l.all dgt = true) := fun h => h.1 h48
        rw [if_neg (decDigits_no l _ h48.1 h48.2), if_neg hcn]
      · obtain ⟨_, e2, _⟩ := decDigits_valf (l.length - 1) l (by omega) hp (fun h => by
          have : ¬ 1 < l.length := fun h2 => h48 ⟨h, h2⟩
          omega)
        have hcp : ¬ (l.head? = some 48 ∧ 1 < l.length) ∧ l.all dgt = true := ⟨h48, hp⟩
        rw [if_pos e2, if_pos hcp]; simp
  | succ d ih =>
    intro i k n hi hk hp hn
    obtain ⟨k, rfl⟩ : ∃ m, k = m + 1 := ⟨k - 1, by omega⟩
    have hlt : i < D.length := by omega
    obtain ⟨b0, b1⟩ := valf_bound (D.take i) 0 0 hp (by omega) (by simp)
    have hb : valf (D.take i) 0 < 10 ^ 17 := Int.lt_of_lt_of_le b1 (by
      have := Nat.pow_le_pow_right (show 0 < 10 by omega) (show 0 + (D.take i).length ≤ 17 by simp; omega)
      exact_mod_cast this)
    have ht : D.take (i + 1) = D.take i ++ [D[i]] := List.take_succ_eq_append_getElem hlt
    simp only [impl_ReadDecimal.l0]
    rw [bs_size, if_pos (by omega), if_pos (by omega), bt_bs D i hlt]
    cases hc : dgt D[i] with
    | false =>
      have hall : ¬ D.all dgt = true := by
        intro h
        rw [List.all_eq_true] at h
        rw [h _ (List.getElem_mem hlt)] at hc
        cases hc
      have hcn : ¬ (¬ (D.head? = some 48 ∧ 1 < l.length) ∧ D.all dgt = true) := fun h => hall h.2
      have hc' : ¬ (48 ≤ (D[i]).toNat ∧ (D[i]).toNat ≤ 57) := by
        intro h2
        have : dgt D[i] = true := decide_eq_true h2
        rw [this] at hc; cases hc
      rw [if_neg hcn]
      by_cases h2 : ((D[i]).toNat : Int) < 48
      · rw [if_pos h2]
      · rw [if_neg h2, if_pos (by omega)]
    | true =>
      have hc' : 48 ≤ (D[i]).toNat ∧ (D[i]).toNat ≤ 57 := by simpa [dgt] using hc
      rw [if_neg (by omega), if_neg (by omega), wnat (by omega), hn, wstep' _ _ hc b0 hb]
      exact ih (i + 1) k _ (by omega) (by omega) (by rw [ht, List.all_append, hp]; simp [hc]) (by rw [ht, valf_snoc])

theorem implNum (l : List UInt8) (hl : l.length ≤ 1048576) (k : Nat) (hk : 200 < k) : impl_ReadDecimal.f k (bs l) [()] = some (num l) := by
  obtain ⟨k, rfl⟩ : ∃ m, k = m + 2 := ⟨k - 2, by omega⟩
  unfold impl_ReadDecimal.f Go.Proofs.YteijbdngbmciaaaDoorX.strings_HasPrefix.f
  rw [show (⟨#[45]⟩ : ByteArray) = bs [45] from rfl, bs_list, bs_list, hasPrefix_neg]
  simp only [Option.bind_some, decide_eq_true_eq]
  have fin : ∀ (D : List UInt8) (neg : Bool), ((neg = true ∧ l = 45 :: D) ∨ (neg = false ∧ l = D)) → (neg = true ↔ l.head? = some 45) → impl_ReadDecimal.j0 (k + 2) (bs l) (bs D) [()] = some (num l) := by
    intro D neg hN hneg
    have hD : (if l.head? = some 45 then l.drop 1 else l) = D := by
      rcases hN with ⟨h1, h2⟩ | ⟨h1, h2⟩
      · rw [if_pos (hneg.1 h1), h2]; rfl
      · rw [if_neg (fun h => by rw [hneg.2 h] at h1; cases h1), h2]
    have hv : (if l.head? = some 45 then -valf D 0 else valf D 0) = (if neg = true then -valf D 0 else valf D 0) := by
      cases neg with
      | true => rw [if_pos (hneg.1 rfl), if_pos rfl]
      | false => rw [if_neg (fun h => by have := hneg.2 h; cases this), if_neg (by simp)]
    have hDl : D.length ≤ l.length := by rcases hN with ⟨_, h2⟩ | ⟨_, h2⟩ <;> rw [h2] <;> simp
    unfold num
    simp only [hD, hv]
    simp only [impl_ReadDecimal.j0]
    rw [bs_size]
    by_cases h1 : (D.length : Int) < 1
    · rw [if_pos h1, if_neg (by omega)]
      simp [impl_ReadDecimal.j1]
    · rw [if_neg h1]
      by_cases h2 : (D.length : Int) > 18
      · rw [decide_eq_true h2, if_neg (by omega)]
        simp [impl_ReadDecimal.j1]
      · rw [decide_eq_false h2]
        simp only [impl_ReadDecimal.j1, Bool.false_eq_true, if_false]
        have := implNum_l0 l D neg hN (by omega) (by omega) D.length 0 k 0 (by omega) (by omega) (by simp) (by simp [valf])
        rw [show ((0 : Nat) : Int) = 0 from rfl] at this
        rw [this]
        by_cases h3 : ¬ (D.head? = some 48 ∧ 1 < l.length) ∧ D.all dgt = true
        · have hc : 1 ≤ D.length ∧ D.length ≤ 18 ∧ ¬ (D.head? = some 48 ∧ 1 < l.length) ∧ D.all dgt = true := ⟨by omega, by omega, h3.1, h3.2⟩
          rw [if_pos h3, if_pos hc]
        · have hc : ¬ (1 ≤ D.length ∧ D.length ≤ 18 ∧ ¬ (D.head? = some 48 ∧ 1 < l.length) ∧ D.all dgt = true) := fun h => h3 ⟨h.2.2.1, h.2.2.2⟩
          rw [if_neg h3, if_neg hc]
  by_cases h : l.head? = some 45
  · cases l with
    | nil => simp at h
    | cons b r =>
      simp only [List.head?_cons, Option.some.injEq] at h
      subst h
      rw [if_pos (show (45 :: r).head? = some 45 from rfl), bs_size, if_pos (by simp only [List.length_cons]; omega), extract_bs]
      have := fin r true (.inl ⟨rfl, rfl⟩) (by simp)
      simpa using this
  · rw [if_neg h]
    exact fin l false (.inr ⟨rfl, rfl⟩) (by simp [h])

theorem num_bytes {l : List UInt8} (h : (num l).2 = true) : ∀ b ∈ l, b = 45 ∨ dgt b = true := by
  unfold num at h
  simp only at h
  generalize hD : (if l.head? = some 45 then l.drop 1 else l) = D at h
  by_cases hc : 1 ≤ D.length ∧ D.length ≤ 18 ∧ ¬ (D.head? = some 48 ∧ 1 < l.length) ∧ D.all dgt = true
  · have hall := hc.2.2.2
    rw [List.all_eq_true] at hall
    intro b hb
    by_cases h45 : l.head? = some 45
    · rw [if_pos h45] at hD
      cases l with
      | nil => simp at hb
      | cons x r =>
        rcases List.mem_cons.1 hb with rfl | hb
        · left; simpa using h45
        · right; exact hall b (by rw [← hD]; simpa using hb)
    · rw [if_neg h45] at hD
      right; exact hall b (by rw [← hD]; exact hb)
  · rw [if_neg hc] at h; cases h

/-- within the bounds of a list's numbers -/
def inB (n : Int) : Bool := decide (-1000000000000 ≤ n ∧ n ≤ 1000000000000)
def okP (p : List UInt8) : Bool := (num p).2 && inB (num p).1

/-- the list with a text -/
def rl (l : List UInt8) : List Int × Bool :=
  if l = [45] then ([], true) else if (splitL 44 l).all okP = true ∧ (splitL 44 l).length ≤ 64 then ((splitL 44 l).map fun p => (num p).1, true) else ([], false)

theorem rdS (xs : List (List UInt8)) (i : Nat) (h : i < xs.length) : rdOf ByteArray.empty (xs.map bs) (i : Int) = bs xs[i] := by
  unfold rdOf; simp [List.getD, h]

theorem toList45 (l : List UInt8) : ((bs l).toList = ([45] : List UInt8)) = (l = [45]) := by rw [bs_toList]

theorem specRL (l : List UInt8) (hl : l.length ≤ 1048576) (k : Nat) (hk : 1100000 < k) : spec_ReadList.f k (bs l) = some (rl l) := by
  unfold spec_ReadList.f rl
  simp only [toList45]
  by_cases h : l = [45]
  · rw [if_pos h, if_pos h]
  rw [if_neg h, if_neg h, show (44 : Int) = ((44 : UInt8).toNat : Int) from rfl, specSplit l 44 hl k (by omega)]
  simp only [Option.bind_some, List.length_map]
  by_cases h64 : (splitL 44 l).length ≤ 64
  · rw [if_neg (by omega)]
    have hp : ∀ p ∈ splitL 44 l, p.length ≤ 1048576 := fun p hp => by have := (splitL_part hp).1; omega
    generalize splitL 44 l = ps at h64 hp
    have key : ∀ (d i k : Nat), i + d = ps.length → 300 + d < k → (ps.take i).all okP = true → spec_ReadList.l0 k (ps.map bs) ((ps.take i).map fun p => (num p).1) (i : Int) = some (if ps.all okP = true then (ps.map fun p => (num p).1, true) else ([], false)) := by
      intro d
      induction d with
      | zero =>
        intro i k hi hk ha
        obtain ⟨k, rfl⟩ : ∃ m, k = m + 1 := ⟨k - 1, by omega⟩
        rw [List.take_of_length_le (by omega)] at ha ⊢
        simp only [spec_ReadList.l0]
        rw [List.length_map, if_neg (by omega), if_pos ha]
      | succ d ih =>
        intro i k hi hk ha
        obtain ⟨k, rfl⟩ : ∃ m, k = m + 1 := ⟨k - 1, by omega⟩
        have hlt : i < ps.length := by omega
        have ht : ps.take (i + 1) = ps.take i ++ [ps[i]] := List.take_succ_eq_append_getElem hlt
        simp only [spec_ReadList.l0]
        rw [List.length_map, if_pos (by omega), if_pos (by omega), rdS ps i hlt, specNum _ (hp _ (List.getElem_mem hlt)) k (by omega)]
        simp only [Option.bind_some, l00In_eq]
        cases h1 : (num ps[i]).2 with
        | false =>
          have hn : ¬ ps.all okP = true := by
            intro h2; rw [List.all_eq_true] at h2
            have := h2 _ (List.getElem_mem hlt)
            unfold okP at this; rw [h1] at this; cases this
          rw [if_neg (by simp), if_neg hn]
        | true =>
          rw [if_pos rfl]
          cases h2 : inB (num ps[i]).1 with
          | false =>
            have hn : ¬ ps.all okP = true := by
              intro h3; rw [List.all_eq_true] at h3
              have := h3 _ (List.getElem_mem hlt)
              unfold okP at this; rw [h2, Bool.and_false] at this; cases this
            unfold inB at h2
            rw [h2, if_neg (by simp), if_neg hn]
          | true =>
            have h2' := h2
            unfold inB at h2
            rw [h2, if_pos rfl, if_pos (by rw [List.length_map, List.length_take]; omega), wnat (by omega)]
            have := ih (i + 1) k (by omega) (by omega) (by rw [ht, List.all_append, ha]; simp [okP, h1, h2'])
            rw [ht, List.map_append, List.map_cons, List.map_nil] at this
            exact this
    have := key ps.length 0 k (by omega) (by omega) (by simp)
    simp only [List.take_zero, List.map_nil] at this
    rw [show ((0 : Nat) : Int) = 0 from rfl] at this
    rw [this]
    by_cases ha : ps.all okP = true
    · rw [if_pos ha, if_pos ⟨ha, h64⟩]
    · rw [if_neg ha, if_neg (fun h => ha h.1)]
  · rw [if_pos (by omega), if_neg (fun h => h64 h.2)]

theorem implRL (l : List UInt8) (hl : l.length ≤ 1048576) (k : Nat) (hk : 1100000 < k) : impl_ReadList.f k (bs l) [()] = some (rl l) := by
  unfold impl_ReadList.f rl
  simp only [toList45]
  by_cases h : l = [45]
  · rw [if_pos h, if_pos h]
  rw [if_neg h, if_neg h, show (⟨#[44]⟩ : ByteArray) = bs [44] from rfl, implSplit l 44 hl]
  simp only [Option.bind_some, List.length_map]
  have hlen := splitL_len 44 l
  have hp : ∀ p ∈ splitL 44 l, p.length ≤ 1048576 := fun p hp => by have := (splitL_part hp).1; omega
  generalize splitL 44 l = ps at hlen hp
  have key : ∀ (d i k : Nat), i + d = ps.length → 300 + d < k → (ps.take i).all okP = true → impl_ReadList.l0 k ((ps.take i).map fun p => (num p).1) (ps.map bs) (ps.length : Int) (i : Int) [()] = some (if ps.all okP = true ∧ ps.length ≤ 64 then (ps.map fun p => (num p).1, true) else ([], false)) := by
    intro d
    induction d with
    | zero =>
      intro i k hi hk ha
      obtain ⟨k, rfl⟩ : ∃ m, k = m + 1 := ⟨k - 1, by omega⟩
      rw [List.take_of_length_le (by omega)] at ha ⊢
      simp only [impl_ReadList.l0]
      rw [if_neg (by omega), List.length_map]
      by_cases h64 : ps.length ≤ 64
      · rw [if_neg (by omega), if_pos ⟨ha, h64⟩]
      · rw [if_pos (by omega), if_neg (fun h => h64 h.2)]
    | succ d ih =>
      intro i k hi hk ha
      obtain ⟨k, rfl⟩ : ∃ m, k = m + 1 := ⟨k - 1, by omega⟩
      have hlt : i < ps.length := by omega
      have ht : ps.take (i + 1) = ps.take i ++ [ps[i]] := List.take_succ_eq_append_getElem hlt
      simp only [impl_ReadList.l0]
      rw [if_pos (by omega), if_pos (by omega), List.length_map, if_pos (by omega), rdS ps i hlt, implNum _ (hp _ (List.getElem_mem hlt)) k (by omega)]
      simp only [Option.bind_some, within_eq]
      cases h1 : (num ps[i]).2 with
      | false =>
        have hn : ¬ (ps.all okP = true ∧ ps.length ≤ 64) := by
          intro h2; have h2 := h2.1; rw [List.all_eq_true] at h2
          have := h2 _ (List.getElem_mem hlt)
          unfold okP at this; rw [h1] at this; cases this
        rw [if_neg (by simp), if_neg hn]
      | true =>
        rw [if_pos rfl]
        cases h2 : inB (num ps[i]).1 with
        | false =>
          have hn : ¬ (ps.all okP = true ∧ ps.length ≤ 64) := by
            intro h3; have h3 := h3.1; rw [List.all_eq_true] at h3
            have := h3 _ (List.getElem_mem hlt)
            unfold okP at this; rw [h2, Bool.and_false] at this; cases this
          unfold inB at h2
          rw [h2, if_neg (by simp), if_neg hn]
        | true =>
          have h2' := h2
          unfold inB at h2
          rw [h2, if_pos rfl, if_pos (by rw [List.length_map, List.length_take]; omega), wnat (by omega)]
          have := ih (i + 1) k (by omega) (by omega) (by rw [ht, List.all_append, ha]; simp [okP, h1, h2'])
          rw [ht, List.map_append, List.map_cons, List.map_nil] at this
          exact this
  have := key ps.length 0 k (by omega) (by omega) (by simp)
  simp only [List.take_zero, List.map_nil] at this
  exact this

theorem rl_bytes {l : List UInt8} (b : UInt8) (hb : b ∈ l) (h44 : b ≠ 44) (h45 : b ≠ 45) (hd : dgt b = false) : rl l = ([], false) := by
  unfold rl
  rw [if_neg (fun h => by rw [h, List.mem_singleton] at hb; exact h45 hb), if_neg]
  intro h
  obtain ⟨p, hp, hbp⟩ := splitL_mem h44 hb
  have h1 := h.1
  rw [List.all_eq_true] at h1
  have h2 := h1 p hp
  unfold okP at h2
  rw [Bool.and_eq_true] at h2
  rcases num_bytes h2.1 b hbp with h3 | h3
  · exact h45 h3
  · rw [hd] at h3; cases h3

theorem num_nil : num [] = (0, false) := by unfold num; simp
theorem rl_nil : rl [] = ([], false) := by
  unfold rl
  rw [if_neg (by simp), if_neg]
  intro h
  have h1 := h.1
  simp only [splitL, List.all_cons, List.all_nil, okP, num_nil] at h1
  cases h1

theorem rl_bound {l : List UInt8} : ∀ n ∈ (rl l).1, -1000000000000 ≤ n ∧ n ≤ 1000000000000 := by
  unfold rl
  split
  · simp
  · split
    · rename_i h
      intro n hn
      obtain ⟨p, hp, rfl⟩ := List.mem_map.1 hn
      have h1 := h.1
      rw [List.all_eq_true] at h1
      have := h1 p hp
      unfold okP inB at this
      rw [Bool.and_eq_true, decide_eq_true_eq] at this
      exact this.2
    · simp

def upM : Nat → Int → List S44
  | 0, _ => []
  | n + 1, m => ⟨m, m + 1, m + 2⟩ :: upM n (m + 3)
theorem upM_len : ∀ (n : Nat) (m : Int), (upM n m).length = n
  | 0, _ => rfl
  | n + 1, m => by simp [upM, upM_len n]
theorem upM_get : ∀ (n : Nat) (m : Int) (i : Nat) (h : i < (upM n m).length), (upM n m)[i] = ⟨m + 3 * i, m + 3 * i + 1, m + 3 * i + 2⟩
  | 0, m, i, h => by simp [upM] at h
  | n + 1, m, 0, h => by simp [upM]
  | n + 1, m, i + 1, h => by
    have h' : i < (upM n (m + 3)).length := by simpa [upM] using h
    have := upM_get n (m + 3) i h'
    simp only [upM, List.getElem_cons_succ, this]
    rw [show m + 3 + 3 * (i : Int) = m + 3 * ((i + 1 : Nat) : Int) by omega]

theorem markSts_eq (l : List S44) (hl : l.length ≤ 1048576) (m : Int) (h0 : 0 ≤ m) (h1 : m ≤ 100000000) (k : Nat) (hk : l.length < k) : laws_markStepS.f k l m = some (m + 3 * l.length, upM l.length m) := by
  have key : ∀ (n i k : Nat) (s : List S44), i + n = l.length → n < k → s.length = l.length → s.take i = (upM l.length m).take i →
      laws_markStepS.l0 k s (m + 3 * i) (i : Int) = some (m + 3 * l.length, upM l.length m) := by
    intro n
    induction n with
    | zero =>
      intro i k s hi hk hs ht
      obtain ⟨k, rfl⟩ : ∃ m, k = m + 1 := ⟨k - 1, by omega⟩
      obtain rfl : i = l.length := by omega
      simp only [laws_markStepS.l0]
      have e : s = upM l.length m := by
        rw [List.take_of_length_le (by omega), List.take_of_length_le (by rw [upM_len]; omega)] at ht; exact ht
      rw [if_neg (by omega), e]
    | succ n ih =>
      intro i k s hi hk hs ht
      obtain ⟨k, rfl⟩ : ∃ m, k = m + 1 := ⟨k - 1, by omega⟩
      have hlt : i < s.length := by omega
      simp only [laws_markStepS.l0, Option.bind_some]
      rw [if_pos (by omega), if_pos (by omega), w64 (x := m + 3 * (i : Int) + 1) (by omega) (by omega), w64 (x := m + 3 * (i : Int) + 1 + 1) (by omega) (by omega), w64 (x := m + 3 * (i : Int) + 1 + 1 + 1) (by omega) (by omega), wnat (by omega), show ((i : Int)).toNat = i by omega]
      have e1 : ∀ v : S44, rd_T44 (s.set i v) (i : Int) = v := by
        intro v
        rw [rd44 _ i (by rw [List.length_set]; omega), List.getElem_set_self]
      simp only [e1, List.set_set]
      have hh := ih (i + 1) k (s.set i (⟨m + 3 * (i : Int), m + 3 * (i : Int) + 1, m + 3 * (i : Int) + 1 + 1⟩ : S44)) (by omega) (by omega) (by rw [List.length_set]; exact hs) (by
        have hlt2 : i < (upM l.length m).length := by rw [upM_len]; omega
        rw [List.take_succ_eq_append_getElem (by rw [List.length_set]; omega), List.take_succ_eq_append_getElem hlt2, List.take_set_of_le (by omega), ht, upM_get _ _ _ hlt2, List.getElem_set_self, show m + 3 * (i : Int) + 1 + 1 = m + 3 * (i : Int) + 2 by omega])
      rw [show m + 3 * ((i + 1 : Nat) : Int) = m + 3 * (i : Int) + 1 + 1 + 1 by omega] at hh
      exact hh
  have := key l.length 0 k l (by omega) hk rfl (by simp)
  unfold laws_markStepS.f
  simpa using this

theorem heldSts_eq (n : Nat) (hn : n ≤ 1048576) (m : Int) (h0 : 0 ≤ m) (h1 : m ≤ 100000000) (k : Nat) (hk : n < k) : laws_heldStepS.f k (upM n m) m = some (m + 3 * n) := by
  have key : ∀ (d i k : Nat), i + d = n → d < k → laws_heldStepS.l0 k (upM n m) (m + 3 * i) (i : Int) = some (m + 3 * n) := by
    intro d
    induction d with
    | zero =>
      intro i k hi hk
      obtain ⟨k, rfl⟩ : ∃ m, k = m + 1 := ⟨k - 1, by omega⟩
      obtain rfl : i = n := by omega
      simp only [laws_heldStepS.l0]
      rw [if_neg (by rw [upM_len]; omega)]
    | succ d ih =>
      intro i k hi hk
      obtain ⟨k, rfl⟩ : ∃ m, k = m + 1 := ⟨k - 1, by omega⟩
      have hlt : i < (upM n m).length := by rw [upM_len]; omega
      simp only [laws_heldStepS.l0]
      rw [if_pos (by omega), if_pos (by omega), rd44 _ i hlt, upM_get _ _ _ hlt]
      simp only [if_true]
      rw [w64 (x := m + 3 * (i : Int) + 1) (by omega) (by omega), if_pos rfl, w64 (x := m + 3 * (i : Int) + 1 + 1) (by omega) (by omega), if_pos (by omega), w64 (x := m + 3 * (i : Int) + 1 + 1 + 1) (by omega) (by omega), wnat (by omega)]
      have hh := ih (i + 1) k (by omega) (by omega)
      rw [show m + 3 * ((i + 1 : Nat) : Int) = m + 3 * (i : Int) + 1 + 1 + 1 by omega] at hh
      exact hh
  have := key n 0 k (by omega) hk
  unfold laws_heldStepS.f
  simpa using this

theorem num_itoa {l : List UInt8} (h : (num l).2 = true) : Lib.itoa (num l).1 = l := by
  unfold num at h ⊢
  by_cases hn : l.head? = some 45
  · obtain ⟨D, rfl⟩ : ∃ D, l = 45 :: D := by
      cases l with
      | nil => simp at hn
      | cons b r => simp at hn; exact ⟨r, by rw [hn]⟩
    simp only [hn, if_true, List.drop_succ_cons, List.drop_zero] at h ⊢
    split at h
    · rename_i hc
      rw [if_pos hc]
      obtain ⟨c1, c2, c3, c4⟩ := hc
      have h48 : D.head? ≠ some 48 := fun h2 => c3 ⟨h2, by simp only [List.length_cons]; omega⟩
      obtain ⟨_, e2, e3⟩ := decDigits_valf (D.length - 1) D (by omega) c4 (fun h => absurd h h48)
      have hv := e3 h48
      show Lib.itoa (-valf D 0) = 45 :: D
      unfold Lib.itoa
      rw [if_pos (by omega), show (-valf D 0).natAbs = (valf D 0).toNat by omega, e2]
    · cases h
  · simp only [hn, if_false] at h ⊢
    split at h
    · rename_i hc
      rw [if_pos hc]
      obtain ⟨c1, c2, c3, c4⟩ := hc
      obtain ⟨e1, e2, _⟩ := decDigits_valf (l.length - 1) l (by omega) c4 (fun h2 => by
        have : ¬ 1 < l.length := fun h3 => c3 ⟨h2, h3⟩
        omega)
      show Lib.itoa (valf l 0) = l
      unfold Lib.itoa
      rw [if_neg (by omega)]
      exact e2
    · cases h

/-- a text out of its parts -/
def unsp (c : UInt8) : List (List UInt8) → List UInt8
  | [] => []
  | x :: r => x ++ (r.map fun y => c :: y).flatten
theorem unsp_split (c : UInt8) : ∀ l : List UInt8, unsp c (splitL c l) = l
  | [] => rfl
  | b :: l => by
    have ih := unsp_split c l
    by_cases h : b = c
    · rw [splitL, if_pos h]
      have hne := splitL_ne c l
      cases hs : splitL c l with
      | nil => exact absurd hs hne
      | cons x r =>
        rw [hs] at ih
        show [] ++ ((x :: r).map fun y => c :: y).flatten = _
        rw [List.map_cons, List.flatten_cons, List.nil_append, List.cons_append]
        rw [show x ++ (r.map fun y => c :: y).flatten = l from ih, h]
    · rw [splitL_cons_ne h]
      have hne := splitL_ne c l
      cases hs : splitL c l with
      | nil => exact absurd hs hne
      | cons x r =>
        rw [hs] at ih
        show ([b] ++ x) ++ (r.map fun y => c :: y).flatten = _
        rw [List.append_assoc, show x ++ (r.map fun y => c :: y).flatten = l from ih]; rfl

theorem split_inj {c : UInt8} {a b : List UInt8} (h : splitL c a = splitL c b) : a = b := by
  rw [← unsp_split c a, ← unsp_split c b, h]

theorem split_no (c : UInt8) : ∀ (l : List UInt8), ∀ p ∈ splitL c l, c ∉ p
  | [], p, h => by simp [splitL] at h; subst h; simp
  | b :: l, p, h => by
    by_cases hb : b = c
    · rw [splitL, if_pos hb] at h
      rcases List.mem_cons.1 h with rfl | h
      · simp
      · exact split_no c l p h
    · rw [splitL_cons_ne hb] at h
      have hne := splitL_ne c l
      cases hs : splitL c l with
      | nil => exact absurd hs hne
      | cons x r =>
        rw [hs] at h
        have hx := split_no c l x (by rw [hs]; exact List.mem_cons_self)
        rcases List.mem_cons.1 h with rfl | h
        · simp [hx, Ne.symm hb]
        · exact split_no c l p (by rw [hs]; exact List.mem_cons_of_mem _ h)

theorem rl_parts {l : List UInt8} (h : (rl l).2 = true) (hne : (rl l).1 ≠ []) : (rl l).1.map Lib.itoa = splitL 44 l ∧ (rl l).1.length = (splitL 44 l).length := by
  unfold rl at h hne ⊢
  split
  · rename_i h1; rw [if_pos h1] at hne; exact absurd rfl hne
  · rename_i h1
    rw [if_neg h1] at h hne
    split at h
    · rename_i h2
      rw [if_pos h2]
      refine ⟨?_, by simp⟩
      have hp : ∀ p ∈ splitL 44 l, Lib.itoa (num p).1 = p := fun p hp => by
        have := List.all_eq_true.1 h2.1 p hp
        unfold okP at this
        rw [Bool.and_eq_true] at this
        exact num_itoa this.1
      simp only [List.map_map]
      exact (List.map_congr_left (g := id) (fun p h => hp p h)).trans (List.map_id _)
    · cases h

theorem rl_one {l : List UInt8} {a : Int} (h : rl l = ([a], true)) : l = Lib.itoa a := by
  have := (rl_parts (l := l) (by rw [h]) (by rw [h]; simp)).1
  rw [h] at this
  rw [← unsp_split 44 l, ← this]
  simp [unsp]
theorem rl_two {l : List UInt8} {a b : Int} (h : rl l = ([a, b], true)) : l = Lib.itoa a ++ 44 :: Lib.itoa b := by
  have := (rl_parts (l := l) (by rw [h]) (by rw [h]; simp)).1
  rw [h] at this
  rw [← unsp_split 44 l, ← this]
  simp [unsp]
theorem rl_no58 {l : List UInt8} (h : (rl l).2 = true) : (58 : UInt8) ∉ l ∧ (32 : UInt8) ∉ l := by
  constructor
  · intro hb
    rw [rl_bytes 58 hb (by decide) (by decide) (by decide)] at h; cases h
  · intro hb
    rw [rl_bytes 32 hb (by decide) (by decide) (by decide)] at h; cases h

def sandB : List UInt8 := [115, 97, 110, 100]
def dyeB : List UInt8 := [100, 121, 101]
def bleachB : List UInt8 := [98, 108, 101, 97, 99, 104]

/-- the step with a text, as the reference reads it -/
def sS (p : List UInt8) : Option S44 :=
  match splitL 58 p with
  | [a, r] => if a = sandB ∧ (rl r).2 = true ∧ (rl r).1.length = 2 then some ⟨1, rd (rl r).1 0, rd (rl r).1 1⟩
    else if a = dyeB ∧ (rl r).2 = true ∧ (rl r).1.length = 2 then some ⟨2, rd (rl r).1 0, rd (rl r).1 1⟩
    else if a = bleachB ∧ (rl r).2 = true ∧ (rl r).1.length = 1 then some ⟨3, rd (rl r).1 0, 0⟩ else none
  | _ => none
/-- .. and as the program reads it -/
def iS (p : List UInt8) : Option S44 :=
  let c := Lib.cut p [58]
  if (rl c.2.1).2 = true ∧ 1 ≤ (rl c.2.1).1.length ∧ (rl c.2.1).1.length ≤ 2 then
    some ⟨if c.1 = sandB then 1 else if c.1 = dyeB then 2 else 3, rd (rl c.2.1).1 0, if (rl c.2.1).1.length = 2 then rd (rl c.2.1).1 1 else 0⟩
  else none
def body (x : S44) : List UInt8 := (stT x).drop 1

theorem cut58_none {l : List UInt8} (h : (58 : UInt8) ∉ l) : Lib.cut l [58] = (l, [], false) := by
  rcases index_one 58 l with ⟨_, h2⟩ | ⟨a, r, h1, _, _⟩
  · unfold Lib.cut; rw [h2]; rfl
  · exact absurd (by rw [h1]; simp) h
theorem cut58_app (a r : List UInt8) (h : (58 : UInt8) ∉ a) : Lib.cut (a ++ 58 :: r) [58] = (a, r, true) := by
  rcases index_one 58 (a ++ 58 :: r) with ⟨h1, _⟩ | ⟨b, s, h1, h2, h3⟩
  · exact absurd (by simp) h1
  · have e : b = a ∧ s = r := by
      have hs := congrArg (splitL 58) h1
      rw [splitL_app 58 r a h, splitL_app 58 s b h2, List.cons.injEq] at hs
      have e1 := hs.1.symm
      subst e1
      have := List.append_cancel_left h1
      exact ⟨rfl, (List.cons.inj this).2.symm⟩
    obtain ⟨rfl, rfl⟩ := e
    unfold Lib.cut
    rw [h3, if_pos (by omega)]
    simp only [Int.toNat_natCast, List.length_singleton]
    rw [List.take_left' rfl, show List.drop (b.length + 1) (b ++ 58 :: s) = s by rw [← List.drop_drop, List.drop_left' rfl]; rfl]

set_option linter.unnecessarySimpa false
theorem sS_iS {p : List UInt8} {x : S44} (h : sS p = some x) : iS p = some x ∧ body x = p := by
  unfold sS at h
  cases hs : splitL 58 p with
  | nil => rw [hs] at h; cases h
  | cons a t =>
    cases t with
    | nil => rw [hs] at h; cases h
    | cons r t2 =>
      cases t2 with
      | cons _ _ => rw [hs] at h; cases h
      | nil =>
        rw [hs] at h
        have hp : p = a ++ 58 :: r := by rw [← unsp_split 58 p, hs]; simp [unsp]
        have ha : (58 : UInt8) ∉ a := split_no 58 p a (by rw [hs]; simp)
        have hc : Lib.cut p [58] = (a, r, true) := by rw [hp]; exact cut58_app a r ha
        unfold iS
        simp only [hc]
        dsimp only at h
        generalize hq : rl r = q at h ⊢
        obtain ⟨xs, ok⟩ := q
        dsimp only at h ⊢
        by_cases h1 : a = sandB ∧ ok = true ∧ xs.length = 2
        · rw [if_pos h1] at h
          obtain rfl := Option.some.inj h
          obtain ⟨rfl, rfl, h2⟩ := h1
          match xs, h2 with
          | [u, v], _ =>
            refine ⟨by simp, ?_⟩
            rw [hp, rl_two hq]
            simp [body, stT, sandB, rd]
        · rw [if_neg h1] at h
          by_cases h1' : a = dyeB ∧ ok = true ∧ xs.length = 2
          · rw [if_pos h1'] at h
            obtain rfl := Option.some.inj h
            obtain ⟨rfl, rfl, h2⟩ := h1'
            match xs, h2 with
            | [u, v], _ =>
              refine ⟨by simp [show ¬ dyeB = sandB by decide], ?_⟩
              rw [hp, rl_two hq]
              simp [body, stT, dyeB, rd]
          · rw [if_neg h1'] at h
            by_cases h1'' : a = bleachB ∧ ok = true ∧ xs.length = 1
            · rw [if_pos h1''] at h
              obtain rfl := Option.some.inj h
              obtain ⟨rfl, rfl, h2⟩ := h1''
              match xs, h2 with
              | [u], _ =>
                refine ⟨by simp [show ¬ bleachB = sandB by decide, show ¬ bleachB = dyeB by decide], ?_⟩
                rw [hp, rl_one hq]
                simp [body, stT, bleachB, rd]
            · rw [if_neg h1''] at h; cases h

theorem two_of {xs : List Int} (h1 : 1 ≤ xs.length) (h2 : xs.length ≤ 2) : (∃ u, xs = [u]) ∨ ∃ u v, xs = [u, v] := by
  match xs, h1, h2 with
  | [u], _, _ => exact .inl ⟨u, rfl⟩
  | [u, v], _, _ => exact .inr ⟨u, v, rfl⟩

theorem self_app {a b : List UInt8} (h : a ++ 44 :: b = a) : False := by
  have := congrArg List.length h
  simp at this

theorem iS_sS {p : List UInt8} {x : S44} (h : iS p = some x) (hb : body x = p) : sS p = some x := by
  unfold iS at h
  by_cases h58 : (58 : UInt8) ∈ p
  case neg =>
    simp only [cut58_none h58, rl_nil] at h
    simp at h
  rcases index_one 58 p with ⟨h1, _⟩ | ⟨a, r, hp, ha, _⟩
  · exact absurd h58 h1
  have hc : Lib.cut p [58] = (a, r, true) := by rw [hp]; exact cut58_app a r ha
  simp only [hc] at h
  generalize hq : rl r = q at h
  obtain ⟨xs, ok⟩ := q
  dsimp only at h
  by_cases hcond : ok = true ∧ 1 ≤ xs.length ∧ xs.length ≤ 2
  case neg => rw [if_neg hcond] at h; cases h
  rw [if_pos hcond] at h
  obtain rfl := Option.some.inj h
  obtain ⟨rfl, l1, l2⟩ := hcond
  have hr58 := (rl_no58 (l := r) (by rw [hq])).1
  have hs : splitL 58 p = [a, r] := by rw [hp, splitL_app 58 r a ha, splitL_none 58 r hr58]
  unfold sS
  rw [hs]
  dsimp only
  rw [hq]
  dsimp only
  rw [hp] at hb
  rcases two_of l1 l2 with ⟨u, rfl⟩ | ⟨u, v, rfl⟩
  · have hr := rl_one hq
    subst hr
    by_cases e1 : a = sandB
    · subst e1
      exfalso
      have : Lib.itoa u ++ 44 :: Lib.itoa 0 = Lib.itoa u := by simpa [body, stT, sandB, rd] using hb
      exact self_app this
    · by_cases e2 : a = dyeB
      · subst e2
        exfalso
        have : Lib.itoa u ++ 44 :: Lib.itoa 0 = Lib.itoa u := by simpa [body, stT, dyeB, sandB, rd] using hb
        exact self_app this
      · have h3 : bleachB ++ 58 :: Lib.itoa u = a ++ 58 :: Lib.itoa u := by simpa [body, stT, bleachB, rd, e1, e2] using hb
        have e3 : bleachB = a := List.append_cancel_right h3
        subst e3
        simp [e1, e2]
  · have hr := rl_two hq
    subst hr
    by_cases e1 : a = sandB
    · simp [e1]
    · by_cases e2 : a = dyeB
      · simp [e2, show ¬ dyeB = sandB by decide]
      · exfalso
        have h3 : bleachB ++ 58 :: Lib.itoa u = a ++ 58 :: (Lib.itoa u ++ 44 :: Lib.itoa v) := by simpa [body, stT, bleachB, rd, e1, e2] using hb
        have h4 := congrArg (splitL 58) h3
        rw [splitL_app 58 _ bleachB (by decide), splitL_app 58 _ a ha, List.cons.injEq] at h4
        obtain ⟨rfl, _⟩ := h4
        have h5 := List.append_cancel_left h3
        rw [List.cons.injEq] at h5
        exact self_app h5.2.symm

/-- the steps with texts -/
def coll (f : List UInt8 → Option S44) : List (List UInt8) → List S44 → Option (List S44)
  | [], acc => some acc
  | p :: ps, acc => match f p with
    | some x => coll f ps (acc ++ [x])
    | none => none

theorem coll_some {f : List UInt8 → Option S44} : ∀ {ps : List (List UInt8)} {acc st : List S44}, coll f ps acc = some st → ∃ t, st = acc ++ t ∧ ps.map f = t.map some
  | [], acc, st, h => ⟨[], by simp [coll] at h; simp [h], rfl⟩
  | p :: ps, acc, st, h => by
    rw [coll] at h
    cases hf : f p with
    | none => rw [hf] at h; cases h
    | some x =>
      rw [hf] at h
      obtain ⟨t, h1, h2⟩ := coll_some h
      exact ⟨x :: t, by rw [h1]; simp, by rw [List.map_cons, List.map_cons, hf, h2]⟩
theorem coll_of {f : List UInt8 → Option S44} : ∀ {ps : List (List UInt8)} {acc t : List S44}, ps.map f = t.map some → coll f ps acc = some (acc ++ t)
  | [], acc, [], _ => by simp [coll]
  | [], acc, _ :: _, h => by simp at h
  | _ :: _, acc, [], h => by simp at h
  | p :: ps, acc, x :: t, h => by
    rw [List.map_cons, List.map_cons, List.cons.injEq] at h
    rw [coll, h.1]
    show coll f ps (acc ++ [x]) = _
    rw [coll_of h.2]; simp

theorem map_sI : ∀ {ps : List (List UInt8)} {t : List S44}, ps.map sS = t.map some → ps.map iS = t.map some ∧ t.map body = ps
  | [], [], _ => ⟨rfl, rfl⟩
  | [], _ :: _, h => by simp at h
  | _ :: _, [], h => by simp at h
  | p :: ps, x :: t, h => by
    rw [List.map_cons, List.map_cons, List.cons.injEq] at h
    obtain ⟨h1, h2⟩ := sS_iS h.1
    obtain ⟨h3, h4⟩ := map_sI h.2
    exact ⟨by rw [List.map_cons, List.map_cons, h1, h3], by rw [List.map_cons, h2, h4]⟩
theorem map_iS : ∀ {ps : List (List UInt8)} {t : List S44}, ps.map iS = t.map some → t.map body = ps → ps.map sS = t.map some
  | [], [], _, _ => rfl
  | [], _ :: _, h, _ => by simp at h
  | _ :: _, [], h, _ => by simp at h
  | p :: ps, x :: t, h, hb => by
    rw [List.map_cons, List.map_cons, List.cons.injEq] at h
    rw [List.map_cons, List.cons.injEq] at hb
    rw [List.map_cons, List.map_cons, iS_sS h.1 hb.1, map_iS h.2 hb.2]

theorem stT_body (x : S44) : stT x = 32 :: body x := by
  unfold body stT
  split
  · rfl
  · split <;> rfl

theorem dec_no32 : ∀ u : Nat, (32 : UInt8) ∉ Lib.decDigits u := by
  intro u
  induction u using Nat.strongRecOn with
  | ind u ih =>
    have hd : ∀ d, d < 10 → (32 : UInt8) ∉ [UInt8.ofNat (48 + d)] := by
      intro d hd h
      rw [List.mem_singleton] at h
      have := congrArg UInt8.toNat h
      rw [UInt8.toNat_ofNat', show (32 : UInt8).toNat = 32 from rfl] at this
      omega
    by_cases h : u < 10
    · rw [Lib.decDigits_one h]; exact hd u h
    · rw [show Lib.decDigits u = Lib.decDigits (u / 10) ++ [UInt8.ofNat (48 + u % 10)] by rw [Lib.decDigits, dif_neg h], List.mem_append]
      rintro (h2 | h2)
      · exact ih (u / 10) (by omega) h2
      · exact hd (u % 10) (by omega) h2
theorem itoa_no32 (n : Int) : (32 : UInt8) ∉ Lib.itoa n := by
  unfold Lib.itoa
  split
  · rw [List.mem_cons]
    rintro (h | h)
    · exact absurd h (by decide)
    · exact dec_no32 _ h
  · exact dec_no32 _
theorem body_no (x : S44) : (32 : UInt8) ∉ body x := by
  have h1 := itoa_no32 x.f1
  have h2 := itoa_no32 x.f2
  unfold body stT
  split
  · simp [h1, h2]
  · split <;> simp [h1, h2]

def finS (p0 : List UInt8) : Option (List S44) → ByteArray × List S44 × Bool
  | some st => if okR (bs p0) st = true then (bs p0, st, true) else (⟨#[]⟩, [], false)
  | none => (⟨#[]⟩, [], false)
def finI (l p0 : List UInt8) : Option (List S44) → ByteArray × List S44 × Bool
  | some st => if l = [] then (⟨#[]⟩, [], false) else if (if okR (bs p0) st = true then recT p0 st else []) = l then (bs p0, st, true) else (⟨#[]⟩, [], false)
  | none => (⟨#[]⟩, [], false)

theorem flat_body (ps : List (List UInt8)) (t : List S44) (h : t.map body = ps) : (t.map stT).flatten = (ps.map fun y => 32 :: y).flatten := by
  subst h
  rw [List.map_map]
  congr 1
  exact List.map_congr_left (fun x _ => stT_body x)

theorem fin_eq {l p0 : List UInt8} {ps : List (List UInt8)} (hl : splitL 32 l = p0 :: ps) (hno : okR (bs []) [] = false) : finS p0 (coll sS ps []) = finI l p0 (coll iS ps []) := by
  have hl2 : l = p0 ++ (ps.map fun y => 32 :: y).flatten := by rw [← unsp_split 32 l, hl]; rfl
  have h32 : (32 : UInt8) ∉ p0 := split_no 32 l p0 (by rw [hl]; exact List.mem_cons_self)
  cases hS : coll sS ps [] with
  | some st =>
    obtain ⟨t, e1, e2⟩ := coll_some hS
    rw [List.nil_append] at e1
    subst e1
    obtain ⟨h1, h2⟩ := map_sI e2
    rw [coll_of h1, List.nil_append]
    unfold finS finI
    dsimp only
    have hrec : recT p0 st = l := by rw [hl2]; unfold recT; rw [flat_body ps st h2]
    by_cases hk : okR (bs p0) st = true
    · rw [if_pos hk, if_pos hk, if_pos hrec]
      by_cases h0 : l = []
      · exfalso
        rw [h0] at hl
        simp only [splitL, List.cons.injEq] at hl
        obtain ⟨rfl, rfl⟩ := hl
        have : st = [] := by simpa using h2
        subst this
        rw [hno] at hk; cases hk
      · rw [if_neg h0]
    · rw [if_neg hk, if_neg hk]
      by_cases h0 : l = []
      · rw [if_pos h0]
      · rw [if_neg h0, if_neg (fun h => h0 h.symm)]
  | none =>
    show ((⟨#[]⟩ : ByteArray), ([] : List S44), false) = _
    cases hI : coll iS ps [] with
    | none => rfl
    | some st =>
      obtain ⟨t, e1, e2⟩ := coll_some hI
      rw [List.nil_append] at e1
      subst e1
      unfold finI
      dsimp only
      by_cases h0 : l = []
      · rw [if_pos h0]
      rw [if_neg h0]
      by_cases hk : okR (bs p0) st = true
      · rw [if_pos hk, if_neg]
        intro hrec
        have hsp : ∀ (xs : List S44) (a : List UInt8), (32 : UInt8) ∉ a → (∀ x ∈ xs, (32 : UInt8) ∉ body x) → splitL 32 (a ++ (xs.map stT).flatten) = a :: xs.map body := by
          intro xs
          induction xs with
          | nil => intro a ha _; simp [splitL_none 32 a ha]
          | cons x xs ih =>
            intro a ha hx
            rw [List.map_cons, List.flatten_cons, stT_body, List.cons_append, splitL_app 32 _ a ha, ih (body x) (hx x List.mem_cons_self) (fun y hy => hx y (List.mem_cons_of_mem _ hy)), List.map_cons]
        have hbody : ∀ x ∈ st, (32 : UInt8) ∉ body x := by
          intro x hx
          obtain ⟨i, hi, rfl⟩ := List.mem_iff_getElem.1 hx
          exact body_no _
        have := hsp st p0 h32 hbody
        rw [show p0 ++ (st.map stT).flatten = l from hrec, hl, List.cons.injEq] at this
        have h3 := map_iS e2 this.2.symm
        rw [coll_of h3] at hS; cases hS
      · rw [if_neg hk, if_neg (fun h => h0 h.symm)]

theorem implRec_eq (s : List UInt8) (l : List S44) (hs : s.length ≤ 1048576) (hl : l.length ≤ 1048576) (k : Nat) (hk : 1048700 < k) :
    impl_RecipeText.f k (bs s) l [()] = some (bs (if okR (bs s) l = true then recT s l else [])) := by
  obtain ⟨r1, r2⟩ := recipe_eq (bs s) l hl k (by omega)
  unfold impl_RecipeText.f
  rw [r2]
  simp only [Option.bind_some]
  cases h : okR (bs s) l with
  | false => simp; rfl
  | true =>
    have h8 := okR_len h
    have hv : ∀ x ∈ l, vs x = true := by
      intro x hx
      obtain ⟨i, hi, rfl⟩ := List.mem_iff_getElem.1 hx
      exact okR_mem h i hi
    simp only [if_true]
    exact implRT s l hs h8 hv k (by omega)

def sS4 : Option S44 → Int × Int × Int × Bool
  | some x => (x.f0, x.f1, x.f2, true)
  | none => (0, 0, 0, false)

theorem toListS (a b : List UInt8) : ((bs a).toList = b) = (a = b) := by rw [bs_toList]

theorem specStepR (p : List UInt8) (hp : p.length ≤ 1048576) (k : Nat) (hk : 1100010 < k) : spec_l21ReadStep.f k (bs p) = some (sS4 (sS p)) := by
  obtain ⟨k, rfl⟩ : ∃ m, k = m + 2 := ⟨k - 2, by omega⟩
  unfold spec_l21ReadStep.f sS
  rw [show (58 : Int) = ((58 : UInt8).toNat : Int) from rfl, specSplit p 58 hp (k + 2) (by omega)]
  simp only [Option.bind_some, List.length_map]
  cases hs : splitL 58 p with
  | nil => rfl
  | cons a t =>
    cases t with
    | nil => rfl
    | cons r t2 =>
      cases t2 with
      | cons u v =>
        rw [if_neg (by simp only [List.length_cons]; omega)]
        rfl
      | nil =>
        have hr : r.length ≤ 1048576 := by have := (splitL_part (show r ∈ splitL 58 p by rw [hs]; simp)).1; omega
        rw [if_pos (by rfl), if_pos (by simp), show rdOf ByteArray.empty (List.map bs [a, r]) 1 = bs r from rfl, specRL r hr (k + 2) (by omega)]
        simp only [Option.bind_some, show rdOf ByteArray.empty (List.map bs [a, r]) 0 = bs a from rfl, toListS]
        generalize rl r = q
        obtain ⟨xs, ok⟩ := q
        rw [if_pos (by simp)]
        have j1 : ∀ b : Bool, (b = true → ok = true ∧ xs.length = 2) → (a = dyeB → ok = true → xs.length = 2 → b = true) → a ≠ dyeB ∨ True →
            spec_l21ReadStep.j1 (k) (List.map bs [a, r]) xs ok b = spec_l21ReadStep.j1 (k) (List.map bs [a, r]) xs ok b := fun _ _ _ _ => rfl
        clear j1
        simp only [spec_l21ReadStep.j0, spec_l21ReadStep.j1, show rdOf ByteArray.empty (List.map bs [a, r]) 0 = bs a from rfl, toListS]
        unfold sandB dyeB bleachB
        cases ok with
        | false =>
          by_cases h1 : a = [115, 97, 110, 100]
          · subst h1; simp [sS4]
          · by_cases h2 : a = [100, 121, 101]
            · subst h2; simp [sS4]
            · by_cases h3 : a = [98, 108, 101, 97, 99, 104]
              · subst h3; simp [sS4]
              · simp [h1, h2, h3, sS4]
        | true =>
          by_cases h1 : a = [115, 97, 110, 100]
          · subst h1
            by_cases h4 : xs.length = 2
            · have : (xs.length : Int) = 2 := by omega
              simp [h4, this, sS4]
            · have : ¬ (xs.length : Int) = 2 := by omega
              simp [h4, this, sS4]
          · by_cases h2 : a = [100, 121, 101]
            · subst h2
              by_cases h4 : xs.length = 2
              · have : (xs.length : Int) = 2 := by omega
                simp [h4, this, sS4]
              · have : ¬ (xs.length : Int) = 2 := by omega
                simp [h4, this, sS4]
            · by_cases h3 : a = [98, 108, 101, 97, 99, 104]
              · subst h3
                by_cases h4 : xs.length = 1
                · have : (xs.length : Int) = 1 := by omega
                  simp [h4, this, sS4]
                · have : ¬ (xs.length : Int) = 1 := by omega
                  simp [h4, this, sS4]
              · simp [h1, h2, h3, sS4]

theorem specRR (l : List UInt8) (hl : l.length ≤ 1048576) (k : Nat) (hk : 3300000 < k) : ∃ p0 ps, splitL 32 l = p0 :: ps ∧ ps.length ≤ 1048576 ∧ (∀ p ∈ p0 :: ps, p.length ≤ 1048576) ∧ spec_ReadRecipe.f k (bs l) = some (finS p0 (coll sS ps [])) := by
  have hlen := splitL_len 32 l
  have hne := splitL_ne 32 l
  have hp : ∀ p ∈ splitL 32 l, p.length ≤ 1048576 := fun p hp => by have := (splitL_part hp).1; omega
  cases hs : splitL 32 l with
  | nil => exact absurd hs hne
  | cons p0 ps =>
    rw [hs] at hlen hp
    simp only [List.length_cons] at hlen
    refine ⟨p0, ps, rfl, by omega, hp, ?_⟩
    unfold spec_ReadRecipe.f
    rw [show (32 : Int) = ((32 : UInt8).toNat : Int) from rfl, specSplit l 32 hl k (by omega), hs]
    simp only [Option.bind_some]
    rw [if_pos (by simp), show rdOf ByteArray.empty (List.map bs (p0 :: ps)) 0 = bs p0 from rfl]
    have key : ∀ (d i k : Nat) (acc : List S44), i + d = ps.length → 1150000 + d < k → acc.length = i →
        spec_ReadRecipe.l0 k (List.map bs (p0 :: ps)) ((i + 1 : Nat) : Int) (bs p0) acc = some (finS p0 (coll sS (ps.drop i) acc)) := by
      intro d
      induction d with
      | zero =>
        intro i k acc hi hk ha
        obtain ⟨k, rfl⟩ : ∃ m, k = m + 1 := ⟨k - 1, by omega⟩
        simp only [spec_ReadRecipe.l0]
        rw [List.length_map, List.length_cons, if_neg (by omega), List.drop_of_length_le (by omega), (recipe_eq (bs p0) acc (by omega) k (by omega)).1]
        simp only [Option.bind_some, coll, finS]
        split <;> rfl
      | succ d ih =>
        intro i k acc hi hk ha
        obtain ⟨k, rfl⟩ : ∃ m, k = m + 1 := ⟨k - 1, by omega⟩
        have hlt : i < ps.length := by omega
        have hr : rdOf ByteArray.empty (List.map bs (p0 :: ps)) ((i + 1 : Nat) : Int) = bs ps[i] := by
          rw [rdS (p0 :: ps) (i + 1) (by simp; omega)]; rfl
        simp only [spec_ReadRecipe.l0]
        rw [List.length_map, List.length_cons, if_pos (by omega), if_pos (by omega), hr, specStepR ps[i] (hp _ (List.mem_cons_of_mem _ (List.getElem_mem hlt))) k (by omega), List.drop_eq_getElem_cons hlt, wnat (by omega)]
        simp only [Option.bind_some, coll]
        cases sS ps[i] with
        | none => simp [sS4, finS]
        | some x =>
          simp only [sS4, if_true]
          rw [if_pos (by omega)]
          exact ih (i + 1) k (acc ++ [x]) (by omega) (by omega) (by simp; omega)
    have := key ps.length 0 k [] (by omega) (by omega) rfl
    exact this

theorem implRR (l : List UInt8) (hl : l.length ≤ 1048576) (p0 : List UInt8) (ps : List (List UInt8)) (hs : splitL 32 l = p0 :: ps) (hps : ps.length ≤ 1048576) (hp : ∀ p ∈ p0 :: ps, p.length ≤ 1048576) (k : Nat) (hk : 4400000 < k) : impl_ReadRecipe.f k (bs l) [()] = some (finI l p0 (coll iS ps [])) := by
  have hp0 := hp p0 List.mem_cons_self
  unfold impl_ReadRecipe.f
  rw [show (⟨#[32]⟩ : ByteArray) = bs [32] from rfl, implSplit l 32 hl, hs]
  simp only [Option.bind_some, List.length_map]
  rw [if_pos (by simp only [List.length_cons]; omega), if_pos (by simp only [List.length_cons]; omega)]
  rw [show List.drop 1 (List.map bs (p0 :: ps)) = ps.map bs from rfl, show rdOf ByteArray.empty (List.map bs (p0 :: ps)) 0 = bs p0 from rfl, List.length_map]
  have key : ∀ (d i k : Nat) (acc : List S44), i + d = ps.length → 1150000 + 2 * d < k → acc.length = i →
      impl_ReadRecipe.l0 k (bs l) (List.map bs (p0 :: ps)) (ps.map bs) (ps.length : Int) (i : Int) [()] (bs p0) acc = some (finI l p0 (coll iS (ps.drop i) acc)) := by
    intro d
    induction d with
    | zero =>
      intro i k acc hi hk ha
      obtain ⟨k, rfl⟩ : ∃ m, k = m + 1 := ⟨k - 1, by omega⟩
      simp only [impl_ReadRecipe.l0]
      rw [if_neg (by omega), List.drop_of_length_le (by omega), implRec_eq p0 acc hp0 (by omega) k (by omega)]
      simp only [Option.bind_some, coll, finI, toListS, bs_toList]
      by_cases h0 : l = []
      · rw [if_pos h0, if_pos h0]
      · rw [if_neg h0, if_neg h0]
        split <;> split <;> rfl
    | succ d ih =>
      intro i k acc hi hk ha
      obtain ⟨k, rfl⟩ : ∃ m, k = m + 2 := ⟨k - 2, by omega⟩
      have hlt : i < ps.length := by omega
      have hpl := hp _ (List.mem_cons_of_mem _ (List.getElem_mem hlt))
      have hstep : ∀ x, iS ps[i] = some x → impl_ReadRecipe.l0 k (bs l) (List.map bs (p0 :: ps)) (ps.map bs) (ps.length : Int) ((i + 1 : Nat) : Int) [()] (bs p0) (acc ++ [x]) = some (finI l p0 (coll iS (ps.drop (i + 1)) (acc ++ [x]))) := fun x _ => ih (i + 1) k (acc ++ [x]) (by omega) (by omega) (by simp; omega)
      have hcl : (Lib.cut ps[i] [58]).2.1.length ≤ 1048576 := by
        rcases index_one 58 ps[i] with ⟨h1, _⟩ | ⟨a, r, h1, h2, _⟩
        · rw [cut58_none h1]; simp
        · rw [h1, cut58_app a r h2]
          have := congrArg List.length h1
          simp only [List.length_append, List.length_cons] at this
          show r.length ≤ 1048576
          omega
      simp only [impl_ReadRecipe.l0]
      rw [if_pos (by omega), if_pos (by omega), List.length_map, if_pos (by omega), rdS ps i hlt, List.drop_eq_getElem_cons hlt]
      unfold Go.Proofs.YteijbdngbmciaaaDoorX.strings_Cut.f
      rw [if_pos ⟨rfl, by rw [bs_size]; omega⟩, show (⟨#[58]⟩ : ByteArray) = bs [58] from rfl, bs_list, bs_list]
      simp only [Option.bind_some]
      rw [show (⟨(Lib.cut ps[i] [58]).1.toArray⟩ : ByteArray) = bs (Lib.cut ps[i] [58]).1 from rfl, show (⟨(Lib.cut ps[i] [58]).2.1.toArray⟩ : ByteArray) = bs (Lib.cut ps[i] [58]).2.1 from rfl, implRL _ hcl (k + 1) (by omega)]
      simp only [Option.bind_some, coll]
      have hiS : iS ps[i] = (if (rl (Lib.cut ps[i] [58]).2.1).2 = true ∧ 1 ≤ (rl (Lib.cut ps[i] [58]).2.1).1.length ∧ (rl (Lib.cut ps[i] [58]).2.1).1.length ≤ 2 then some ⟨if (Lib.cut ps[i] [58]).1 = sandB then 1 else if (Lib.cut ps[i] [58]).1 = dyeB then 2 else 3, rd (rl (Lib.cut ps[i] [58]).2.1).1 0, if (rl (Lib.cut ps[i] [58]).2.1).1.length = 2 then rd (rl (Lib.cut ps[i] [58]).2.1).1 1 else 0⟩ else none) := rfl
      rw [hiS] at hstep ⊢
      clear hiS
      generalize Lib.cut ps[i] [58] = c at hstep ⊢
      generalize rl c.2.1 = q at hstep ⊢
      obtain ⟨xs, ok⟩ := q
      dsimp only at hstep ⊢
      cases ok with
      | false => simp [impl_ReadRecipe.j1, finI]
      | true =>
        rw [if_pos rfl]
        by_cases h1 : (xs.length : Int) < 1
        · rw [if_pos h1]
          have h1' : ¬ 1 ≤ xs.length := by omega
          simp [impl_ReadRecipe.j1, finI, h1']
        · rw [if_neg h1]
          by_cases h2 : (xs.length : Int) > 2
          · have h2' : ¬ xs.length ≤ 2 := by omega
            rw [decide_eq_true h2]
            simp [impl_ReadRecipe.j1, finI, h2']
          · rw [decide_eq_false h2]
            have hc : True ∧ 1 ≤ xs.length ∧ xs.length ≤ 2 := ⟨trivial, by omega, by omega⟩
            have hx : (true = true ∧ 1 ≤ xs.length ∧ xs.length ≤ 2) := ⟨rfl, hc.2⟩
            rw [if_pos hx] at hstep ⊢
            have hst := hstep _ rfl
            clear hstep
            have hacc : acc.length < 5864062014805 := by omega
            have h0l : 0 < (xs.length : Int) := by omega
            simp only [impl_ReadRecipe.j1, Bool.false_eq_true, if_false, toListS]
            rw [wnat (by omega)]
            show _ = some (finI l p0 (coll iS (ps.drop (i + 1)) _))
            unfold sandB dyeB at hst ⊢
            rw [← hst]
            by_cases e1 : c.1 = [115, 97, 110, 100]
            · rw [if_pos e1, if_pos e1, if_pos h0l]
              by_cases h3 : xs.length = 2
              · rw [if_pos (by omega), if_pos (by omega), if_pos hacc, if_pos h3]
              · rw [if_neg (by omega), if_pos hacc, if_neg h3]
            · rw [if_neg e1, if_neg e1]
              by_cases e2 : c.1 = [100, 121, 101]
              · rw [if_pos e2, if_pos e2, if_pos h0l]
                by_cases h3 : xs.length = 2
                · rw [if_pos (by omega), if_pos (by omega), if_pos hacc, if_pos h3]
                · rw [if_neg (by omega), if_pos hacc, if_neg h3]
              · rw [if_neg e2, if_neg e2, if_pos h0l]
                by_cases h3 : xs.length = 2
                · rw [if_pos (by omega), if_pos (by omega), if_pos hacc, if_pos h3]
                · rw [if_neg (by omega), if_pos hacc, if_neg h3]
  have := key ps.length 0 k [] (by omega) (by omega) rfl
  exact this

theorem rr_len (l p0 : List UInt8) (ps : List (List UInt8)) (hps : ps.length ≤ 1048576) : (finS p0 (coll sS ps [])).2.1.length ≤ 1000 := by
  cases h : coll sS ps [] with
  | none => simp [finS]
  | some st =>
    simp only [finS]
    split
    · rename_i h2
      have := okR_len h2
      simp only; omega
    · simp

theorem FnExactReadRecipe : laws_FnExactReadRecipe.Pure := by
  intro s hs
  refine ⟨4500102, ?_⟩
  obtain ⟨k, hk⟩ : ∃ k : Nat, k = 4500100 := ⟨_, rfl⟩
  rw [show 4500102 = k + 1 + 1 by omega]
  unfold laws_FnExactReadRecipe.f
  by_cases hz : (s.size : Int) > 1048576
  · rw [if_pos hz]
  rw [if_neg hz]
  obtain ⟨l, rfl⟩ : ∃ l, s = bs l := ⟨_, (bs_of s).symm⟩
  rw [bs_size] at hz
  have hl : l.length ≤ 1048576 := by omega
  obtain ⟨p0, ps, hsp, hps, hp, _⟩ := specRR l hl (k + 1) (by omega)
  have hno : okR (bs []) [] = false := by decide
  have hfin := fin_eq hsp hno
  have h1 : ∀ k, 4400000 < k → spec_ReadRecipe.f k (bs l) = some (finS p0 (coll sS ps [])) := by
    intro k hk
    obtain ⟨q0, qs, hsq, _, _, h⟩ := specRR l hl k (by omega)
    rw [hsp, List.cons.injEq] at hsq
    obtain ⟨rfl, rfl⟩ := hsq
    exact h
  have h2 : ∀ k, 4400000 < k → impl_ReadRecipe.f k (bs l) [()] = some (finS p0 (coll sS ps [])) := by
    intro k hk
    rw [implRR l hl p0 ps hsp hps hp k hk, hfin]
  have hr := rr_len l p0 ps hps
  generalize finS p0 (coll sS ps []) = r at hr h1 h2
  obtain ⟨a, c, ok⟩ := r
  simp only at hr
  have he : ∀ k, 2000 ≤ k → laws_eqRecipe.f k a c a c = some true := fun k hk => eqRecipe_eq a c (by omega) k (by omega)
  have hm := markSts_eq c (by omega) 1 (by omega) (by omega)
  have hh := heldSts_eq c.length (by omega) 1 (by omega) (by omega)
  have hht : ∀ k, 2000 ≤ k → laws_heldRecipe.f k a (upM c.length 1) 1 = some (1 + 3 * (c.length : Int)) := by
    intro k hk
    unfold laws_heldRecipe.f
    rw [hh k (by omega)]
    simp only [Option.bind_some]
    rw [if_neg (by omega)]
  rw [h1 (k + 1 + 1) (by omega), h2 (k + 1 + 1) (by omega)]
  simp only [Option.bind_some, he (k + 1 + 1) (by omega), if_true, bne_self_eq_false, laws_FnExactReadRecipe.j0, Bool.false_eq_true, if_false]
  unfold laws_markRecipe.f
  rw [hm (k + 1) (by omega)]
  simp only [Option.bind_some, hht (k + 1) (by omega)]
  rw [if_neg (by omega)]
  simp only [if_true]
  rw [h2 (k + 1) (by omega)]
  simp only [Option.bind_some, he (k + 1) (by omega), if_true, bne_self_eq_false, laws_FnExactReadRecipe.j1, Bool.false_eq_true, if_false, hht k (by omega)]
  rw [if_neg (by omega)]

end Go.Proofs.YteijbdngbmciaaaDoor.Pure

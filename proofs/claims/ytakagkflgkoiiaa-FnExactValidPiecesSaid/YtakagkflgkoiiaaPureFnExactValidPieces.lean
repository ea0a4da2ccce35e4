/- FnExactValidPieces: the program's ValidPieces returns what the reference's returns, for all arguments; no condition. -/
import Derived.Test.YtakagkflgkoiiaaGFnExactValidPiecesx
namespace Go.Proofs.Ytakagkflgkoiiaa.Pure
open Go.RowKit Go.Proofs.Ytakagkflgkoiiaa.GFnExactValidPieces Go.Proofs.YtakagkflgkoiiaaW.PrintWords Go.Proofs.YtakagkflgkoiiaaW.PrintLast
set_option linter.unusedSimpArgs false
set_option linter.unusedVariables false

theorem w64 {x : Int} (h0 : -9223372036854775808 ≤ x) (h1 : x ≤ 9223372036854775807) : wrap64 x = x := by
  unfold wrap64; omega

theorem within_eq (a b c : Int) : impl_within.f a b c = some (decide (b ≤ a ∧ a ≤ c)) := by
  unfold impl_within.f
  by_cases h : a ≥ b
  · rw [if_pos h]; simp [h]
  · rw [if_neg h]; simp; omega

theorem l00In_eq (a b c : Int) : spec_l00In.f a b c = some (decide (b ≤ a ∧ a ≤ c)) := by
  unfold spec_l00In.f
  by_cases h : a ≥ b
  · rw [if_pos h]; simp [h]
  · rw [if_neg h]; simp; omega

/-- a loop over a list: from one state to the next, or out of it -/
def run {α σ β : Type} (st : σ → α → Nat → σ ⊕ β) (en : σ → β) : List α → σ → Nat → β
  | [], s, _ => en s
  | x :: xs, s, i => match st s x i with
    | .inl s' => run st en xs s' (i + 1)
    | .inr r => r

theorem loop_run {α σ β : Type} (xs : List α) (K0 : Nat) (Inv : σ → Nat → Prop) (L : Nat → σ → Int → Option β) (st : σ → α → Nat → σ ⊕ β) (en : σ → β)
    (hs : ∀ (k : Nat) (s : σ) (i : Nat) (h : i < xs.length), K0 ≤ k → Inv s i →
      (∃ s', st s xs[i] i = .inl s' ∧ Inv s' (i + 1) ∧ L (k + 1) s (i : Int) = L k s' ((i + 1 : Nat) : Int)) ∨ (∃ r, st s xs[i] i = .inr r ∧ L (k + 1) s (i : Int) = some r))
    (he : ∀ (k : Nat) (s : σ), K0 ≤ k → Inv s xs.length → L (k + 1) s (xs.length : Int) = some (en s)) :
    ∀ (n i k : Nat) (s : σ), i + n = xs.length → K0 + n < k → Inv s i → L k s (i : Int) = some (run st en (xs.drop i) s i) := by
  intro n
  induction n with
  | zero =>
    intro i k s hi hk hI
    obtain ⟨k, rfl⟩ : ∃ m, k = m + 1 := ⟨k - 1, by omega⟩
    obtain rfl : i = xs.length := by omega
    rw [he k s (by omega) hI, List.drop_length]; rfl
  | succ n ih =>
    intro i k s hi hk hI
    obtain ⟨k, rfl⟩ : ∃ m, k = m + 1 := ⟨k - 1, by omega⟩
    have hlt : i < xs.length := by omega
    rw [List.drop_eq_getElem_cons hlt]
    rcases hs k s i hlt (by omega) hI with ⟨s', h1, h2, h3⟩ | ⟨r, h1, h3⟩
    · rw [h3, ih (i + 1) k s' (by omega) (by omega) h2]
      simp only [run, h1]
    · rw [h3]
      simp only [run, h1]

theorem loop_run0 {α σ β : Type} (xs : List α) (K0 : Nat) (Inv : σ → Nat → Prop) (L : Nat → σ → Int → Option β) (st : σ → α → Nat → σ ⊕ β) (en : σ → β)
    (hs : ∀ (k : Nat) (s : σ) (i : Nat) (h : i < xs.length), K0 ≤ k → Inv s i →
      (∃ s', st s xs[i] i = .inl s' ∧ Inv s' (i + 1) ∧ L (k + 1) s (i : Int) = L k s' ((i + 1 : Nat) : Int)) ∨ (∃ r, st s xs[i] i = .inr r ∧ L (k + 1) s (i : Int) = some r))
    (he : ∀ (k : Nat) (s : σ), K0 ≤ k → Inv s xs.length → L (k + 1) s (xs.length : Int) = some (en s)) (k : Nat) (s : σ) (hk : K0 + xs.length < k) (hI : Inv s 0) :
    L k s 0 = some (run st en xs s 0) := by
  have := loop_run xs K0 Inv L st en hs he xs.length 0 k s (by omega) hk hI
  simpa using this

/-- a row that is made and then filled, element by element -/
theorem loop_map {α β : Type} (xs : List α) (z : β) (c : α → β) (L : Nat → List β → Int → Option (List β))
    (hs : ∀ (k : Nat) (s : List β) (i : Nat) (h : i < xs.length), s.length = xs.length → L (k + 1) s (i : Int) = L k (s.set i (c xs[i])) ((i + 1 : Nat) : Int))
    (he : ∀ (k : Nat) (s : List β), L (k + 1) s (xs.length : Int) = some s) (k : Nat) (hk : xs.length < k) :
    L k (List.replicate xs.length z) 0 = some (xs.map c) := by
  have key : ∀ (n i k : Nat) (s : List β), i + n = xs.length → n < k → s.length = xs.length → s.take i = (xs.map c).take i → L k s (i : Int) = some (xs.map c) := by
    intro n
    induction n with
    | zero =>
      intro i k s hi hk hl ht
      obtain ⟨k, rfl⟩ : ∃ m, k = m + 1 := ⟨k - 1, by omega⟩
      obtain rfl : i = xs.length := by omega
      have h1 : s.take xs.length = s := List.take_of_length_le (by omega)
      rw [he, ← h1, ht, List.take_of_length_le (by simp)]
    | succ n ih =>
      intro i k s hi hk hl ht
      obtain ⟨k, rfl⟩ : ∃ m, k = m + 1 := ⟨k - 1, by omega⟩
      have hlt : i < xs.length := by omega
      rw [hs k s i hlt hl]
      refine ih (i + 1) k _ (by omega) (by omega) (by rw [List.length_set]; exact hl) ?_
      rw [List.take_succ_eq_append_getElem (by rw [List.length_set]; omega), List.take_succ_eq_append_getElem (by rw [List.length_map]; omega), List.take_set_of_le (by omega), ht]
      simp
  have := key xs.length 0 k (List.replicate xs.length z) (by omega) hk (by simp) (by simp)
  simpa using this

theorem wnat {n : Nat} (h : n < 9223372036854775807) : wrap64 ((n : Int) + 1) = ((n + 1 : Nat) : Int) := by
  unfold wrap64; omega

theorem loop_all {β : Type} (n K0 : Nat) (L : Nat → Int → Option β) (r : β) (hs : ∀ (k i : Nat), K0 ≤ k → i < n → L (k + 1) (i : Int) = L k ((i + 1 : Nat) : Int)) (he : ∀ k : Nat, L (k + 1) (n : Int) = some r)
    (k : Nat) (hk : K0 + n < k) : L k 0 = some r := by
  have key : ∀ (m i k : Nat), i + m = n → K0 + m < k → L k (i : Int) = some r := by
    intro m
    induction m with
    | zero =>
      intro i k hi hk
      obtain ⟨k, rfl⟩ : ∃ m, k = m + 1 := ⟨k - 1, by omega⟩
      obtain rfl : i = n := by omega
      exact he k
    | succ m ih =>
      intro i k hi hk
      obtain ⟨k, rfl⟩ : ∃ m, k = m + 1 := ⟨k - 1, by omega⟩
      rw [hs k i (by omega) (by omega)]
      exact ih (i + 1) k (by omega) (by omega)
  simpa using key n 0 k (by omega) hk

theorem all_from {α β : Type} (xs : List α) (K0 : Nat) (p : α → Bool) (r0 r1 : β) (L : Nat → Int → Option β)
    (hs : ∀ (k i : Nat) (h : i < xs.length), K0 ≤ k → L (k + 1) (i : Int) = if p xs[i] = true then L k ((i + 1 : Nat) : Int) else some r0)
    (he : ∀ k : Nat, K0 ≤ k → L (k + 1) (xs.length : Int) = some r1) : ∀ (n i k : Nat), i + n = xs.length → K0 + n < k → L k (i : Int) = some (if (xs.drop i).all p = true then r1 else r0) := by
  intro n
  induction n with
  | zero =>
    intro i k hi hk
    obtain ⟨k, rfl⟩ : ∃ m, k = m + 1 := ⟨k - 1, by omega⟩
    obtain rfl : i = xs.length := by omega
    rw [he k (by omega), List.drop_length]; rfl
  | succ n ih =>
    intro i k hi hk
    obtain ⟨k, rfl⟩ : ∃ m, k = m + 1 := ⟨k - 1, by omega⟩
    have hlt : i < xs.length := by omega
    rw [hs k i hlt (by omega), List.drop_eq_getElem_cons hlt, List.all_cons]
    cases hp : p xs[i] with
    | true => rw [if_pos rfl, ih (i + 1) k (by omega) (by omega), Bool.true_and]
    | false => simp

theorem all_loop {α β : Type} (xs : List α) (K0 : Nat) (p : α → Bool) (r0 r1 : β) (L : Nat → Int → Option β)
    (hs : ∀ (k i : Nat) (h : i < xs.length), K0 ≤ k → L (k + 1) (i : Int) = if p xs[i] = true then L k ((i + 1 : Nat) : Int) else some r0)
    (he : ∀ k : Nat, K0 ≤ k → L (k + 1) (xs.length : Int) = some r1) (k : Nat) (hk : K0 + xs.length < k) : L k 0 = some (if xs.all p = true then r1 else r0) := by
  simpa using all_from xs K0 p r0 r1 L hs he xs.length 0 k (by omega) hk

theorem idx_from {α : Type} (xs : List α) (K0 : Nat) (q : α → Bool) (L : Nat → Int → Option Int)
    (hs : ∀ (k i : Nat) (h : i < xs.length), K0 ≤ k → L (k + 1) (i : Int) = if q xs[i] = true then some (i : Int) else L k ((i + 1 : Nat) : Int))
    (he : ∀ k : Nat, K0 ≤ k → L (k + 1) (xs.length : Int) = some (-1)) : ∀ (n i k : Nat), i + n = xs.length → K0 + n < k → ∃ r, L k (i : Int) = some r ∧ decide (r ≥ 0) = (xs.drop i).any q := by
  intro n
  induction n with
  | zero =>
    intro i k hi hk
    obtain ⟨k, rfl⟩ : ∃ m, k = m + 1 := ⟨k - 1, by omega⟩
    obtain rfl : i = xs.length := by omega
    exact ⟨-1, he k (by omega), by rw [List.drop_length]; rfl⟩
  | succ n ih =>
    intro i k hi hk
    obtain ⟨k, rfl⟩ : ∃ m, k = m + 1 := ⟨k - 1, by omega⟩
    have hlt : i < xs.length := by omega
    rw [hs k i hlt (by omega), List.drop_eq_getElem_cons hlt, List.any_cons]
    cases hp : q xs[i] with
    | true => exact ⟨i, by rw [if_pos rfl], by simp⟩
    | false =>
      obtain ⟨r, h1, h2⟩ := ih (i + 1) k (by omega) (by omega)
      exact ⟨r, by rw [if_neg (by simp)]; exact h1, by rw [h2]; simp⟩

theorem idx_loop {α : Type} (xs : List α) (K0 : Nat) (q : α → Bool) (L : Nat → Int → Option Int)
    (hs : ∀ (k i : Nat) (h : i < xs.length), K0 ≤ k → L (k + 1) (i : Int) = if q xs[i] = true then some (i : Int) else L k ((i + 1 : Nat) : Int))
    (he : ∀ k : Nat, K0 ≤ k → L (k + 1) (xs.length : Int) = some (-1)) (k : Nat) (hk : K0 + xs.length < k) : ∃ r, L k 0 = some r ∧ decide (r ≥ 0) = xs.any q := by
  simpa using idx_from xs K0 q L hs he xs.length 0 k (by omega) hk

theorem any_not {α : Type} (l : List α) (p : α → Bool) : l.any (fun x => !p x) = !l.all p := by
  induction l with
  | nil => rfl
  | cons x l ih => rw [List.any_cons, List.all_cons, ih]; cases p x <;> simp

theorem bt_byte (s : ByteArray) (i : Int) : 0 ≤ bt s i ∧ bt s i ≤ 255 := by
  unfold bt
  split
  · have := (s[i.toNat]'(by assumption)).toNat_lt; omega
  · omega

/-- a letter or a digit of a name -/
def nmC (c : Int) : Bool := decide (97 ≤ c ∧ c ≤ 122 ∨ 48 ≤ c ∧ c ≤ 57)

theorem nil_iff (s : ByteArray) : s.toList = [] ↔ s.size = 0 := by
  rw [ByteArray.toList_eq]
  constructor
  · intro h
    have : s.data.toList.length = 0 := by rw [h]; rfl
    rw [Array.length_toList] at this; exact this
  · intro h
    apply List.eq_nil_of_length_eq_zero
    rw [Array.length_toList]; exact h

theorem small_eq (c : Int) : spec_l01Small.f c = some (decide (97 ≤ c ∧ c ≤ 122)) := by
  unfold spec_l01Small.f
  by_cases h : c ≥ 97
  · rw [if_pos h]; simp [h]
  · rw [if_neg h]; simp; omega
theorem digit_eq (c : Int) : spec_l01Digit.f c = some (decide (48 ≤ c ∧ c ≤ 57)) := by
  unfold spec_l01Digit.f
  by_cases h : c ≥ 48
  · rw [if_pos h]; simp [h]
  · rw [if_neg h]; simp; omega

theorem name_loop (s : ByteArray) (hs : s.size ≤ 10) : ∀ (n i k : Nat), i + n = s.size → n < k →
    ∃ b, spec_l01Name.l0 k s (i : Int) = some b ∧ impl_IsName.l0 k s (i : Int) = some b := by
  intro n
  induction n with
  | zero =>
    intro i k hi hk
    obtain ⟨k, rfl⟩ : ∃ m, k = m + 1 := ⟨k - 1, by omega⟩
    simp only [spec_l01Name.l0, impl_IsName.l0]
    exact ⟨true, by rw [if_neg (by omega)], by rw [if_neg (by omega)]⟩
  | succ n ih =>
    intro i k hi hk
    obtain ⟨k, rfl⟩ : ∃ m, k = m + 1 := ⟨k - 1, by omega⟩
    obtain ⟨b, e1, e2⟩ := ih (i + 1) k (by omega) (by omega)
    have hw : wrap64 ((i : Int) + 1) = ((i + 1 : Nat) : Int) := wnat (by omega)
    have a1 : (i : Int) < (s.size : Int) := by omega
    have a2 : (0 : Int) ≤ (i : Int) := by omega
    simp only [spec_l01Name.l0, impl_IsName.l0, small_eq, digit_eq, Option.bind_some, decide_eq_true_eq, a1, a2, if_true, hw, e1, e2]
    generalize bt s (i : Int) = c
    by_cases h1 : c < 97
    · by_cases h2 : c < 48
      · exact ⟨false, by simp [h1, h2, show ¬ (97 ≤ c ∧ c ≤ 122) by omega, show ¬ (48 ≤ c ∧ c ≤ 57) by omega], by simp [h1, h2]⟩
      · by_cases h3 : c > 57
        · exact ⟨false, by simp [show ¬ (97 ≤ c ∧ c ≤ 122) by omega, show ¬ (48 ≤ c ∧ c ≤ 57) by omega], by simp [h1, h2, h3]⟩
        · exact ⟨b, by simp [show ¬ (97 ≤ c ∧ c ≤ 122) by omega, show (48 ≤ c ∧ c ≤ 57) by omega], by simp [h1, h2, h3]⟩
    · by_cases h4 : c > 122
      · exact ⟨false, by simp [show ¬ (97 ≤ c ∧ c ≤ 122) by omega, show ¬ (48 ≤ c ∧ c ≤ 57) by omega], by simp [h1, h4, show ¬ (c < 48) by omega, show c > 57 by omega]⟩
      · exact ⟨b, by simp [show (97 ≤ c ∧ c ≤ 122) by omega], by simp [h1, h4]⟩

theorem name_eq (s : ByteArray) : ∃ b : Bool, (∀ k, 13 ≤ k → spec_l01Name.f k s = some b ∧ impl_IsName.f k s = some b) := by
  have fin : ∃ b : Bool, spec_l01Name.f 13 s = some b ∧ impl_IsName.f 13 s = some b := by
    unfold spec_l01Name.f impl_IsName.f
    by_cases h0 : s.size = 0
    · exact ⟨false, by simp [(nil_iff s).2 h0, spec_l01Name.j0], by simp [show (s.size : Int) < 1 by omega, impl_IsName.j0]⟩
    · have n0 : ¬ s.toList = [] := fun h => h0 ((nil_iff s).1 h)
      have n1 : ¬ (s.size : Int) < 1 := by omega
      by_cases h1 : (s.size : Int) > 10
      · exact ⟨false, by simp [n0, h1, spec_l01Name.j0], by simp [n1, h1, impl_IsName.j0]⟩
      · have n2 : (0 : Int) < (s.size : Int) := by omega
        simp only [n0, n1, h1, n2, if_true, if_false, small_eq, Option.bind_some]
        obtain ⟨b, e1, e2⟩ := name_loop s (by omega) s.size 0 12 (by omega) (by omega)
        have e1' : spec_l01Name.l0 12 s 0 = some b := e1
        have e2' : impl_IsName.l0 12 s 0 = some b := e2
        generalize bt s 0 = c
        by_cases h2 : c < 97
        · exact ⟨false, by simp [spec_l01Name.j0, show ¬ (97 ≤ c ∧ c ≤ 122) by omega], by simp [impl_IsName.j0, h2]⟩
        · by_cases h3 : c > 122
          · exact ⟨false, by simp [spec_l01Name.j0, show ¬ (97 ≤ c ∧ c ≤ 122) by omega], by simp [impl_IsName.j0, h2, h3]⟩
          · exact ⟨b, by simp [spec_l01Name.j0, show (97 ≤ c ∧ c ≤ 122) by omega, e1'], by simp [impl_IsName.j0, h2, show ¬ (c > 122) by omega, e2']⟩
  obtain ⟨b, e1, e2⟩ := fin
  exact ⟨b, fun k hk => ⟨at_rounds (g := fun k => spec_l01Name.f k s) (fun k => spec_l01Name.mono s k) hk e1, at_rounds (g := fun k => impl_IsName.f k s) (fun k => impl_IsName.mono s k) hk e2⟩⟩

theorem rd47 (xs : List S47) (i : Nat) (h : i < xs.length) : rd_T47 xs (i : Int) = xs[i] := by
  unfold rd_T47; simp [List.getD, h]
theorem rd53 (xs : List S53) (i : Nat) (h : i < xs.length) : rd_T53 xs (i : Int) = xs[i] := by
  unfold rd_T53; simp [List.getD, h]
theorem rd105 (xs : List S105) (i : Nat) (h : i < xs.length) : rd_T105 xs (i : Int) = xs[i] := by
  unfold rd_T105; simp [List.getD, h]
theorem rd123 (xs : List S123) (i : Nat) (h : i < xs.length) : rd_T123 xs (i : Int) = xs[i] := by
  unfold rd_T123; simp [List.getD, h]

def toPt (x : S123) : S105 := ⟨x.f0, x.f1⟩
def toPc (x : S47) : S53 := ⟨x.f0, x.f1.map toPt, x.f2, x.f3⟩

theorem toPointS_eq (l : List S123) (hl : l.length ≤ 1048576) (k : Nat) (hk : l.length < k) : laws_toPointS.f k l = some (l.map toPt) := by
  unfold laws_toPointS.f
  rw [if_pos (by omega), if_pos (by omega), show ((l.length : Int)).toNat = l.length by omega]
  refine loop_map l z105 toPt (fun k s i => laws_toPointS.l0 k l s i) ?_ ?_ k hk
  · intro k s i h hs
    simp only [laws_toPointS.l0]
    rw [if_pos (by omega), if_pos (by omega), rd123 l i h]
    unfold laws_toPoint.f
    simp only [Option.bind_some]
    rw [if_pos (by omega), wnat (by omega)]
    rfl
  · intro k s
    simp only [laws_toPointS.l0]
    rw [if_neg (by omega)]

theorem eqPointS_eq (l : List S105) (hl : l.length ≤ 1048576) (k : Nat) (hk : l.length < k) : laws_eqPointS.f k l l = some true := by
  unfold laws_eqPointS.f
  rw [if_pos rfl]
  refine loop_all l.length 0 (fun k i => laws_eqPointS.l0 k l l i) true ?_ ?_ k (by omega)
  · intro k i _ h
    simp only [laws_eqPointS.l0]
    rw [if_pos (by omega), if_pos (by omega), if_pos (by omega)]
    unfold laws_eqPoint.f
    simp only [if_true, Option.bind_some]
    rw [wnat (by omega)]
  · intro k
    simp only [laws_eqPointS.l0]
    rw [if_neg (by omega)]

theorem loop_mapK {α β : Type} (xs : List α) (z : β) (c : α → β) (K0 : Nat) (L : Nat → List β → Int → Option (List β))
    (hs : ∀ (k : Nat) (s : List β) (i : Nat) (h : i < xs.length), K0 ≤ k → s.length = xs.length → L (k + 1) s (i : Int) = L k (s.set (i : Int).toNat (c xs[i])) ((i + 1 : Nat) : Int))
    (he : ∀ (k : Nat) (s : List β), K0 ≤ k → L (k + 1) s (xs.length : Int) = some s) (k : Nat) (hk : K0 + xs.length < k) : L k (List.replicate xs.length z) 0 = some (xs.map c) := by
  have key : ∀ (n i k : Nat) (s : List β), i + n = xs.length → K0 + n < k → s.length = xs.length → s.take i = (xs.take i).map c → L k s (i : Int) = some (xs.map c) := by
    intro n
    induction n with
    | zero =>
      intro i k s hi hk hl ht
      obtain ⟨k, rfl⟩ : ∃ m, k = m + 1 := ⟨k - 1, by omega⟩
      obtain rfl : i = xs.length := by omega
      rw [he k s (by omega)]
      rw [List.take_of_length_le (by omega), List.take_length] at ht
      rw [ht]
    | succ n ih =>
      intro i k s hi hk hl ht
      obtain ⟨k, rfl⟩ : ∃ m, k = m + 1 := ⟨k - 1, by omega⟩
      have hlt : i < xs.length := by omega
      rw [hs k s i hlt (by omega) hl]
      refine ih (i + 1) k _ (by omega) (by omega) (by rw [List.length_set]; exact hl) ?_
      rw [show ((i : Nat) : Int).toNat = i by omega, List.take_succ_eq_append_getElem (by rw [List.length_set]; omega), List.take_succ_eq_append_getElem hlt, List.map_append, List.take_set_of_le (by omega), ht]
      simp
  simpa using key xs.length 0 k (List.replicate xs.length z) (by omega) (by omega) (by simp) (by simp)

theorem szPointS_eq (l : List S123) (a : Int) (ha : 0 ≤ a) (ha2 : a ≤ 1048576) (hl : l.length ≤ maxLen) : laws_szPointS.f l a = some (if a < l.length then -1 else a - l.length) := by
  unfold maxLen at hl
  unfold laws_szPointS.f
  rw [w64 (x := a - l.length) (by omega) (by omega)]
  by_cases h : a < l.length
  · rw [if_pos (by omega), if_pos h]
  · rw [if_neg (by omega), if_neg h]

theorem szPiece_eq (s : ByteArray) (l : List S123) (c : Int) (d : Bool) (a : Int) (ha : 0 ≤ a) (ha2 : a ≤ 1048576) (hs : s.size ≤ maxLen) (hl : l.length ≤ maxLen) :
    ∃ v, laws_szPiece.f s l c d a = some v ∧ (v < 0 ∨ 0 ≤ v ∧ v ≤ a ∧ l.length ≤ 1048576) := by
  unfold maxLen at hs
  unfold laws_szPiece.f
  rw [w64 (x := a - s.size) (by omega) (by omega)]
  by_cases h : a - s.size < 0
  · rw [if_pos h]; exact ⟨_, rfl, .inl (by omega)⟩
  · rw [if_neg h, szPointS_eq l _ (by omega) (by omega) hl]
    simp only [Option.bind_some]
    by_cases h2 : a - s.size < l.length
    · rw [if_pos h2, if_pos (by omega)]; exact ⟨_, rfl, .inl (by omega)⟩
    · rw [if_neg h2, if_neg (by omega)]; exact ⟨_, rfl, .inr ⟨by omega, by omega, by omega⟩⟩

theorem toPieceS_eq (l : List S47) (hl : l.length ≤ 1048576) (hg : ∀ y ∈ l, y.f1.length ≤ 1048576) (k : Nat) (hk : 2100000 < k) : laws_toPieceS.f k l = some (l.map toPc) := by
  unfold laws_toPieceS.f
  rw [if_pos (by omega), if_pos (by omega), show ((l.length : Int)).toNat = l.length by omega]
  refine loop_mapK l z53 toPc 1048577 (fun k s i => laws_toPieceS.l0 k l s i) ?_ ?_ k (by omega)
  · intro k s i h hk hs
    have := hg _ (List.getElem_mem h)
    simp only [laws_toPieceS.l0]
    rw [if_pos (by omega), if_pos (by omega), rd47 l i h]
    unfold laws_toPiece.f
    rw [toPointS_eq _ this k (by omega)]
    simp only [Option.bind_some]
    rw [if_pos (by omega), wnat (by omega)]
    rfl
  · intro k s _
    simp only [laws_toPieceS.l0]
    rw [if_neg (by omega)]

theorem eqPieceS_eq (l : List S53) (hl : l.length ≤ 1048576) (hg : ∀ y ∈ l, y.f1.length ≤ 1048576) (k : Nat) (hk : 2100000 < k) : laws_eqPieceS.f k l l = some true := by
  unfold laws_eqPieceS.f
  rw [if_pos rfl]
  refine loop_all l.length 1048577 (fun k i => laws_eqPieceS.l0 k l l i) true ?_ ?_ k (by omega)
  · intro k i hk h
    have := hg _ (List.getElem_mem h)
    simp only [laws_eqPieceS.l0]
    rw [if_pos (by omega), if_pos (by omega), if_pos (by omega), rd53 l i h]
    unfold laws_eqPiece.f
    rw [eqPointS_eq _ this k (by omega)]
    simp only [if_true, Option.bind_some, bne_self_eq_false, Bool.false_eq_true, if_false]
    rw [wnat (by omega)]
  · intro k
    simp only [laws_eqPieceS.l0]
    rw [if_neg (by omega)]

theorem szPieceS_eq (l : List S47) (hl : l.length ≤ maxLen) (hg : ∀ y ∈ l, G47 y) :
    ∃ v, (∀ k, 1048577 < k → laws_szPieceS.f k l 1048576 = some v) ∧ (v < 0 ∨ l.length ≤ 1048576 ∧ ∀ y ∈ l, y.f1.length ≤ 1048576) := by
  unfold maxLen at hl
  unfold laws_szPieceS.f
  rw [w64 (x := 1048576 - l.length) (by omega) (by omega)]
  by_cases h : 1048576 - (l.length : Int) < 0
  · exact ⟨-1, fun k _ => by rw [if_pos h], .inl (by decide)⟩
  have key : ∀ (n i : Nat) (a : Int), i + n = l.length → 0 ≤ a → a ≤ 1048576 → ∃ v, (∀ k, n < k → laws_szPieceS.l0 k l a (i : Int) = some v) ∧ (v < 0 ∨ ∀ (j : Nat) (hj : j < l.length), i ≤ j → l[j].f1.length ≤ 1048576) := by
    intro n
    induction n with
    | zero =>
      intro i a hi a0 a1
      refine ⟨a, fun k hk => ?_, .inr fun j hj hij => by omega⟩
      obtain ⟨k, rfl⟩ : ∃ m, k = m + 1 := ⟨k - 1, by omega⟩
      simp only [laws_szPieceS.l0]
      rw [if_neg (by omega)]
    | succ n ih =>
      intro i a hi a0 a1
      have hlt : i < l.length := by omega
      obtain ⟨g0, ⟨g1, _⟩, _⟩ := hg _ (List.getElem_mem hlt)
      obtain ⟨v, e, hv⟩ := szPiece_eq l[i].f0 l[i].f1 l[i].f2 l[i].f3 a a0 a1 g0 g1
      rcases hv with hv | ⟨v0, v1, v2⟩
      · refine ⟨-1, fun k hk => ?_, .inl (by decide)⟩
        obtain ⟨k, rfl⟩ : ∃ m, k = m + 1 := ⟨k - 1, by omega⟩
        simp only [laws_szPieceS.l0]
        rw [if_pos (by omega), if_pos (by omega), rd47 l i hlt, e]
        simp only [Option.bind_some]
        rw [if_pos hv]
      · obtain ⟨u, e2, hu⟩ := ih (i + 1) v (by omega) v0 (by omega)
        refine ⟨u, fun k hk => ?_, ?_⟩
        · obtain ⟨k, rfl⟩ : ∃ m, k = m + 1 := ⟨k - 1, by omega⟩
          simp only [laws_szPieceS.l0]
          rw [if_pos (by omega), if_pos (by omega), rd47 l i hlt, e]
          simp only [Option.bind_some]
          rw [if_neg (by omega), wnat (by omega)]
          exact e2 k (by omega)
        · rcases hu with hu | hu
          · exact .inl hu
          · refine .inr fun j hj hij => ?_
            by_cases hji : j = i
            · subst hji; exact v2
            · exact hu j hj (by omega)
  obtain ⟨v, e, hv⟩ := key l.length 0 (1048576 - l.length) (by omega) (by omega) (by omega)
  refine ⟨v, fun k hk => by rw [if_neg h]; exact e k (by omega), ?_⟩
  rcases hv with hv | hv
  · exact .inl hv
  · refine .inr ⟨by omega, fun y hy => ?_⟩
    obtain ⟨j, hj, rfl⟩ := List.getElem_of_mem hy
    exact hv j hj (by omega)

def mnf (t x : Int) : Int := if t < x then t else x
theorem mn_eq (t x : Int) : mn t x = mnf t x := by
  unfold mn mnf
  by_cases h : t < x
  · rw [if_neg (by omega), if_pos h]
  · rw [if_neg h]
    by_cases h2 : x < t
    · rw [if_pos h2]
    · rw [if_neg h2]; omega
def lowX (l : List S105) (t : Int) : Int := l.foldl (fun t p => mnf t p.f0) t
def lowY (l : List S105) (t : Int) : Int := l.foldl (fun t p => mnf t p.f1) t

theorem specBounds (l : List S105) (hl : l.length ≤ 100) : ∀ (n i : Nat) (a b c d : Int), i + n = l.length → ∃ u v, ∀ k, n < k → spec_l03Bounds.l0 k l (i : Int) a b c d = some (lowX (l.drop i) a, lowY (l.drop i) b, u, v) := by
  intro n
  induction n with
  | zero =>
    intro i a b c d hi
    refine ⟨c, d, fun k hk => ?_⟩
    obtain ⟨k, rfl⟩ : ∃ m, k = m + 1 := ⟨k - 1, by omega⟩
    obtain rfl : i = l.length := by omega
    simp only [spec_l03Bounds.l0]
    rw [if_neg (by omega), List.drop_length]; rfl
  | succ n ih =>
    intro i a b c d hi
    have hlt : i < l.length := by omega
    obtain ⟨u, v, e⟩ := ih (i + 1) (mnf a l[i].f0) (mnf b l[i].f1) (if c > l[i].f0 then c else l[i].f0) (if d > l[i].f1 then d else l[i].f1) (by omega)
    refine ⟨u, v, fun k hk => ?_⟩
    obtain ⟨k, rfl⟩ : ∃ m, k = m + 1 := ⟨k - 1, by omega⟩
    have m1 : ∀ x y : Int, spec_l00Min.f x y = some (mnf x y) := fun x y => by
      unfold spec_l00Min.f mnf; split <;> rfl
    have m2 : ∀ x y : Int, spec_l00Max.f x y = some (if x > y then x else y) := fun x y => by
      unfold spec_l00Max.f; split <;> rfl
    simp only [spec_l03Bounds.l0]
    rw [if_pos (by omega), if_pos (by omega), rd105 l i hlt, m1, m1, m2, m2, wnat (by omega)]
    simp only [Option.bind_some]
    rw [e k (by omega), List.drop_eq_getElem_cons hlt]
    rfl

theorem implBounds (l : List S105) (hl : l.length ≤ 100) : ∀ (n i : Nat) (a b c d : Int), i + n = l.length → ∃ u v, ∀ k, n < k → impl_bounds.l0 k l (l.length : Int) (i : Int) a b c d = some (lowX (l.drop i) a, lowY (l.drop i) b, u, v) := by
  intro n
  induction n with
  | zero =>
    intro i a b c d hi
    refine ⟨c, d, fun k hk => ?_⟩
    obtain ⟨k, rfl⟩ : ∃ m, k = m + 1 := ⟨k - 1, by omega⟩
    obtain rfl : i = l.length := by omega
    simp only [impl_bounds.l0]
    rw [if_neg (by omega), List.drop_length]; rfl
  | succ n ih =>
    intro i a b c d hi
    have hlt : i < l.length := by omega
    obtain ⟨u, v, e⟩ := ih (i + 1) (mnf a l[i].f0) (mnf b l[i].f1) (mx c l[i].f0) (mx d l[i].f1) (by omega)
    refine ⟨u, v, fun k hk => ?_⟩
    obtain ⟨k, rfl⟩ : ∃ m, k = m + 1 := ⟨k - 1, by omega⟩
    simp only [impl_bounds.l0]
    rw [if_pos (by omega), if_pos (by omega), if_pos (by omega), rd105 l i hlt, mn_eq, mn_eq, wnat (by omega), e k (by omega), List.drop_eq_getElem_cons hlt]
    rfl

theorem bounds_eq (l : List S105) (hl : l.length ≤ 100) (hp : 0 < l.length) : ∃ x y u v u' v', ∀ k, 101 < k → spec_l03Bounds.f k l = some (x, y, u, v) ∧ impl_bounds.f k l = some (x, y, u', v') := by
  have hc := List.drop_eq_getElem_cons hp
  rw [List.drop_zero] at hc
  obtain ⟨u, v, e⟩ := specBounds l hl (l.length - 1) 1 l[0].f0 l[0].f1 l[0].f0 l[0].f1 (by omega)
  obtain ⟨u', v', e'⟩ := implBounds l hl l.length 0 l[0].f0 l[0].f1 l[0].f0 l[0].f1 (by omega)
  refine ⟨lowX (l.drop 1) l[0].f0, lowY (l.drop 1) l[0].f1, u, v, u', v', fun k hk => ⟨?_, ?_⟩⟩
  · unfold spec_l03Bounds.f
    rw [if_pos (by omega), show rd_T105 l 0 = l[0] from rd105 l 0 hp]
    exact e k (by omega)
  · unfold impl_bounds.f
    rw [if_pos (by omega), show rd_T105 l 0 = l[0] from rd105 l 0 hp]
    have := e' k (by omega)
    rw [show ((0 : Nat) : Int) = 0 from rfl] at this
    rw [this, List.drop_zero]
    have f1 : lowX l l[0].f0 = lowX (l.drop 1) l[0].f0 := by
      have h : lowX (l[0] :: l.drop (0 + 1)) l[0].f0 = lowX (l.drop 1) l[0].f0 := by
        show lowX (l.drop (0 + 1)) (mnf l[0].f0 l[0].f0) = _
        simp [mnf]
      rwa [← hc] at h
    have f2 : lowY l l[0].f1 = lowY (l.drop 1) l[0].f1 := by
      have h : lowY (l[0] :: l.drop (0 + 1)) l[0].f1 = lowY (l.drop 1) l[0].f1 := by
        show lowY (l.drop (0 + 1)) (mnf l[0].f1 l[0].f1) = _
        simp [mnf]
      rwa [← hc] at h
    rw [f1, f2]

def in5 (p : S105) : Prop := (0 ≤ p.f0 ∧ p.f0 ≤ 5) ∧ (0 ≤ p.f1 ∧ p.f1 ≤ 5)
def before (p q : S105) : Prop := p.f1 < q.f1 ∨ (p.f1 = q.f1 ∧ p.f0 < q.f0)

theorem before_spec (p q : S105) : ∃ b : Bool, spec_l19Before.f p.f0 p.f1 q.f0 q.f1 = some b ∧ (b = true ↔ before p q) := by
  unfold spec_l19Before.f before
  by_cases h1 : p.f1 < q.f1
  · exact ⟨true, by rw [if_pos h1], by simp [h1]⟩
  · by_cases h2 : p.f1 = q.f1
    · exact ⟨decide (p.f0 < q.f0), by rw [if_neg h1, if_pos h2], by simp [h2]⟩
    · exact ⟨false, by rw [if_neg h1, if_neg h2], by simp [h1, h2]⟩

theorem before_impl (p q : S105) (hp : in5 p) (hq : in5 q) : ∃ c : Int, impl_compareCells.f p.f0 p.f1 q.f0 q.f1 = some c ∧ (c < 0 ↔ before p q) := by
  obtain ⟨⟨a0, a1⟩, b0, b1⟩ := hp
  obtain ⟨⟨c0, c1⟩, d0, d1⟩ := hq
  unfold impl_compareCells.f before
  by_cases h2 : p.f1 = q.f1
  · exact ⟨p.f0 - q.f0, by rw [if_pos h2, w64 (by omega) (by omega)], by omega⟩
  · exact ⟨p.f1 - q.f1, by rw [if_neg h2, w64 (by omega) (by omega)], by omega⟩

theorem piece_loop (p : S53) (hn : p.f1.length ≤ 6) (hp : 1 ≤ p.f1.length) : ∀ (n i : Nat), i + n = p.f1.length → (∀ (j : Nat) (h : j < p.f1.length), j < i → in5 p.f1[j]) → ∃ b : Bool, (b = true → ∀ (j : Nat) (h : j < p.f1.length), in5 p.f1[j]) ∧ ∀ k, 200 + n < k → spec_l19Piece.l0 k (i : Int) [p] = some b ∧ impl_validPiece.l0 k p.f1 (p.f1.length : Int) (i : Int) p.f0 p.f1 p.f2 p.f3 = some b := by
  have r : rd_T53 [p] 0 = p := rfl
  intro n
  induction n with
  | zero =>
    intro i hi hj
    obtain ⟨x, y, u, v, u', v', e⟩ := bounds_eq p.f1 (by omega) (by omega)
    refine ⟨x == 0 && y == 0, fun _ j h => hj j h (by omega), fun k hk => ?_⟩
    obtain ⟨k, rfl⟩ : ∃ m, k = m + 1 := ⟨k - 1, by omega⟩
    obtain ⟨e1, e2⟩ := e k (by omega)
    constructor
    · simp only [spec_l19Piece.l0, r, e1, Option.bind_some]
      rw [if_pos (by simp), if_neg (by omega)]
      by_cases hx : x = 0
      · rw [if_pos hx]; simp [hx]
      · rw [if_neg hx]; simp [hx]
    · simp only [impl_validPiece.l0, e2, Option.bind_some]
      rw [if_neg (by omega)]
  | succ n ih =>
    intro i hi hj
    have hlt : i < p.f1.length := by omega
    have step : ∀ k, 200 + n < k → spec_l19Piece.l0 (k + 1) (i : Int) [p] = (if 0 ≤ p.f1[i].f0 ∧ p.f1[i].f0 ≤ 5 then (if 0 ≤ p.f1[i].f1 ∧ p.f1[i].f1 ≤ 5 then (if (i : Int) > 0 then (spec_l19Before.f (rd_T105 p.f1 ((i : Int) - 1)).f0 (rd_T105 p.f1 ((i : Int) - 1)).f1 p.f1[i].f0 p.f1[i].f1).bind fun t => if t = true then spec_l19Piece.l0 k ((i + 1 : Nat) : Int) [p] else some false else spec_l19Piece.l0 k ((i + 1 : Nat) : Int) [p]) else some false) else some false) ∧
        impl_validPiece.l0 (k + 1) p.f1 (p.f1.length : Int) (i : Int) p.f0 p.f1 p.f2 p.f3 = (if 0 ≤ p.f1[i].f0 ∧ p.f1[i].f0 ≤ 5 then (if 0 ≤ p.f1[i].f1 ∧ p.f1[i].f1 ≤ 5 then (if (i : Int) > 0 then (impl_compareCells.f (rd_T105 p.f1 ((i : Int) - 1)).f0 (rd_T105 p.f1 ((i : Int) - 1)).f1 p.f1[i].f0 p.f1[i].f1).bind fun t => if t ≥ 0 then some false else impl_validPiece.l0 k p.f1 (p.f1.length : Int) ((i + 1 : Nat) : Int) p.f0 p.f1 p.f2 p.f3 else impl_validPiece.l0 k p.f1 (p.f1.length : Int) ((i + 1 : Nat) : Int) p.f0 p.f1 p.f2 p.f3) else some false) else some false) := by
      intro k hk
      have a0 : (i : Int) < (p.f1.length : Int) := by omega
      have a1 : (0 : Int) ≤ (i : Int) := by omega
      have a2 : (0 : Int) < (([p] : List S53).length : Int) := by simp
      have a3 : wrap64 ((i : Int) + 1) = ((i + 1 : Nat) : Int) := wnat (by omega)
      have a4 : wrap64 ((i : Int) - 1) = (i : Int) - 1 := w64 (by omega) (by omega)
      constructor
      · simp only [spec_l19Piece.l0, r, l00In_eq, Option.bind_some, decide_eq_true_eq, a0, a1, a2, a3, a4, if_true, rd105 p.f1 i hlt]
        by_cases h0 : (i : Int) > 0
        · simp only [h0, if_true, show (0 : Int) ≤ (i : Int) - 1 by omega, show (i : Int) - 1 < (p.f1.length : Int) by omega]
        · simp only [h0, if_false]
      · simp only [impl_validPiece.l0, within_eq, Option.bind_some, decide_eq_true_eq, a0, a1, a3, a4, if_true, rd105 p.f1 i hlt]
        by_cases h0 : (i : Int) > 0
        · simp only [h0, if_true, show (0 : Int) ≤ (i : Int) - 1 by omega, show (i : Int) - 1 < (p.f1.length : Int) by omega]
        · simp only [h0, if_false]
    by_cases h1 : 0 ≤ p.f1[i].f0 ∧ p.f1[i].f0 ≤ 5
    · by_cases h2 : 0 ≤ p.f1[i].f1 ∧ p.f1[i].f1 ≤ 5
      · obtain ⟨b, hb0, hb⟩ := ih (i + 1) (by omega) (fun j h hji => by
          by_cases e : j = i
          · subst e; exact ⟨h1, h2⟩
          · exact hj j h (by omega))
        by_cases h0 : (i : Int) > 0
        · obtain ⟨m, rfl⟩ : ∃ m, i = m + 1 := ⟨i - 1, by omega⟩
          have hm : m < p.f1.length := by omega
          have er : rd_T105 p.f1 (((m + 1 : Nat) : Int) - 1) = p.f1[m] := by rw [show ((m + 1 : Nat) : Int) - 1 = (m : Int) by omega]; exact rd105 p.f1 m hm
          obtain ⟨b1, f1, g1⟩ := before_spec p.f1[m] p.f1[m + 1]
          obtain ⟨c, f2, g2⟩ := before_impl p.f1[m] p.f1[m + 1] (hj m hm (by omega)) ⟨h1, h2⟩
          refine ⟨b1 && b, fun hbb => hb0 (by revert hbb; cases b1 <;> simp), fun k hk => ?_⟩
          obtain ⟨k, rfl⟩ : ∃ m, k = m + 1 := ⟨k - 1, by omega⟩
          obtain ⟨s1, s2⟩ := step k (by omega)
          obtain ⟨q1, q2⟩ := hb k (by omega)
          rw [s1, s2, if_pos h1, if_pos h2, if_pos h0, if_pos h1, if_pos h2, if_pos h0, er, f1, f2]
          simp only [Option.bind_some, q1, q2]
          by_cases hb1 : b1 = true
          · rw [if_pos hb1, if_neg (by have := g2.2 (g1.1 hb1); omega)]; simp [hb1]
          · have : ¬ c < 0 := fun h => hb1 (g1.2 (g2.1 h))
            rw [if_neg hb1, if_pos (by omega)]; simp [hb1]
        · refine ⟨b, hb0, fun k hk => ?_⟩
          obtain ⟨k, rfl⟩ : ∃ m, k = m + 1 := ⟨k - 1, by omega⟩
          obtain ⟨s1, s2⟩ := step k (by omega)
          obtain ⟨q1, q2⟩ := hb k (by omega)
          rw [s1, s2, if_pos h1, if_pos h2, if_neg h0, if_pos h1, if_pos h2, if_neg h0]
          exact ⟨q1, q2⟩
      · refine ⟨false, (by intro h; cases h), fun k hk => ?_⟩
        obtain ⟨k, rfl⟩ : ∃ m, k = m + 1 := ⟨k - 1, by omega⟩
        obtain ⟨s1, s2⟩ := step k (by omega)
        rw [s1, s2, if_pos h1, if_neg h2, if_pos h1, if_neg h2]
        exact ⟨rfl, rfl⟩
    · refine ⟨false, (by intro h; cases h), fun k hk => ?_⟩
      obtain ⟨k, rfl⟩ : ∃ m, k = m + 1 := ⟨k - 1, by omega⟩
      obtain ⟨s1, s2⟩ := step k (by omega)
      rw [s1, s2, if_neg h1, if_neg h1]
      exact ⟨rfl, rfl⟩

theorem piece_eq (p : S53) : ∃ b : Bool, (b = true → (1 ≤ p.f1.length ∧ p.f1.length ≤ 6) ∧ ∀ q ∈ p.f1, in5 q) ∧ ∀ k, 300 < k → spec_l19Piece.f k [p] = some b ∧ impl_validPiece.f k p.f0 p.f1 p.f2 p.f3 = some b := by
  have r : rd_T53 [p] 0 = p := rfl
  obtain ⟨nb, hnb⟩ := name_eq p.f0
  by_cases hok : nb = true ∧ (1 ≤ (p.f1.length : Int) ∧ (p.f1.length : Int) ≤ 6) ∧ (0 ≤ p.f2 ∧ p.f2 ≤ 24)
  · obtain ⟨h1, h2, h3⟩ := hok
    obtain ⟨b, hb0, hb⟩ := piece_loop p (by omega) (by omega) p.f1.length 0 (by omega) (fun j h hj => by omega)
    refine ⟨b, fun h => ⟨by omega, fun q hq => by
      obtain ⟨j, hj, rfl⟩ := List.getElem_of_mem hq
      exact hb0 h j hj⟩, fun k hk => ?_⟩
    obtain ⟨k, rfl⟩ : ∃ m, k = m + 1 := ⟨k - 1, by omega⟩
    obtain ⟨e1, e2⟩ := hnb (k + 1) (by omega)
    obtain ⟨q1, q2⟩ := hb k (by omega)
    rw [show ((0 : Nat) : Int) = 0 from rfl] at q1 q2
    unfold spec_l19Piece.f impl_validPiece.f
    rw [if_pos (by simp), r, e1, e2]
    simp only [Option.bind_some, h1, if_true, l00In_eq, within_eq, decide_eq_true h2, decide_eq_true h3, Bool.not_true, spec_l19Piece.j0, impl_validPiece.j0, Bool.false_eq_true, if_false, q1, q2]
    rw [if_neg (by omega), if_neg (by omega)]
    simp
  · refine ⟨false, (by intro h; cases h), fun k hk => ?_⟩
    obtain ⟨k, rfl⟩ : ∃ m, k = m + 1 := ⟨k - 1, by omega⟩
    obtain ⟨e1, e2⟩ := hnb (k + 1) (by omega)
    unfold spec_l19Piece.f impl_validPiece.f
    rw [if_pos (by simp), r, e1, e2]
    simp only [Option.bind_some, l00In_eq, within_eq, spec_l19Piece.j0, impl_validPiece.j0, if_true]
    cases nb with
    | false => simp
    | true =>
      by_cases h2 : 1 ≤ (p.f1.length : Int) ∧ (p.f1.length : Int) ≤ 6
      · by_cases h3 : 0 ≤ p.f2 ∧ p.f2 ≤ 24
        · exact absurd ⟨rfl, h2, h3⟩ hok
        · rw [if_pos rfl, if_neg (by omega), if_neg (by omega)]
          simp [h2, h3]
      · by_cases h4 : (p.f1.length : Int) < 1
        · rw [if_pos rfl, if_pos h4]; simp [h2]
        · rw [if_pos rfl, if_neg h4, if_pos (by omega)]; simp [h2]

theorem pieces_eq (l : List S53) (hl : l.length ≤ 1048576) : ∃ b : Bool, ∀ k, 1048576 + 400 < k → spec_l19Pieces.f k l = some b ∧ impl_ValidPieces.f k l = some b := by
  obtain ⟨f, hf⟩ : ∃ f : S53 → Bool, ∀ p k, 300 < k → spec_l19Piece.f k [p] = some (f p) ∧ impl_validPiece.f k p.f0 p.f1 p.f2 p.f3 = some (f p) := ⟨fun p => Classical.choose (piece_eq p), fun p k hk => (Classical.choose_spec (piece_eq p)).2 k hk⟩
  have key : ∀ (n i : Nat), i + n = l.length → ∃ b : Bool, ∀ k, 301 + n < k → spec_l19Pieces.l0 k l (i : Int) = some b ∧ impl_ValidPieces.l0 k l l (l.length : Int) (i : Int) = some b := by
    intro n
    induction n with
    | zero =>
      intro i hi
      refine ⟨decide ((l.length : Int) ≤ 8), fun k hk => ?_⟩
      obtain ⟨k, rfl⟩ : ∃ m, k = m + 1 := ⟨k - 1, by omega⟩
      simp only [spec_l19Pieces.l0, impl_ValidPieces.l0]
      rw [if_neg (by omega), if_neg (by omega)]
      exact ⟨rfl, rfl⟩
    | succ n ih =>
      intro i hi
      have hlt : i < l.length := by omega
      obtain ⟨b, hb⟩ := ih (i + 1) (by omega)
      refine ⟨f l[i] && ((decide (i = 0) || Op.bytesLess ((rd_T53 l ((i : Int) - 1)).f0.toList) (l[i].f0.toList)) && b), fun k hk => ?_⟩
      obtain ⟨k, rfl⟩ : ∃ m, k = m + 1 := ⟨k - 1, by omega⟩
      obtain ⟨q1, q2⟩ := hb k (by omega)
      obtain ⟨e1, e2⟩ := hf l[i] k (by omega)
      have a0 : (i : Int) < (l.length : Int) := by omega
      have a1 : (0 : Int) ≤ (i : Int) := by omega
      have a3 : wrap64 ((i : Int) + 1) = ((i + 1 : Nat) : Int) := wnat (by omega)
      have a4 : wrap64 ((i : Int) - 1) = (i : Int) - 1 := w64 (by omega) (by omega)
      constructor
      · simp only [spec_l19Pieces.l0, a0, a1, a3, a4, if_true, rd53 l i hlt, e1, q1, Option.bind_some]
        cases f l[i] with
        | false => rfl
        | true =>
          by_cases h0 : (i : Int) > 0
          · simp only [h0, if_true, show (0 : Int) ≤ (i : Int) - 1 by omega, show (i : Int) - 1 < (l.length : Int) by omega, show ¬ i = 0 by omega, decide_false, Bool.false_or, Bool.true_and]
            cases Op.bytesLess ((rd_T53 l ((i : Int) - 1)).f0.toList) (l[i].f0.toList) <;> simp
          · have hz : i = 0 := by omega
            rw [if_pos rfl, if_neg h0]
            simp [hz]
      · simp only [impl_ValidPieces.l0, a0, a1, a3, a4, if_true, rd53 l i hlt, e2, q2, Option.bind_some]
        cases f l[i] with
        | false => rfl
        | true =>
          by_cases h0 : (i : Int) > 0
          · simp only [h0, if_true, show (0 : Int) ≤ (i : Int) - 1 by omega, show (i : Int) - 1 < (l.length : Int) by omega, show ¬ i = 0 by omega, decide_false, Bool.false_or, Bool.true_and]
            cases Op.bytesLess ((rd_T53 l ((i : Int) - 1)).f0.toList) (l[i].f0.toList) <;> simp
          · have hz : i = 0 := by omega
            rw [if_pos rfl, if_neg h0]
            simp [hz]
  obtain ⟨b, hb⟩ := key l.length 0 (by omega)
  refine ⟨b, fun k hk => ?_⟩
  unfold spec_l19Pieces.f impl_ValidPieces.f
  exact hb k (by omega)

theorem FnExactValidPieces : laws_FnExactValidPieces.Pure := by
  intro l ⟨hl, hg⟩
  obtain ⟨v, e, hv⟩ := szPieceS_eq l hl hg
  obtain ⟨k, hk⟩ : ∃ k : Nat, k = 2200000 := ⟨_, rfl⟩
  refine ⟨k, ?_⟩
  unfold laws_FnExactValidPieces.f
  rw [e k (by omega)]
  simp only [Option.bind_some]
  rcases hv with hv | ⟨h1, h2⟩
  · rw [if_pos hv]
  by_cases hv : v < 0
  · rw [if_pos hv]
  have h3 : ∀ y ∈ l.map toPc, y.f1.length ≤ 1048576 := fun y hy => by
    obtain ⟨x, hx, rfl⟩ := List.mem_map.1 hy
    show (x.f1.map toPt).length ≤ 1048576
    rw [List.length_map]; exact h2 x hx
  have h4 : (l.map toPc).length ≤ 1048576 := by rw [List.length_map]; exact h1
  obtain ⟨b, hb⟩ := pieces_eq (l.map toPc) h4
  obtain ⟨q1, q2⟩ := hb k (by omega)
  rw [if_neg hv, toPieceS_eq l h1 h2 k (by omega)]
  unfold spec_ValidPieces.f
  simp only [Option.bind_some, q1, q2, bne_self_eq_false, Bool.false_eq_true, if_false, eqPieceS_eq _ h4 h3 k (by omega), if_true]

end Go.Proofs.Ytakagkflgkoiiaa.Pure

/- FnExactDryIn: the program's DryIn returns what the reference's returns, for all arguments; no condition. -/
import Derived.Test.YtjmjbmahljlnlaaGFnExactDryInx
namespace Go.Proofs.Ytjmjbmahljlnlaa.Pure
open Go.RowKit Go.Proofs.Ytjmjbmahljlnlaa.GFnExactDryIn Go.Proofs.YtjmjbmahljlnlaaW.PrintWords Go.Proofs.YtjmjbmahljlnlaaW.PrintLast
set_option linter.unusedSimpArgs false
set_option linter.unusedVariables false

theorem w64 {x : Int} (h0 : -9223372036854775808 ≤ x) (h1 : x ≤ 9223372036854775807) : wrap64 x = x := by
  unfold wrap64; omega

theorem within_eq (a b c : Int) : impl_within.f a b c = some (decide (b ≤ a ∧ a ≤ c)) := by
  unfold impl_within.f
  by_cases h : a ≥ b
  · rw [if_pos h]; simp [h]
  · rw [if_neg h]; simp; omega

theorem l00In_eq (a b c : Int) : spec_l00In.f a b c = some (decide (b ≤ a ∧ a ≤ c)) := by
  unfold spec_l00In.f
  by_cases h : a ≥ b
  · rw [if_pos h]; simp [h]
  · rw [if_neg h]; simp; omega

/-- a loop over a list: from one state to the next, or out of it -/
def run {α σ β : Type} (st : σ → α → Nat → σ ⊕ β) (en : σ → β) : List α → σ → Nat → β
  | [], s, _ => en s
  | x :: xs, s, i => match st s x i with
    | .inl s' => run st en xs s' (i + 1)
    | .inr r => r

theorem loop_run {α σ β : Type} (xs : List α) (K0 : Nat) (Inv : σ → Nat → Prop) (L : Nat → σ → Int → Option β) (st : σ → α → Nat → σ ⊕ β) (en : σ → β)
    (hs : ∀ (k : Nat) (s : σ) (i : Nat) (h : i < xs.length), K0 ≤ k → Inv s i →
      (∃ s', st s xs[i] i = .inl s' ∧ Inv s' (i + 1) ∧ L (k + 1) s (i : Int) = L k s' ((i + 1 : Nat) : Int)) ∨ (∃ r, st s xs[i] i = .inr r ∧ L (k + 1) s (i : Int) = some r))
    (he : ∀ (k : Nat) (s : σ), K0 ≤ k → Inv s xs.length → L (k + 1) s (xs.length : Int) = some (en s)) :
    ∀ (n i k : Nat) (s : σ), i + n = xs.length → K0 + n < k → Inv s i → L k s (i : Int) = some (run st en (xs.drop i) s i) := by
  intro n
  induction n with
  | zero =>
    intro i k s hi hk hI
    obtain ⟨k, rfl⟩ : ∃ m, k = m + 1 := ⟨k - 1, by omega⟩
    obtain rfl : i = xs.length := by omega
    rw [he k s (by omega) hI, List.drop_length]; rfl
  | succ n ih =>
    intro i k s hi hk hI
    obtain ⟨k, rfl⟩ : ∃ m, k = m + 1 := ⟨k - 1, by omega⟩
    have hlt : i < xs.length := by omega
    rw [List.drop_eq_getElem_cons hlt]
    rcases hs k s i hlt (by omega) hI with ⟨s', h1, h2, h3⟩ | ⟨r, h1, h3⟩
    · rw [h3, ih (i + 1) k s' (by omega) (by omega) h2]
      simp only [run, h1]
    · rw [h3]
      simp only [run, h1]

theorem loop_run0 {α σ β : Type} (xs : List α) (K0 : Nat) (Inv : σ → Nat → Prop) (L : Nat → σ → Int → Option β) (st : σ → α → Nat → σ ⊕ β) (en : σ → β)
    (hs : ∀ (k : Nat) (s : σ) (i : Nat) (h : i < xs.length), K0 ≤ k → Inv s i →
      (∃ s', st s xs[i] i = .inl s' ∧ Inv s' (i + 1) ∧ L (k + 1) s (i : Int) = L k s' ((i + 1 : Nat) : Int)) ∨ (∃ r, st s xs[i] i = .inr r ∧ L (k + 1) s (i : Int) = some r))
    (he : ∀ (k : Nat) (s : σ), K0 ≤ k → Inv s xs.length → L (k + 1) s (xs.length : Int) = some (en s)) (k : Nat) (s : σ) (hk : K0 + xs.length < k) (hI : Inv s 0) :
    L k s 0 = some (run st en xs s 0) := by
  have := loop_run xs K0 Inv L st en hs he xs.length 0 k s (by omega) hk hI
  simpa using this

/-- a row that is made and then filled, element by element -/
theorem loop_map {α β : Type} (xs : List α) (z : β) (c : α → β) (L : Nat → List β → Int → Option (List β))
    (hs : ∀ (k : Nat) (s : List β) (i : Nat) (h : i < xs.length), s.length = xs.length → L (k + 1) s (i : Int) = L k (s.set i (c xs[i])) ((i + 1 : Nat) : Int))
    (he : ∀ (k : Nat) (s : List β), L (k + 1) s (xs.length : Int) = some s) (k : Nat) (hk : xs.length < k) :
    L k (List.replicate xs.length z) 0 = some (xs.map c) := by
  have key : ∀ (n i k : Nat) (s : List β), i + n = xs.length → n < k → s.length = xs.length → s.take i = (xs.map c).take i → L k s (i : Int) = some (xs.map c) := by
    intro n
    induction n with
    | zero =>
      intro i k s hi hk hl ht
      obtain ⟨k, rfl⟩ : ∃ m, k = m + 1 := ⟨k - 1, by omega⟩
      obtain rfl : i = xs.length := by omega
      have h1 : s.take xs.length = s := List.take_of_length_le (by omega)
      rw [he, ← h1, ht, List.take_of_length_le (by simp)]
    | succ n ih =>
      intro i k s hi hk hl ht
      obtain ⟨k, rfl⟩ : ∃ m, k = m + 1 := ⟨k - 1, by omega⟩
      have hlt : i < xs.length := by omega
      rw [hs k s i hlt hl]
      refine ih (i + 1) k _ (by omega) (by omega) (by rw [List.length_set]; exact hl) ?_
      rw [List.take_succ_eq_append_getElem (by rw [List.length_set]; omega), List.take_succ_eq_append_getElem (by rw [List.length_map]; omega), List.take_set_of_le (by omega), ht]
      simp
  have := key xs.length 0 k (List.replicate xs.length z) (by omega) hk (by simp) (by simp)
  simpa using this

theorem wnat {n : Nat} (h : n < 9223372036854775807) : wrap64 ((n : Int) + 1) = ((n + 1 : Nat) : Int) := by
  unfold wrap64; omega

theorem loop_all {β : Type} (n K0 : Nat) (L : Nat → Int → Option β) (r : β) (hs : ∀ (k i : Nat), K0 ≤ k → i < n → L (k + 1) (i : Int) = L k ((i + 1 : Nat) : Int)) (he : ∀ k : Nat, L (k + 1) (n : Int) = some r)
    (k : Nat) (hk : K0 + n < k) : L k 0 = some r := by
  have key : ∀ (m i k : Nat), i + m = n → K0 + m < k → L k (i : Int) = some r := by
    intro m
    induction m with
    | zero =>
      intro i k hi hk
      obtain ⟨k, rfl⟩ : ∃ m, k = m + 1 := ⟨k - 1, by omega⟩
      obtain rfl : i = n := by omega
      exact he k
    | succ m ih =>
      intro i k hi hk
      obtain ⟨k, rfl⟩ : ∃ m, k = m + 1 := ⟨k - 1, by omega⟩
      rw [hs k i (by omega) (by omega)]
      exact ih (i + 1) k (by omega) (by omega)
  simpa using key n 0 k (by omega) hk

theorem bt_byte (s : ByteArray) (i : Int) : 0 ≤ bt s i ∧ bt s i ≤ 255 := by
  unfold bt
  split
  · have := (s[i.toNat]'(by assumption)).toNat_lt; omega
  · omega

/-- a letter or a digit of a name -/
def nmC (c : Int) : Bool := decide (97 ≤ c ∧ c ≤ 122 ∨ 48 ≤ c ∧ c ≤ 57)

theorem nil_iff (s : ByteArray) : s.toList = [] ↔ s.size = 0 := by
  rw [ByteArray.toList_eq]
  constructor
  · intro h
    have : s.data.toList.length = 0 := by rw [h]; rfl
    rw [Array.length_toList] at this; exact this
  · intro h
    apply List.eq_nil_of_length_eq_zero
    rw [Array.length_toList]; exact h

theorem small_eq (c : Int) : spec_l01Small.f c = some (decide (97 ≤ c ∧ c ≤ 122)) := by
  unfold spec_l01Small.f
  by_cases h : c ≥ 97
  · rw [if_pos h]; simp [h]
  · rw [if_neg h]; simp; omega
theorem digit_eq (c : Int) : spec_l01Digit.f c = some (decide (48 ≤ c ∧ c ≤ 57)) := by
  unfold spec_l01Digit.f
  by_cases h : c ≥ 48
  · rw [if_pos h]; simp [h]
  · rw [if_neg h]; simp; omega

theorem name_loop (s : ByteArray) (hs : s.size ≤ 10) : ∀ (n i k : Nat), i + n = s.size → n < k →
    ∃ b, spec_l01Name.l0 k s (i : Int) = some b ∧ impl_IsName.l0 k s (i : Int) = some b := by
  intro n
  induction n with
  | zero =>
    intro i k hi hk
    obtain ⟨k, rfl⟩ : ∃ m, k = m + 1 := ⟨k - 1, by omega⟩
    simp only [spec_l01Name.l0, impl_IsName.l0]
    exact ⟨true, by rw [if_neg (by omega)], by rw [if_neg (by omega)]⟩
  | succ n ih =>
    intro i k hi hk
    obtain ⟨k, rfl⟩ : ∃ m, k = m + 1 := ⟨k - 1, by omega⟩
    obtain ⟨b, e1, e2⟩ := ih (i + 1) k (by omega) (by omega)
    have hw : wrap64 ((i : Int) + 1) = ((i + 1 : Nat) : Int) := wnat (by omega)
    have a1 : (i : Int) < (s.size : Int) := by omega
    have a2 : (0 : Int) ≤ (i : Int) := by omega
    simp only [spec_l01Name.l0, impl_IsName.l0, small_eq, digit_eq, Option.bind_some, decide_eq_true_eq, a1, a2, if_true, hw, e1, e2]
    generalize bt s (i : Int) = c
    by_cases h1 : c < 97
    · by_cases h2 : c < 48
      · exact ⟨false, by simp [h1, h2, show ¬ (97 ≤ c ∧ c ≤ 122) by omega, show ¬ (48 ≤ c ∧ c ≤ 57) by omega], by simp [h1, h2]⟩
      · by_cases h3 : c > 57
        · exact ⟨false, by simp [show ¬ (97 ≤ c ∧ c ≤ 122) by omega, show ¬ (48 ≤ c ∧ c ≤ 57) by omega], by simp [h1, h2, h3]⟩
        · exact ⟨b, by simp [show ¬ (97 ≤ c ∧ c ≤ 122) by omega, show (48 ≤ c ∧ c ≤ 57) by omega], by simp [h1, h2, h3]⟩
    · by_cases h4 : c > 122
      · exact ⟨false, by simp [show ¬ (97 ≤ c ∧ c ≤ 122) by omega, show ¬ (48 ≤ c ∧ c ≤ 57) by omega], by simp [h1, h4, show ¬ (c < 48) by omega, show c > 57 by omega]⟩
      · exact ⟨b, by simp [show (97 ≤ c ∧ c ≤ 122) by omega], by simp [h1, h4]⟩

theorem name_eq (s : ByteArray) : ∃ b : Bool, (∀ k, 13 ≤ k → spec_l01Name.f k s = some b ∧ impl_IsName.f k s = some b) := by
  have fin : ∃ b : Bool, spec_l01Name.f 13 s = some b ∧ impl_IsName.f 13 s = some b := by
    unfold spec_l01Name.f impl_IsName.f
    by_cases h0 : s.size = 0
    · exact ⟨false, by simp [(nil_iff s).2 h0, spec_l01Name.j0], by simp [show (s.size : Int) < 1 by omega, impl_IsName.j0]⟩
    · have n0 : ¬ s.toList = [] := fun h => h0 ((nil_iff s).1 h)
      have n1 : ¬ (s.size : Int) < 1 := by omega
      by_cases h1 : (s.size : Int) > 10
      · exact ⟨false, by simp [n0, h1, spec_l01Name.j0], by simp [n1, h1, impl_IsName.j0]⟩
      · have n2 : (0 : Int) < (s.size : Int) := by omega
        simp only [n0, n1, h1, n2, if_true, if_false, small_eq, Option.bind_some]
        obtain ⟨b, e1, e2⟩ := name_loop s (by omega) s.size 0 12 (by omega) (by omega)
        have e1' : spec_l01Name.l0 12 s 0 = some b := e1
        have e2' : impl_IsName.l0 12 s 0 = some b := e2
        generalize bt s 0 = c
        by_cases h2 : c < 97
        · exact ⟨false, by simp [spec_l01Name.j0, show ¬ (97 ≤ c ∧ c ≤ 122) by omega], by simp [impl_IsName.j0, h2]⟩
        · by_cases h3 : c > 122
          · exact ⟨false, by simp [spec_l01Name.j0, show ¬ (97 ≤ c ∧ c ≤ 122) by omega], by simp [impl_IsName.j0, h2, h3]⟩
          · exact ⟨b, by simp [spec_l01Name.j0, show (97 ≤ c ∧ c ≤ 122) by omega, e1'], by simp [impl_IsName.j0, h2, show ¬ (c > 122) by omega, e2']⟩
  obtain ⟨b, e1, e2⟩ := fin
  exact ⟨b, fun k hk => ⟨at_rounds (g := fun k => spec_l01Name.f k s) (fun k => spec_l01Name.mono s k) hk e1, at_rounds (g := fun k => impl_IsName.f k s) (fun k => impl_IsName.mono s k) hk e2⟩⟩

/-- of a coat both say the same; and what a coat is that is valid -/
theorem coat_eq (s : ByteArray) (x y z : Int) : ∃ b : Bool, (∀ k, 13 ≤ k → spec_l22One.f k [(⟨s, x, y, z⟩ : S29)] = some b ∧ impl_ValidCoat.f k s x y z = some b) ∧ (b = true → 1 ≤ x ∧ x ≤ 32 ∧ 0 ≤ y ∧ y ≤ 400 ∧ y ≤ z ∧ z ≤ 800) := by
  obtain ⟨b, hb⟩ := name_eq s
  have r : rd_T29 [(⟨s, x, y, z⟩ : S29)] 0 = ⟨s, x, y, z⟩ := rfl
  refine ⟨b && decide (1 ≤ x ∧ x ≤ 32) && decide (0 ≤ y ∧ y ≤ 400) && decide (y ≤ z ∧ z ≤ 800), fun k hk => ?_, ?_⟩
  · obtain ⟨e1, e2⟩ := hb k hk
    unfold spec_l22One.f impl_ValidCoat.f
    rw [if_pos (by simp), r]
    simp only [e1, e2, within_eq, l00In_eq, Option.bind_some]
    by_cases g1 : 1 ≤ x ∧ x ≤ 32 <;> by_cases g2 : 0 ≤ y ∧ y ≤ 400 <;> by_cases g3 : y ≤ z ∧ z ≤ 800 <;> cases b <;> simp [g1, g2, g3]
  · simp only [Bool.and_eq_true, decide_eq_true_eq]
    intro h; omega

/-- the nearest quotient, halves away from 0 -/
def rdiv (a b : Int) : Int := if a < 0 then -((b - 2 * a) / (2 * b)) else (2 * a + b) / (2 * b)

theorem half_up {x b : Int} (hb : 0 < b) : (2 * x + b) / (2 * b) = if x % b ≥ b - x % b then x / b + 1 else x / b := by
  have hx := Int.mul_ediv_add_emod x b
  have hr0 := Int.emod_nonneg x (show b ≠ 0 by omega)
  have hr1 := Int.emod_lt_of_pos x hb
  generalize hq : x / b = q at *
  generalize hr : x % b = r at *
  have key : ∀ c : Int, c * (2 * b) ≤ 2 * x + b → 2 * x + b < (c + 1) * (2 * b) → (2 * x + b) / (2 * b) = c := by
    intro c h1 h2
    apply Int.le_antisymm
    · exact Int.lt_add_one_iff.1 ((Int.ediv_lt_iff_lt_mul (by omega)).2 h2)
    · exact (Int.le_ediv_iff_mul_le (by omega)).2 h1
  have e0 : q * (2 * b) = 2 * (b * q) := by rw [Int.mul_comm q, Int.mul_assoc]
  have e1 : (q + 1) * (2 * b) = 2 * (b * q) + 2 * b := by rw [Int.add_mul, e0]; omega
  have e2 : (q + 1 + 1) * (2 * b) = 2 * (b * q) + 2 * b + 2 * b := by rw [Int.add_mul, e1]; omega
  generalize b * q = p at *
  split
  · apply key
    · rw [e1]; omega
    · rw [e2]; omega
  · apply key
    · rw [e0]; omega
    · rw [e1]; omega

theorem l01Div_eq {a b : Int} (ha : -1000000000000000000 ≤ a) (ha2 : a ≤ 1000000000000000000) (hb : 0 < b) (hb2 : b ≤ 1000000000000) : spec_l01Div.f a b = some (rdiv a b) := by
  unfold spec_l01Div.f rdiv
  rw [if_neg (by omega)]
  by_cases h : a < 0
  · have d0 : 0 ≤ (b - 2 * a) / (2 * b) := Int.ediv_nonneg (by omega) (by omega)
    have d1 : (b - 2 * a) / (2 * b) ≤ b - 2 * a := Int.ediv_le_self _ (by omega)
    rw [if_pos h, if_pos h, w64 (x := 2 * b) (by omega) (by omega), if_neg (by omega), w64 (x := 2 * a) (by omega) (by omega), w64 (x := b - 2 * a) (by omega) (by omega), Int.tdiv_eq_ediv_of_nonneg (by omega), w64 (x := (b - 2 * a) / (2 * b)) (by omega) (by omega), w64 (by omega) (by omega)]
  · have d0 : 0 ≤ (2 * a + b) / (2 * b) := Int.ediv_nonneg (by omega) (by omega)
    have d1 : (2 * a + b) / (2 * b) ≤ 2 * a + b := Int.ediv_le_self _ (by omega)
    rw [if_neg h, if_neg h, w64 (x := 2 * b) (by omega) (by omega), if_neg (by omega), w64 (x := 2 * a) (by omega) (by omega), w64 (x := 2 * a + b) (by omega) (by omega), Int.tdiv_eq_ediv_of_nonneg (by omega), w64 (by omega) (by omega)]

theorem nearest_eq {a b : Int} (ha : -1000000000000000000 ≤ a) (ha2 : a ≤ 1000000000000000000) (hb : 0 < b) (hb2 : b ≤ 1000000000000) : impl_nearest.f a b = some (rdiv a b) := by
  have hm : mx b (wrap64 (-b)) = b := by rw [w64 (by omega) (by omega)]; unfold mx; rw [if_neg (by omega)]
  unfold impl_nearest.f rdiv
  rw [if_neg (by omega), hm, if_neg (by omega)]
  by_cases h : a < 0
  · have hx : mx a (wrap64 (-a)) = -a := by rw [w64 (by omega) (by omega)]; unfold mx; rw [if_pos (by omega)]
    have hh := half_up (x := -a) hb
    have d0 : 0 ≤ (-a) / b := Int.ediv_nonneg (by omega) (by omega)
    have d1 : (-a) / b ≤ -a := Int.ediv_le_self _ (by omega)
    have hr0 := Int.emod_nonneg (-a) (show b ≠ 0 by omega)
    have hr1 := Int.emod_lt_of_pos (-a) hb
    rw [hx, if_pos h, show b - 2 * a = 2 * -a + b by omega, hh, Int.tmod_eq_emod_of_nonneg (by omega), Int.tdiv_eq_ediv_of_nonneg (by omega), w64 (x := b - -a % b) (by omega) (by omega), w64 (x := -a / b) (by omega) (by omega)]
    have hc : (decide (a < 0) != decide (b < 0)) = true := by simp [h]; omega
    by_cases g : -a % b ≥ b - -a % b
    · rw [if_pos g, if_pos hc, if_pos g, w64 (x := -a / b + 1) (by omega) (by omega), w64 (by omega) (by omega)]
    · rw [if_neg g, if_pos hc, if_neg g, w64 (by omega) (by omega)]
  · have hx : mx a (wrap64 (-a)) = a := by rw [w64 (by omega) (by omega)]; unfold mx; rw [if_neg (by omega)]
    have hh := half_up (x := a) hb
    have d0 : 0 ≤ a / b := Int.ediv_nonneg (by omega) (by omega)
    have d1 : a / b ≤ a := Int.ediv_le_self _ (by omega)
    have hr0 := Int.emod_nonneg a (show b ≠ 0 by omega)
    have hr1 := Int.emod_lt_of_pos a hb
    rw [hx, if_neg h, hh, Int.tmod_eq_emod_of_nonneg (by omega), Int.tdiv_eq_ediv_of_nonneg (by omega), w64 (x := b - a % b) (by omega) (by omega), w64 (x := a / b) (by omega) (by omega)]
    have hc : ¬ (decide (a < 0) != decide (b < 0)) = true := by simp [h]; omega
    by_cases g : a % b ≥ b - a % b
    · rw [if_pos g, if_neg hc, if_pos g, w64 (x := a / b + 1) (by omega) (by omega)]
    · rw [if_neg g, if_neg hc, if_neg g]

theorem rdiv_bounds {a b m : Int} (hb : 0 < b) (h0 : -m ≤ a) (h1 : a ≤ m) : -(m + 1) ≤ rdiv a b ∧ rdiv a b ≤ m + 1 := by
  unfold rdiv
  have aux : ∀ x : Int, 0 ≤ x → x ≤ m → 0 ≤ (2 * x + b) / (2 * b) ∧ (2 * x + b) / (2 * b) ≤ m + 1 := by
    intro x hx hxm
    rw [half_up hb]
    have d0 : 0 ≤ x / b := Int.ediv_nonneg (by omega) (by omega)
    have d1 : x / b ≤ x := Int.ediv_le_self _ (by omega)
    split <;> omega
  split
  · have := aux (-a) (by omega) (by omega)
    rw [show b - 2 * a = 2 * -a + b by omega]
    omega
  · have := aux a (by omega) (by omega)
    omega

theorem FnExactDryIn : laws_FnExactDryIn.Pure := by
  intro s x y z h ⟨hs, _⟩ _
  refine ⟨13, ?_⟩
  unfold laws_FnExactDryIn.f
  have hsz : ∃ v, laws_szCoat.f s x y z 1048576 = some v := by
    unfold laws_szCoat.f; split <;> exact ⟨_, rfl⟩
  obtain ⟨v, hv⟩ := hsz
  rw [hv]
  simp only [Option.bind_some]
  by_cases h1 : v < 0
  · rw [if_pos h1]
  rw [if_neg h1]
  unfold laws_toCoat.f spec_DryIn.f impl_DryIn.f spec_l20Humidity.f
  simp only [Option.bind_some]
  obtain ⟨b, hb, hv⟩ := coat_eq s x y z
  obtain ⟨e1, e2⟩ := hb 13 (Nat.le_refl _)
  rw [e1, e2]
  simp only [Option.bind_some, within_eq, l00In_eq]
  cases b with
  | false => simp
  | true =>
    obtain ⟨g0, g1, g2, g3, g4, g5⟩ := hv rfl
    by_cases g : 0 ≤ h ∧ h ≤ 100
    · have m0 : 0 ≤ y * (50 + h) := Int.mul_nonneg g2 (by omega)
      have m1 : y * (50 + h) ≤ 400 * 150 := Int.mul_le_mul g3 (by omega) (by omega) (by omega)
      rw [w64 (x := 50 + h) (by omega) (by omega), w64 (x := y * (50 + h)) (by omega) (by omega), l01Div_eq (by omega) (by omega) (by omega) (by omega), nearest_eq (by omega) (by omega) (by omega) (by omega)]
      simp [g]
    · simp [g]

end Go.Proofs.Ytjmjbmahljlnlaa.Pure

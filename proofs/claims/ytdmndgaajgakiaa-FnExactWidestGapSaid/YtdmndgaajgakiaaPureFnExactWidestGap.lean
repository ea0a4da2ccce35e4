/- FnExactWidestGap: the program's WidestGap returns what the reference's returns, for all arguments; no condition. -/
import Derived.Test.YtdmndgaajgakiaaGFnExactWidestGapx
namespace Go.Proofs.Ytdmndgaajgakiaa.Pure
open Go.RowKit Go.Proofs.Ytdmndgaajgakiaa.GFnExactWidestGap Go.Proofs.YtdmndgaajgakiaaW.PrintWords Go.Proofs.YtdmndgaajgakiaaW.PrintLast
set_option linter.unusedSimpArgs false
set_option linter.unusedVariables false

theorem w64 {x : Int} (h0 : -9223372036854775808 ≤ x) (h1 : x ≤ 9223372036854775807) : wrap64 x = x := by
  unfold wrap64; omega

theorem within_eq (a b c : Int) : impl_within.f a b c = some (decide (b ≤ a ∧ a ≤ c)) := by
  unfold impl_within.f
  by_cases h : a ≥ b
  · rw [if_pos h]; simp [h]
  · rw [if_neg h]; simp; omega

theorem l00In_eq (a b c : Int) : spec_l00In.f a b c = some (decide (b ≤ a ∧ a ≤ c)) := by
  unfold spec_l00In.f
  by_cases h : a ≥ b
  · rw [if_pos h]; simp [h]
  · rw [if_neg h]; simp; omega

/-- a loop over a list: from one state to the next, or out of it -/
def run {α σ β : Type} (st : σ → α → Nat → σ ⊕ β) (en : σ → β) : List α → σ → Nat → β
  | [], s, _ => en s
  | x :: xs, s, i => match st s x i with
    | .inl s' => run st en xs s' (i + 1)
    | .inr r => r

theorem loop_run {α σ β : Type} (xs : List α) (K0 : Nat) (Inv : σ → Nat → Prop) (L : Nat → σ → Int → Option β) (st : σ → α → Nat → σ ⊕ β) (en : σ → β)
    (hs : ∀ (k : Nat) (s : σ) (i : Nat) (h : i < xs.length), K0 ≤ k → Inv s i →
      (∃ s', st s xs[i] i = .inl s' ∧ Inv s' (i + 1) ∧ L (k + 1) s (i : Int) = L k s' ((i + 1 : Nat) : Int)) ∨ (∃ r, st s xs[i] i = .inr r ∧ L (k + 1) s (i : Int) = some r))
    (he : ∀ (k : Nat) (s : σ), K0 ≤ k → Inv s xs.length → L (k + 1) s (xs.length : Int) = some (en s)) :
    ∀ (n i k : Nat) (s : σ), i + n = xs.length → K0 + n < k → Inv s i → L k s (i : Int) = some (run st en (xs.drop i) s i) := by
  intro n
  induction n with
  | zero =>
    intro i k s hi hk hI
    obtain ⟨k, rfl⟩ : ∃ m, k = m + 1 := ⟨k - 1, by omega⟩
    obtain rfl : i = xs.length := by omega
    rw [he k s (by omega) hI, List.drop_length]; rfl
  | succ n ih =>
    intro i k s hi hk hI
    obtain ⟨k, rfl⟩ : ∃ m, k = m + 1 := ⟨k - 1, by omega⟩
    have hlt : i < xs.length := by omega
    rw [List.drop_eq_getElem_cons hlt]
    rcases hs k s i hlt (by omega) hI with ⟨s', h1, h2, h3⟩ | ⟨r, h1, h3⟩
    · rw [h3, ih (i + 1) k s' (by omega) (by omega) h2]
      simp only [run, h1]
    · rw [h3]
      simp only [run, h1]

theorem loop_run0 {α σ β : Type} (xs : List α) (K0 : Nat) (Inv : σ → Nat → Prop) (L : Nat → σ → Int → Option β) (st : σ → α → Nat → σ ⊕ β) (en : σ → β)
    (hs : ∀ (k : Nat) (s : σ) (i : Nat) (h : i < xs.length), K0 ≤ k → Inv s i →
      (∃ s', st s xs[i] i = .inl s' ∧ Inv s' (i + 1) ∧ L (k + 1) s (i : Int) = L k s' ((i + 1 : Nat) : Int)) ∨ (∃ r, st s xs[i] i = .inr r ∧ L (k + 1) s (i : Int) = some r))
    (he : ∀ (k : Nat) (s : σ), K0 ≤ k → Inv s xs.length → L (k + 1) s (xs.length : Int) = some (en s)) (k : Nat) (s : σ) (hk : K0 + xs.length < k) (hI : Inv s 0) :
    L k s 0 = some (run st en xs s 0) := by
  have := loop_run xs K0 Inv L st en hs he xs.length 0 k s (by omega) hk hI
  simpa using this

/-- a row that is made and then filled, element by element -/
theorem loop_map {α β : Type} (xs : List α) (z : β) (c : α → β) (L : Nat → List β → Int → Option (List β))
    (hs : ∀ (k : Nat) (s : List β) (i : Nat) (h : i < xs.length), s.length = xs.length → L (k + 1) s (i : Int) = L k (s.set i (c xs[i])) ((i + 1 : Nat) : Int))
    (he : ∀ (k : Nat) (s : List β), L (k + 1) s (xs.length : Int) = some s) (k : Nat) (hk : xs.length < k) :
    L k (List.replicate xs.length z) 0 = some (xs.map c) := by
  have key : ∀ (n i k : Nat) (s : List β), i + n = xs.length → n < k → s.length = xs.length → s.take i = (xs.map c).take i → L k s (i : Int) = some (xs.map c) := by
    intro n
    induction n with
    | zero =>
      intro i k s hi hk hl ht
      obtain ⟨k, rfl⟩ : ∃ m, k = m + 1 := ⟨k - 1, by omega⟩
      obtain rfl : i = xs.length := by omega
      have h1 : s.take xs.length = s := List.take_of_length_le (by omega)
      rw [he, ← h1, ht, List.take_of_length_le (by simp)]
    | succ n ih =>
      intro i k s hi hk hl ht
      obtain ⟨k, rfl⟩ : ∃ m, k = m + 1 := ⟨k - 1, by omega⟩
      have hlt : i < xs.length := by omega
      rw [hs k s i hlt hl]
      refine ih (i + 1) k _ (by omega) (by omega) (by rw [List.length_set]; exact hl) ?_
      rw [List.take_succ_eq_append_getElem (by rw [List.length_set]; omega), List.take_succ_eq_append_getElem (by rw [List.length_map]; omega), List.take_set_of_le (by omega), ht]
      simp
  have := key xs.length 0 k (List.replicate xs.length z) (by omega) hk (by simp) (by simp)
  simpa using this

theorem wnat {n : Nat} (h : n < 9223372036854775807) : wrap64 ((n : Int) + 1) = ((n + 1 : Nat) : Int) := by
  unfold wrap64; omega

theorem loop_all {β : Type} (n K0 : Nat) (L : Nat → Int → Option β) (r : β) (hs : ∀ (k i : Nat), K0 ≤ k → i < n → L (k + 1) (i : Int) = L k ((i + 1 : Nat) : Int)) (he : ∀ k : Nat, L (k + 1) (n : Int) = some r)
    (k : Nat) (hk : K0 + n < k) : L k 0 = some r := by
  have key : ∀ (m i k : Nat), i + m = n → K0 + m < k → L k (i : Int) = some r := by
    intro m
    induction m with
    | zero =>
      intro i k hi hk
      obtain ⟨k, rfl⟩ : ∃ m, k = m + 1 := ⟨k - 1, by omega⟩
      obtain rfl : i = n := by omega
      exact he k
    | succ m ih =>
      intro i k hi hk
      obtain ⟨k, rfl⟩ : ∃ m, k = m + 1 := ⟨k - 1, by omega⟩
      rw [hs k i (by omega) (by omega)]
      exact ih (i + 1) k (by omega) (by omega)
  simpa using key n 0 k (by omega) hk

theorem all_from {α β : Type} (xs : List α) (K0 : Nat) (p : α → Bool) (r0 r1 : β) (L : Nat → Int → Option β)
    (hs : ∀ (k i : Nat) (h : i < xs.length), K0 ≤ k → L (k + 1) (i : Int) = if p xs[i] = true then L k ((i + 1 : Nat) : Int) else some r0)
    (he : ∀ k : Nat, K0 ≤ k → L (k + 1) (xs.length : Int) = some r1) : ∀ (n i k : Nat), i + n = xs.length → K0 + n < k → L k (i : Int) = some (if (xs.drop i).all p = true then r1 else r0) := by
  intro n
  induction n with
  | zero =>
    intro i k hi hk
    obtain ⟨k, rfl⟩ : ∃ m, k = m + 1 := ⟨k - 1, by omega⟩
    obtain rfl : i = xs.length := by omega
    rw [he k (by omega), List.drop_length]; rfl
  | succ n ih =>
    intro i k hi hk
    obtain ⟨k, rfl⟩ : ∃ m, k = m + 1 := ⟨k - 1, by omega⟩
    have hlt : i < xs.length := by omega
    rw [hs k i hlt (by omega), List.drop_eq_getElem_cons hlt, List.all_cons]
    cases hp : p xs[i] with
    | true => rw [if_pos rfl, ih (i + 1) k (by omega) (by omega), Bool.true_and]
    | false => simp

theorem all_loop {α β : Type} (xs : List α) (K0 : Nat) (p : α → Bool) (r0 r1 : β) (L : Nat → Int → Option β)
    (hs : ∀ (k i : Nat) (h : i < xs.length), K0 ≤ k → L (k + 1) (i : Int) = if p xs[i] = true then L k ((i + 1 : Nat) : Int) else some r0)
    (he : ∀ k : Nat, K0 ≤ k → L (k + 1) (xs.length : Int) = some r1) (k : Nat) (hk : K0 + xs.length < k) : L k 0 = some (if xs.all p = true then r1 else r0) := by
  simpa using all_from xs K0 p r0 r1 L hs he xs.length 0 k (by omega) hk

theorem idx_from {α : Type} (xs : List α) (K0 : Nat) (q : α → Bool) (L : Nat → Int → Option Int)
    (hs : ∀ (k i : Nat) (h : i < xs.length), K0 ≤ k → L (k + 1) (i : Int) = if q xs[i] = true then some (i : Int) else L k ((i + 1 : Nat) : Int))
    (he : ∀ k : Nat, K0 ≤ k → L (k + 1) (xs.length : Int) = some (-1)) : ∀ (n i k : Nat), i + n = xs.length → K0 + n < k → ∃ r, L k (i : Int) = some r ∧ decide (r ≥ 0) = (xs.drop i).any q := by
  intro n
  induction n with
  | zero =>
    intro i k hi hk
    obtain ⟨k, rfl⟩ : ∃ m, k = m + 1 := ⟨k - 1, by omega⟩
    obtain rfl : i = xs.length := by omega
    exact ⟨-1, he k (by omega), by rw [List.drop_length]; rfl⟩
  | succ n ih =>
    intro i k hi hk
    obtain ⟨k, rfl⟩ : ∃ m, k = m + 1 := ⟨k - 1, by omega⟩
    have hlt : i < xs.length := by omega
    rw [hs k i hlt (by omega), List.drop_eq_getElem_cons hlt, List.any_cons]
    cases hp : q xs[i] with
    | true => exact ⟨i, by rw [if_pos rfl], by simp⟩
    | false =>
      obtain ⟨r, h1, h2⟩ := ih (i + 1) k (by omega) (by omega)
      exact ⟨r, by rw [if_neg (by simp)]; exact h1, by rw [h2]; simp⟩

theorem idx_loop {α : Type} (xs : List α) (K0 : Nat) (q : α → Bool) (L : Nat → Int → Option Int)
    (hs : ∀ (k i : Nat) (h : i < xs.length), K0 ≤ k → L (k + 1) (i : Int) = if q xs[i] = true then some (i : Int) else L k ((i + 1 : Nat) : Int))
    (he : ∀ k : Nat, K0 ≤ k → L (k + 1) (xs.length : Int) = some (-1)) (k : Nat) (hk : K0 + xs.length < k) : ∃ r, L k 0 = some r ∧ decide (r ≥ 0) = xs.any q := by
  simpa using idx_from xs K0 q L hs he xs.length 0 k (by omega) hk

theorem any_not {α : Type} (l : List α) (p : α → Bool) : l.any (fun x => !p x) = !l.all p := by
  induction l with
  | nil => rfl
  | cons x l ih => rw [List.any_cons, List.all_cons, ih]; cases p x <;> simp

def fnd (x : List UInt8) : List ByteArray → Int → Int
  | [], _ => -1
  | y :: ys, i => if y.toList = x then i else fnd x ys (i + 1)

theorem find_l0 (x : ByteArray) (xs : List ByteArray) (hl : xs.length ≤ 1000) : ∀ (n : Nat) (k i : Nat), i + n = xs.length → n < k →
    spec_l07Find.l0 k x xs (i : Int) = some (fnd x.toList (xs.drop i) i) := by
  intro n
  induction n with
  | zero =>
    intro k i hi hk
    obtain ⟨k, rfl⟩ : ∃ m, k = m + 1 := ⟨k - 1, by omega⟩
    simp only [spec_l07Find.l0]
    rw [if_neg (by omega), List.drop_of_length_le (by omega)]; rfl
  | succ n ih =>
    intro k i hi hk
    obtain ⟨k, rfl⟩ : ∃ m, k = m + 1 := ⟨k - 1, by omega⟩
    simp only [spec_l07Find.l0]
    rw [if_pos (by omega), if_pos (by omega), List.drop_eq_getElem_cons (show i < xs.length by omega)]
    have hr : rdOf ByteArray.empty xs (i : Int) = xs[i]'(by omega) := by
      unfold rdOf; simp [List.getD, show i < xs.length by omega]
    rw [hr]
    by_cases h : (xs[i]'(by omega)).toList = x.toList
    · rw [if_pos h]; simp [fnd, h]
    · rw [if_neg h]
      have h2 := ih k (i + 1) (by omega) (by omega)
      rw [w64 (by omega) (by omega), show ((i : Int) + 1) = ((i + 1 : Nat) : Int) by omega, h2]
      simp [fnd, h]

theorem lit_toList (l : Array UInt8) : (⟨l⟩ : ByteArray).toList = l.toList := ByteArray.toList_eq _

/-- what the name of a species tells: the reference's place of it, and the program's data -/
def Known (x : List UInt8) : Prop := x = [97, 115, 104] ∨ x = [98, 101, 101, 99, 104] ∨ x = [98, 105, 114, 99, 104] ∨ x = [99, 104, 101, 114, 114, 121] ∨ x = [101, 98, 111, 110, 121] ∨ x = [104, 111, 108, 108, 121] ∨ x = [109, 97, 112, 108, 101] ∨ x = [111, 97, 107] ∨ x = [114, 111, 115, 101, 119, 111, 111, 100] ∨ x = [119, 97, 108, 110, 117, 116]

theorem find_eq (k : Nat) (hk : 11 ≤ k) (a : ByteArray) : ∃ l : List ByteArray, spec_l07Names.f = some l ∧ spec_l07Find.f k a = some (fnd a.toList l 0) := by
  refine ⟨_, rfl, ?_⟩
  unfold spec_l07Find.f spec_l07Names.f
  simp only [Option.bind_some]
  exact find_l0 a _ (by simp) 10 k 0 rfl (by omega)

theorem species (a : ByteArray) : (∃ i h : Int, ∃ s w : Int, 0 ≤ i ∧ i < 10 ∧ 33 ≤ h ∧ h ≤ 85 ∧ 200 ≤ w ∧ w ≤ 500 ∧ (∀ k, 11 ≤ k → spec_l07Find.f k a = some i) ∧ impl_SpeciesData.f a = some (s, h, w, 0) ∧ (spec_l07Table.f).bind (fun t => some (rd_L4 t i)) = some [s, h, w]) ∨
    ((∀ k, 11 ≤ k → spec_l07Find.f k a = some (-1)) ∧ impl_SpeciesData.f a = some (0, 0, 0, 3)) := by
  obtain ⟨l, hl, _⟩ := find_eq 11 (Nat.le_refl _) a
  have hf : ∀ k, 11 ≤ k → spec_l07Find.f k a = some (fnd a.toList l 0) := fun k hk => by
    obtain ⟨l', hl', h⟩ := find_eq k hk a
    rw [hl] at hl'; cases hl'; exact h
  unfold spec_l07Names.f at hl
  cases hl
  generalize hx : a.toList = x at *
  unfold impl_SpeciesData.f
  rw [hx]
  by_cases h : Known x
  · left
    rcases h with h | h | h | h | h | h | h | h | h | h <;> subst h
    · exact ⟨0, 40, 20, 310, by decide, by decide, by decide, by decide, by decide, by decide, fun k hk => (hf k hk).trans (by simp [fnd, lit_toList]), rfl, by first | trivial | rfl⟩
    · exact ⟨1, 45, 35, 410, by decide, by decide, by decide, by decide, by decide, by decide, fun k hk => (hf k hk).trans (by simp [fnd, lit_toList]), rfl, by first | trivial | rfl⟩
    · exact ⟨2, 33, 15, 280, by decide, by decide, by decide, by decide, by decide, by decide, fun k hk => (hf k hk).trans (by simp [fnd, lit_toList]), rfl, by first | trivial | rfl⟩
    · exact ⟨3, 36, 50, 240, by decide, by decide, by decide, by decide, by decide, by decide, fun k hk => (hf k hk).trans (by simp [fnd, lit_toList]), rfl, by first | trivial | rfl⟩
    · exact ⟨4, 85, 95, 270, by decide, by decide, by decide, by decide, by decide, by decide, fun k hk => (hf k hk).trans (by simp [fnd, lit_toList]), rfl, by first | trivial | rfl⟩
    · exact ⟨5, 35, 5, 370, by decide, by decide, by decide, by decide, by decide, by decide, fun k hk => (hf k hk).trans (by simp [fnd, lit_toList]), rfl, by first | trivial | rfl⟩
    · exact ⟨6, 42, 10, 290, by decide, by decide, by decide, by decide, by decide, by decide, fun k hk => (hf k hk).trans (by simp [fnd, lit_toList]), rfl, by first | trivial | rfl⟩
    · exact ⟨7, 40, 40, 330, by decide, by decide, by decide, by decide, by decide, by decide, fun k hk => (hf k hk).trans (by simp [fnd, lit_toList]), rfl, by first | trivial | rfl⟩
    · exact ⟨8, 60, 80, 220, by decide, by decide, by decide, by decide, by decide, by decide, fun k hk => (hf k hk).trans (by simp [fnd, lit_toList]), rfl, by first | trivial | rfl⟩
    · exact ⟨9, 38, 70, 260, by decide, by decide, by decide, by decide, by decide, by decide, fun k hk => (hf k hk).trans (by simp [fnd, lit_toList]), rfl, by first | trivial | rfl⟩
  · right
    unfold Known at h
    simp only [not_or] at h
    obtain ⟨h0, h1, h2, h3, h4, h5, h6, h7, h8, h9⟩ := h
    have e : ∀ l : List UInt8, ¬ x = l → ¬ l = x := fun l h1 h2 => h1 h2.symm
    constructor
    · intro k hk
      rw [hf k hk]
      simp only [fnd, lit_toList]
      rw [if_neg (e _ h0), if_neg (e _ h1), if_neg (e _ h2), if_neg (e _ h3), if_neg (e _ h4), if_neg (e _ h5), if_neg (e _ h6), if_neg (e _ h7), if_neg (e _ h8), if_neg (e _ h9)]
    · rw [if_neg h0, if_neg h1, if_neg h2, if_neg h3, if_neg h4, if_neg h5, if_neg h6, if_neg h7, if_neg h8, if_neg h9]

/-- the nearest quotient, halves away from 0 -/
def rdiv (a b : Int) : Int := if a < 0 then -((b - 2 * a) / (2 * b)) else (2 * a + b) / (2 * b)

theorem half_up {x b : Int} (hb : 0 < b) : (2 * x + b) / (2 * b) = if x % b ≥ b - x % b then x / b + 1 else x / b := by
  have hx := Int.mul_ediv_add_emod x b
  have hr0 := Int.emod_nonneg x (show b ≠ 0 by omega)
  have hr1 := Int.emod_lt_of_pos x hb
  generalize hq : x / b = q at *
  generalize hr : x % b = r at *
  have key : ∀ c : Int, c * (2 * b) ≤ 2 * x + b → 2 * x + b < (c + 1) * (2 * b) → (2 * x + b) / (2 * b) = c := by
    intro c h1 h2
    apply Int.le_antisymm
    · exact Int.lt_add_one_iff.1 ((Int.ediv_lt_iff_lt_mul (by omega)).2 h2)
    · exact (Int.le_ediv_iff_mul_le (by omega)).2 h1
  have e0 : q * (2 * b) = 2 * (b * q) := by rw [Int.mul_comm q, Int.mul_assoc]
  have e1 : (q + 1) * (2 * b) = 2 * (b * q) + 2 * b := by rw [Int.add_mul, e0]; omega
  have e2 : (q + 1 + 1) * (2 * b) = 2 * (b * q) + 2 * b + 2 * b := by rw [Int.add_mul, e1]; omega
  generalize b * q = p at *
  split
  · apply key
    · rw [e1]; omega
    · rw [e2]; omega
  · apply key
    · rw [e0]; omega
    · rw [e1]; omega

theorem l01Div_eq {a b : Int} (ha : -1000000000000000000 ≤ a) (ha2 : a ≤ 1000000000000000000) (hb : 0 < b) (hb2 : b ≤ 1000000000000) : spec_l01Div.f a b = some (rdiv a b) := by
  unfold spec_l01Div.f rdiv
  rw [if_neg (by omega)]
  by_cases h : a < 0
  · have d0 : 0 ≤ (b - 2 * a) / (2 * b) := Int.ediv_nonneg (by omega) (by omega)
    have d1 : (b - 2 * a) / (2 * b) ≤ b - 2 * a := Int.ediv_le_self _ (by omega)
    rw [if_pos h, if_pos h, w64 (x := 2 * b) (by omega) (by omega), if_neg (by omega), w64 (x := 2 * a) (by omega) (by omega), w64 (x := b - 2 * a) (by omega) (by omega), Int.tdiv_eq_ediv_of_nonneg (by omega), w64 (x := (b - 2 * a) / (2 * b)) (by omega) (by omega), w64 (by omega) (by omega)]
  · have d0 : 0 ≤ (2 * a + b) / (2 * b) := Int.ediv_nonneg (by omega) (by omega)
    have d1 : (2 * a + b) / (2 * b) ≤ 2 * a + b := Int.ediv_le_self _ (by omega)
    rw [if_neg h, if_neg h, w64 (x := 2 * b) (by omega) (by omega), if_neg (by omega), w64 (x := 2 * a) (by omega) (by omega), w64 (x := 2 * a + b) (by omega) (by omega), Int.tdiv_eq_ediv_of_nonneg (by omega), w64 (by omega) (by omega)]

theorem nearest_eq {a b : Int} (ha : -1000000000000000000 ≤ a) (ha2 : a ≤ 1000000000000000000) (hb : 0 < b) (hb2 : b ≤ 1000000000000) : impl_nearest.f a b = some (rdiv a b) := by
  have hm : mx b (wrap64 (-b)) = b := by rw [w64 (by omega) (by omega)]; unfold mx; rw [if_neg (by omega)]
  unfold impl_nearest.f rdiv
  rw [if_neg (by omega), hm, if_neg (by omega)]
  by_cases h : a < 0
  · have hx : mx a (wrap64 (-a)) = -a := by rw [w64 (by omega) (by omega)]; unfold mx; rw [if_pos (by omega)]
    have hh := half_up (x := -a) hb
    have d0 : 0 ≤ (-a) / b := Int.ediv_nonneg (by omega) (by omega)
    have d1 : (-a) / b ≤ -a := Int.ediv_le_self _ (by omega)
    have hr0 := Int.emod_nonneg (-a) (show b ≠ 0 by omega)
    have hr1 := Int.emod_lt_of_pos (-a) hb
    rw [hx, if_pos h, show b - 2 * a = 2 * -a + b by omega, hh, Int.tmod_eq_emod_of_nonneg (by omega), Int.tdiv_eq_ediv_of_nonneg (by omega), w64 (x := b - -a % b) (by omega) (by omega), w64 (x := -a / b) (by omega) (by omega)]
    have hc : (decide (a < 0) != decide (b < 0)) = true := by simp [h]; omega
    by_cases g : -a % b ≥ b - -a % b
    · rw [if_pos g, if_pos hc, if_pos g, w64 (x := -a / b + 1) (by omega) (by omega), w64 (by omega) (by omega)]
    · rw [if_neg g, if_pos hc, if_neg g, w64 (by omega) (by omega)]
  · have hx : mx a (wrap64 (-a)) = a := by rw [w64 (by omega) (by omega)]; unfold mx; rw [if_neg (by omega)]
    have hh := half_up (x := a) hb
    have d0 : 0 ≤ a / b := Int.ediv_nonneg (by omega) (by omega)
    have d1 : a / b ≤ a := Int.ediv_le_self _ (by omega)
    have hr0 := Int.emod_nonneg a (show b ≠ 0 by omega)
    have hr1 := Int.emod_lt_of_pos a hb
    rw [hx, if_neg h, hh, Int.tmod_eq_emod_of_nonneg (by omega), Int.tdiv_eq_ediv_of_nonneg (by omega), w64 (x := b - a % b) (by omega) (by omega), w64 (x := a / b) (by omega) (by omega)]
    have hc : ¬ (decide (a < 0) != decide (b < 0)) = true := by simp [h]; omega
    by_cases g : a % b ≥ b - a % b
    · rw [if_pos g, if_neg hc, if_pos g, w64 (x := a / b + 1) (by omega) (by omega)]
    · rw [if_neg g, if_neg hc, if_neg g]

theorem rdiv_bounds {a b m : Int} (hb : 0 < b) (h0 : -m ≤ a) (h1 : a ≤ m) : -(m + 1) ≤ rdiv a b ∧ rdiv a b ≤ m + 1 := by
  unfold rdiv
  have aux : ∀ x : Int, 0 ≤ x → x ≤ m → 0 ≤ (2 * x + b) / (2 * b) ∧ (2 * x + b) / (2 * b) ≤ m + 1 := by
    intro x hx hxm
    rw [half_up hb]
    have d0 : 0 ≤ x / b := Int.ediv_nonneg (by omega) (by omega)
    have d1 : x / b ≤ x := Int.ediv_le_self _ (by omega)
    split <;> omega
  split
  · have := aux (-a) (by omega) (by omega)
    rw [show b - 2 * a = 2 * -a + b by omega]
    omega
  · have := aux a (by omega) (by omega)
    omega

theorem specData_eq {a : ByteArray} {i s h w : Int} {k : Nat} (hk : 11 ≤ k) (h0 : 0 ≤ i) (h1 : i < 10) (hf : ∀ k, 11 ≤ k → spec_l07Find.f k a = some i) (ht : (spec_l07Table.f).bind (fun t => some (rd_L4 t i)) = some [s, h, w]) :
    spec_SpeciesData.f k a = some (s, h, w, 0) := by
  unfold spec_SpeciesData.f
  rw [hf k hk]
  cases hT : spec_l07Table.f with
  | none => rw [hT] at ht; cases ht
  | some t =>
    rw [hT] at ht
    simp only [Option.bind_some, Option.some.injEq] at ht ⊢
    have hl : t.length = 10 := by unfold spec_l07Table.f at hT; cases hT; rfl
    rw [if_neg (by omega), ht, if_pos h0, if_pos (by omega), if_pos (by simp), if_pos (by simp), if_pos (by simp)]
    rfl

theorem rd42_one (x : S42) : rd_T42 [x] 0 = x := rfl

theorem impl_valid (a : ByteArray) (wd : Int) : (∃ s h w : Int, impl_SpeciesData.f a = some (s, h, w, 0) ∧ impl_validBoard.f wd a = some (decide (1 ≤ wd ∧ wd ≤ 20000))) ∨ (impl_SpeciesData.f a = some (0, 0, 0, 3) ∧ impl_validBoard.f wd a = some false) := by
  unfold impl_validBoard.f impl_speciesShade.f
  rcases species a with ⟨i, h, s, w, i0, i1, _, _, _, _, hf, hd, ht⟩ | ⟨hf, hd⟩
  · left
    refine ⟨s, h, w, hd, ?_⟩
    rw [hd]; simp only [Option.bind_some, within_eq]; simp
  · right
    refine ⟨hd, ?_⟩
    rw [hd]; simp

theorem one_eq (a : ByteArray) (wd : Int) (k : Nat) (hk : 11 ≤ k) : ∃ b, spec_l20One.f k [(⟨wd, a⟩ : S42)] = some b ∧ impl_validBoard.f wd a = some b ∧
    (b = true → 1 ≤ wd ∧ wd ≤ 20000 ∧ ∃ s h w : Int, 200 ≤ w ∧ w ≤ 500 ∧ impl_SpeciesData.f a = some (s, h, w, 0) ∧ spec_SpeciesData.f k a = some (s, h, w, 0)) := by
  unfold spec_l20One.f impl_validBoard.f impl_speciesShade.f
  rw [if_pos (by simp), rd42_one]
  simp only [l00In_eq, Option.bind_some]
  rcases species a with ⟨i, h, s, w, i0, i1, _, _, w0, w1, hf, hd, ht⟩ | ⟨hf, hd⟩
  · rw [hd, hf k hk]
    simp only [Option.bind_some, within_eq]
    by_cases g : 1 ≤ wd ∧ wd ≤ 20000
    · refine ⟨true, by simp [g, i0], by simp [g], fun _ => ⟨g.1, g.2, s, h, w, w0, w1, rfl, specData_eq hk i0 i1 hf ht⟩⟩
    · refine ⟨false, by simp [g], by simp [g], fun h => by cases h⟩
  · rw [hd, hf k hk]
    simp only [Option.bind_some]
    refine ⟨false, ?_, by simp, fun h => by cases h⟩
    split <;> simp

theorem swell_eq {a : ByteArray} {s h w : Int} (hd : impl_SpeciesData.f a = some (s, h, w, 0)) {k : Nat} (hs : spec_SpeciesData.f k a = some (s, h, w, 0)) (w0 : 200 ≤ w) (w1 : w ≤ 500) (wd x y : Int) (hw : 1 ≤ wd ∧ wd ≤ 20000) (hx : 0 ≤ x ∧ x ≤ 280) (hy : 0 ≤ y ∧ y ≤ 280) :
    spec_l20Swell.f k [(⟨wd, a⟩ : S42)] x y = some (rdiv (wd * w * (y - x)) 1000000) ∧ impl_swell.f wd a x y = some (rdiv (wd * w * (y - x)) 1000000) ∧ -2800000000 ≤ wd * w * (y - x) ∧ wd * w * (y - x) ≤ 2800000000 := by
  have p0 : 0 ≤ wd * w := Int.mul_nonneg (by omega) (by omega)
  have p1 : wd * w ≤ 20000 * 500 := Int.mul_le_mul (by omega) (by omega) (by omega) (by omega)
  have q1 : wd * w * (y - x) ≤ 10000000 * 280 := by
    by_cases hyx : 0 ≤ y - x
    · exact Int.mul_le_mul (by omega) (by omega) hyx (by omega)
    · have : wd * w * (y - x) ≤ 0 := Int.mul_nonpos_of_nonneg_of_nonpos p0 (by omega)
      omega
  have q0 : -(10000000 * 280) ≤ wd * w * (y - x) := by
    by_cases hyx : y - x ≤ 0
    · have : wd * w * (x - y) ≤ 10000000 * 280 := Int.mul_le_mul (by omega) (by omega) (by omega) (by omega)
      have e : wd * w * (y - x) = -(wd * w * (x - y)) := by rw [← Int.mul_neg]; congr 1; omega
      omega
    · have : 0 ≤ wd * w * (y - x) := Int.mul_nonneg p0 (by omega)
      omega
  refine ⟨?_, ?_, by omega, by omega⟩
  · unfold spec_l20Swell.f
    rw [if_pos (by simp), rd42_one]
    simp only []
    rw [hs]
    simp only [Option.bind_some]
    rw [w64 (x := wd * w) (by omega) (by omega), w64 (x := y - x) (by omega) (by omega), w64 (x := wd * w * (y - x)) (by omega) (by omega), l01Div_eq (by omega) (by omega) (by omega) (by omega)]
    rfl
  · unfold impl_swell.f
    rw [hd]
    simp only [Option.bind_some]
    rw [w64 (x := wd * w) (by omega) (by omega), w64 (x := y - x) (by omega) (by omega), w64 (x := wd * w * (y - x)) (by omega) (by omega), nearest_eq (by omega) (by omega) (by omega) (by omega)]
    rfl

theorem rd40 (xs : List S40) (i : Nat) (h : i < xs.length) : rd_T40 xs (i : Int) = xs[i] := by
  unfold rd_T40; simp [List.getD, h]
theorem rd42 (xs : List S42) (i : Nat) (h : i < xs.length) : rd_T42 xs (i : Int) = xs[i] := by
  unfold rd_T42; simp [List.getD, h]

def toBoard_ (x : S40) : S42 := ⟨x.f0, x.f1⟩

theorem toBoardS_eq (l : List S40) (hl : l.length ≤ 1048576) (k : Nat) (hk : l.length < k) : laws_toBoardS.f k l = some (l.map toBoard_) := by
  unfold laws_toBoardS.f
  rw [if_pos (by omega), if_pos (by omega), show ((l.length : Int)).toNat = l.length by omega]
  refine loop_map l z42 toBoard_ (fun k s i => laws_toBoardS.l0 k l s i) ?_ ?_ k hk
  · intro k s i h hs
    simp only [laws_toBoardS.l0]
    rw [if_pos (by omega), if_pos (by omega), rd40 l i h]
    unfold laws_toBoard.f
    simp only [Option.bind_some]
    rw [if_pos (by omega), wnat (by omega)]
    rfl
  · intro k s
    simp only [laws_toBoardS.l0]
    rw [if_neg (by omega)]

theorem eqBoardS_eq (l : List S42) (hl : l.length ≤ 1048576) (k : Nat) (hk : l.length < k) : laws_eqBoardS.f k l l = some true := by
  unfold laws_eqBoardS.f
  rw [if_pos rfl]
  refine loop_all l.length 0 (fun k i => laws_eqBoardS.l0 k l l i) true ?_ ?_ k (by omega)
  · intro k i _ h
    simp only [laws_eqBoardS.l0]
    rw [if_pos (by omega), if_pos (by omega), if_pos (by omega)]
    unfold laws_eqBoard.f
    simp only [if_true, Option.bind_some]
    rw [wnat (by omega)]
  · intro k
    simp only [laws_eqBoardS.l0]
    rw [if_neg (by omega)]

theorem szBoard_eq (w : Int) (s : ByteArray) (a : Int) (ha : 0 ≤ a) (ha2 : a ≤ 1048576) (hs : s.size ≤ maxLen) : laws_szBoard.f w s a = some (if a < s.size then -1 else a - s.size) := by
  unfold maxLen at hs
  unfold laws_szBoard.f
  rw [w64 (x := a - s.size) (by omega) (by omega)]
  by_cases h : a < s.size
  · rw [if_pos (by omega), if_pos h]
  · rw [if_neg (by omega), if_neg h]

def szStBoard (a : Int) (x : S40) (_ : Nat) : Int ⊕ Int := if a < x.f1.size then .inr (-1) else .inl (a - x.f1.size)

theorem run_szBoard : ∀ (l : List S40) (a : Int) (i : Nat), 0 ≤ a → run szStBoard (fun v => v) l a i < 0 ∨ 0 ≤ run szStBoard (fun v => v) l a i ∧ run szStBoard (fun v => v) l a i ≤ a
  | [], a, i, h => .inr ⟨h, Int.le_refl _⟩
  | x :: l, a, i, h => by
    simp only [run, szStBoard]
    by_cases g : a < x.f1.size
    · simp only [if_pos g]; exact .inl (by decide)
    · simp only [if_neg g]
      rcases run_szBoard l (a - x.f1.size) (i + 1) (by omega) with h | h
      · exact .inl h
      · refine .inr ⟨h.1, ?_⟩
        have := h.2
        show run szStBoard (fun v => v) l (a - x.f1.size) (i + 1) ≤ a
        omega

theorem szBoardS_eq (l : List S40) (a : Int) (ha : 0 ≤ a) (ha2 : a ≤ 1048576) (hl : l.length ≤ maxLen) (hg : ∀ y ∈ l, G40 y) :
    ∃ v, (∀ k, 1048577 < k → laws_szBoardS.f k l a = some v) ∧ (v < 0 ∨ 0 ≤ v ∧ v ≤ a ∧ l.length ≤ 1048576) := by
  unfold maxLen at hl
  by_cases h : a - l.length < 0
  · refine ⟨-1, fun k _ => ?_, .inl (by decide)⟩
    unfold laws_szBoardS.f
    rw [w64 (x := a - l.length) (by omega) (by omega), if_pos h]
  · refine ⟨run szStBoard (fun v => v) l (a - l.length) 0, fun k hk => ?_, ?_⟩
    · unfold laws_szBoardS.f
      rw [w64 (x := a - l.length) (by omega) (by omega), if_neg h]
      refine loop_run0 l 0 (fun v _ => 0 ≤ v ∧ v ≤ 1048576) (fun k s i => laws_szBoardS.l0 k l s i) szStBoard (fun v => v) ?_ ?_ k _ (by omega) ⟨by omega, by omega⟩
      · intro k s i hi _ ⟨s0, s1⟩
        simp only [laws_szBoardS.l0]
        rw [if_pos (by omega), if_pos (by omega), rd40 l i hi, szBoard_eq _ _ _ s0 s1 (hg _ (List.getElem_mem hi)).2]
        simp only [Option.bind_some]
        unfold szStBoard
        by_cases g : s < l[i].f1.size
        · simp only [if_pos g]; exact .inr ⟨-1, rfl, if_pos (by decide)⟩
        · simp only [if_neg g]
          exact .inl ⟨_, rfl, ⟨by omega, by omega⟩, by rw [if_neg (by omega), wnat (by omega)]⟩
      · intro k s _ _
        simp only [laws_szBoardS.l0]
        rw [if_neg (by omega)]
    · rcases run_szBoard l (a - l.length) 0 (by omega) with h | h
      · exact .inl h
      · exact .inr ⟨h.1, by omega, by omega⟩

def vb (x : S42) : Bool := impl_validBoard.f x.f0 x.f1 == some true

def wOf (a : ByteArray) : Int := ((impl_SpeciesData.f a).getD (0, 0, 0, 0)).2.2.1
def swv (x : S42) (a b : Int) : Int := rdiv (x.f0 * wOf x.f1 * (b - a)) 1000000

theorem vb_one (x : S42) (k : Nat) (hk : 11 ≤ k) : spec_l20One.f k [x] = some (vb x) ∧ impl_validBoard.f x.f0 x.f1 = some (vb x) := by
  obtain ⟨b, e1, e2, _⟩ := one_eq x.f1 x.f0 k hk
  have e : vb x = b := by unfold vb; rw [e2]; cases b <;> rfl
  rw [e]; exact ⟨e1, e2⟩

theorem sw_eq (x : S42) (h : vb x = true) (a b : Int) (ha : 0 ≤ a ∧ a ≤ 280) (hb : 0 ≤ b ∧ b ≤ 280) : (∀ k, 11 ≤ k → spec_l20Swell.f k [x] a b = some (swv x a b)) ∧ impl_swell.f x.f0 x.f1 a b = some (swv x a b) ∧ -3000000000 ≤ swv x a b ∧ swv x a b ≤ 3000000000 ∧ 1 ≤ x.f0 ∧ x.f0 ≤ 20000 := by
  have key : ∀ k, 11 ≤ k → spec_l20Swell.f k [x] a b = some (swv x a b) ∧ impl_swell.f x.f0 x.f1 a b = some (swv x a b) ∧ -3000000000 ≤ swv x a b ∧ swv x a b ≤ 3000000000 ∧ 1 ≤ x.f0 ∧ x.f0 ≤ 20000 := by
    intro k hk
    obtain ⟨bb, e1, e2, e3⟩ := one_eq x.f1 x.f0 k hk
    have e : bb = true := by
      have h2 := (vb_one x k hk).2
      rw [h, e2] at h2
      exact Option.some.inj h2
    obtain ⟨g0, g1, s, hh, w, w0, w1, hd, hsd⟩ := e3 e
    obtain ⟨f1, f2, f3, f4⟩ := swell_eq hd hsd w0 w1 x.f0 a b ⟨g0, g1⟩ ha hb
    have hw : wOf x.f1 = w := by unfold wOf; rw [hd]; rfl
    have hv : swv x a b = rdiv (x.f0 * w * (b - a)) 1000000 := by unfold swv; rw [hw]
    rw [hv]
    have hbd := rdiv_bounds (a := x.f0 * w * (b - a)) (b := 1000000) (m := 2800000000) (by omega) (by omega) (by omega)
    exact ⟨f1, f2, by omega, by omega, g0, g1⟩
  exact ⟨fun k hk => (key k hk).1, (key 11 (Nat.le_refl _)).2⟩

def okB (l : List S42) : Bool := l.all vb && decide (l.length ≤ 48)

theorem specOkB (l : List S42) (hl : l.length ≤ 1048576) (k : Nat) (hk : l.length + 20 < k) : spec_l20Ok.f k l = some (okB l) := by
  unfold spec_l20Ok.f okB
  rw [all_loop l 13 vb false (decide (l.length ≤ 48)) (fun k i => spec_l20Ok.l0 k l i) ?_ ?_ k (by omega)]
  · cases l.all vb <;> simp
  · intro k i hi hk
    simp only [spec_l20Ok.l0]
    rw [if_pos (by omega), if_pos (by omega), rd42 l i hi, wnat (by omega), (vb_one l[i] k (by omega)).1]
    simp only [Option.bind_some]
  · intro k hk
    simp only [spec_l20Ok.l0]
    rw [if_neg (by omega)]
    simp; omega

theorem implOkB (l : List S42) (hl : l.length ≤ 1048576) (k : Nat) (hk : l.length + 20 < k) : impl_ValidBoards.f k l = some (okB l) := by
  unfold impl_ValidBoards.f okB
  rw [all_loop l 13 vb false (decide (l.length ≤ 48)) (fun k i => impl_ValidBoards.l0 k l l (l.length : Int) i) ?_ ?_ k (by omega)]
  · cases l.all vb <;> simp
  · intro k i hi hk
    simp only [impl_ValidBoards.l0]
    rw [if_pos (by omega), if_pos (by omega), if_pos (by omega), rd42 l i hi, wnat (by omega), (vb_one l[i] k (by omega)).2]
    simp only [Option.bind_some]
  · intro k hk
    simp only [impl_ValidBoards.l0]
    rw [if_neg (by omega)]
    simp; omega

theorem okB_mem {l : List S42} (h : okB l = true) (i : Nat) (hi : i < l.length) : vb l[i] = true := by
  unfold okB at h
  rw [Bool.and_eq_true, List.all_eq_true] at h
  exact h.1 _ (List.getElem_mem hi)

theorem okB_len {l : List S42} (h : okB l = true) : l.length ≤ 48 := by
  unfold okB at h
  rw [Bool.and_eq_true, decide_eq_true_eq] at h
  exact h.2

/-- the code of boards and moistures -/
def askB (l : List S42) (a b : Int) : Int := if okB l = true then (if 0 ≤ a ∧ a ≤ 280 then (if 0 ≤ b ∧ b ≤ 280 then 0 else 2) else 2) else 1

theorem ask_eq (l : List S42) (hl : l.length ≤ 1048576) (a b : Int) (k : Nat) (hk : l.length + 20 < k) : spec_l20Ask.f k l a b = some (askB l a b) ∧ impl_boardsCode.f k l a b = some (askB l a b) := by
  unfold spec_l20Ask.f impl_boardsCode.f spec_l20Moisture.f impl_areMoistures.f askB
  rw [specOkB l hl k hk, implOkB l hl k hk]
  simp only [Option.bind_some, within_eq, l00In_eq]
  cases okB l with
  | false => simp
  | true => by_cases g1 : 0 ≤ a ∧ a ≤ 280 <;> by_cases g2 : 0 ≤ b ∧ b ≤ 280 <;> simp [g1, g2]

theorem ask_zero {l : List S42} {a b : Int} (h : askB l a b = 0) : okB l = true ∧ (0 ≤ a ∧ a ≤ 280) ∧ (0 ≤ b ∧ b ≤ 280) := by
  unfold askB at h
  split at h
  · split at h
    · split at h
      · exact ⟨by assumption, by assumption, by assumption⟩
      · omega
    · omega
  · omega

theorem l00Max_eq (a b : Int) : spec_l00Max.f a b = some (if a > b then a else b) := by
  unfold spec_l00Max.f; split <;> rfl

def gapv (a b : Int) (x y : S42) : Int := (if 0 > -swv x a b - swv y a b then 0 else -swv x a b - swv y a b) / 2

theorem gap_loops (l : List S42) (ho : okB l = true) (a b : Int) (ha : 0 ≤ a ∧ a ≤ 280) (hb : 0 ≤ b ∧ b ≤ 280) : ∀ (n i : Nat) (s : List Int), i + n = l.length → s.length = i → (i < l.length ∨ l.length = 0) →
    (∀ x ∈ s, 0 ≤ x ∧ x ≤ 3000000000) → ∃ r : List Int, (r.length + 1 = l.length ∨ l.length = 0 ∧ r.length = 0) ∧ (∀ x ∈ r, 0 ≤ x ∧ x ≤ 3000000000) ∧ ∀ k, n + 20 < k → spec_l20Gaps.l0 k l a b s (i : Int) = some r ∧ impl_jointGaps.l0 k l a b s (i : Int) = some r := by
  have hlen := okB_len ho
  intro n
  induction n with
  | zero =>
    intro i s hi hs hil hsb
    have h0 : l.length = 0 := by omega
    refine ⟨s, .inr ⟨h0, by omega⟩, hsb, fun k hk => ?_⟩
    obtain ⟨k, rfl⟩ : ∃ m, k = m + 1 := ⟨k - 1, by omega⟩
    simp only [spec_l20Gaps.l0, impl_jointGaps.l0]
    rw [w64 (x := (i : Int) + 1) (by omega) (by omega), if_neg (by omega), if_neg (by omega)]
    exact ⟨rfl, rfl⟩
  | succ n ih =>
    intro i s hi hs hil hsb
    by_cases hlast : i + 1 < l.length
    · have hlt : i < l.length := by omega
      obtain ⟨e1, e2, b0, b1, w0, w1⟩ := sw_eq l[i] (okB_mem ho i hlt) a b ha hb
      obtain ⟨f1, f2, c0, c1, _, _⟩ := sw_eq l[i + 1] (okB_mem ho (i + 1) hlast) a b ha hb
      have hg : 0 ≤ gapv a b l[i] l[i + 1] ∧ gapv a b l[i] l[i + 1] ≤ 3000000000 := by
        unfold gapv; split <;> omega
      obtain ⟨r, h1, h2, h3⟩ := ih (i + 1) (s ++ [gapv a b l[i] l[i + 1]]) (by omega) (by simp [hs]) (.inl hlast) (by
        intro x hx
        rcases List.mem_append.1 hx with hx | hx
        · exact hsb x hx
        · rw [List.mem_singleton.1 hx]; exact hg)
      refine ⟨r, h1, h2, fun k hk => ?_⟩
      obtain ⟨k, rfl⟩ : ∃ m, k = m + 1 := ⟨k - 1, by omega⟩
      obtain ⟨q1, q2⟩ := h3 k (by omega)
      simp only [spec_l20Gaps.l0, impl_jointGaps.l0]
      have hcap : s.length < 17592186044416 := by omega
      have hx : wrap64 (wrap64 (-swv l[i] a b) - swv l[i + 1] a b) = -swv l[i] a b - swv l[i + 1] a b := by
        rw [w64 (x := -swv l[i] a b) (by omega) (by omega), w64 (by omega) (by omega)]
      have hd : wrap64 (Int.tdiv (if 0 > -swv l[i] a b - swv l[i + 1] a b then 0 else -swv l[i] a b - swv l[i + 1] a b) 2) = gapv a b l[i] l[i + 1] := by
        rw [Int.tdiv_eq_ediv_of_nonneg (by split <;> omega)]
        unfold gapv at hg ⊢
        exact w64 (by omega) (by omega)
      have hd2 : wrap64 (Int.tdiv (mx (-swv l[i] a b - swv l[i + 1] a b) 0) 2) = gapv a b l[i] l[i + 1] := by
        have : mx (-swv l[i] a b - swv l[i + 1] a b) 0 = if 0 > -swv l[i] a b - swv l[i + 1] a b then 0 else -swv l[i] a b - swv l[i + 1] a b := by
          unfold mx; rfl
        rw [this, hd]
      constructor
      · rw [wnat (by omega), if_pos (by omega), if_pos (by omega), if_pos (by omega), rd42 l i hlt, rd42 l (i + 1) hlast, e1 k (by omega)]
        simp only [Option.bind_some]
        rw [if_pos (by omega), f1 k (by omega)]
        simp only [Option.bind_some]
        rw [hx, l00Max_eq]
        simp only [Option.bind_some]
        rw [if_pos hcap, hd]
        exact q1
      · rw [wnat (by omega), if_pos (by omega), if_pos (by omega), if_pos (by omega), rd42 l i hlt, rd42 l (i + 1) hlast, e2]
        simp only [Option.bind_some]
        rw [if_pos (by omega), f2]
        simp only [Option.bind_some]
        rw [if_pos hcap, hx, hd2]
        exact q2
    · refine ⟨s, .inl (by omega), hsb, fun k hk => ?_⟩
      obtain ⟨k, rfl⟩ : ∃ m, k = m + 1 := ⟨k - 1, by omega⟩
      simp only [spec_l20Gaps.l0, impl_jointGaps.l0]
      rw [w64 (x := (i : Int) + 1) (by omega) (by omega), if_neg (by omega), if_neg (by omega)]
      exact ⟨rfl, rfl⟩

theorem gaps_eq (l : List S42) (ho : okB l = true) (a b : Int) (ha : 0 ≤ a ∧ a ≤ 280) (hb : 0 ≤ b ∧ b ≤ 280) : ∃ r : List Int, (r.length + 1 = l.length ∨ l.length = 0 ∧ r.length = 0) ∧ (∀ x ∈ r, 0 ≤ x ∧ x ≤ 3000000000) ∧ ∀ k, 100 < k → spec_l20Gaps.f k l a b = some r ∧ impl_jointGaps.f k l a b = some r := by
  have hlen := okB_len ho
  obtain ⟨r, h1, h2, h3⟩ := gap_loops l ho a b ha hb l.length 0 [] (by omega) rfl (by omega) (by simp)
  exact ⟨r, h1, h2, fun k hk => by
    have := h3 k (by omega)
    simpa [spec_l20Gaps.f, impl_jointGaps.f] using this⟩

theorem wide_loops (g : List Int) (hg : g.length ≤ 48) : ∀ (n i best : Nat), i + n = g.length → best < g.length →
    ∃ r : Int × Int × Int, ∀ k, n < k → spec_WidestGap.l0 k g (best : Int) (i : Int) = some r ∧ impl_WidestGap.l0 k g (best : Int) g (g.length : Int) (i : Int) = some r := by
  intro n
  induction n with
  | zero =>
    intro i best hi hb
    refine ⟨((best : Int), rd g best, 0), fun k hk => ?_⟩
    obtain ⟨k, rfl⟩ : ∃ m, k = m + 1 := ⟨k - 1, by omega⟩
    simp only [spec_WidestGap.l0, impl_WidestGap.l0]
    have a1 : ¬ (i : Int) < (g.length : Int) := by omega
    have a2 : (0 : Int) ≤ (best : Int) := by omega
    have a3 : (best : Int) < (g.length : Int) := by omega
    simp [a1, a2, a3, hb]
  | succ n ih =>
    intro i best hi hb
    have a1 : (i : Int) < (g.length : Int) := by omega
    have a2 : (0 : Int) ≤ (best : Int) := by omega
    have a3 : (best : Int) < (g.length : Int) := by omega
    have a4 : (0 : Int) ≤ (i : Int) := by omega
    by_cases h : rd g (i : Int) > rd g (best : Int)
    · obtain ⟨r, hr⟩ := ih (i + 1) i (by omega) (by omega)
      refine ⟨r, fun k hk => ?_⟩
      obtain ⟨k, rfl⟩ : ∃ m, k = m + 1 := ⟨k - 1, by omega⟩
      simp only [spec_WidestGap.l0, impl_WidestGap.l0, a1, a2, a3, a4, h, if_true, wnat (n := i) (by omega)]
      exact hr k (by omega)
    · obtain ⟨r, hr⟩ := ih (i + 1) best (by omega) hb
      refine ⟨r, fun k hk => ?_⟩
      obtain ⟨k, rfl⟩ : ∃ m, k = m + 1 := ⟨k - 1, by omega⟩
      simp only [spec_WidestGap.l0, impl_WidestGap.l0, a1, a2, a3, a4, h, if_true, if_false, wnat (n := i) (by omega)]
      exact hr k (by omega)

theorem res_eq (l : List S42) (hl : l.length ≤ 1048576) (a b : Int) : ∃ r : Int × Int × Int, ∀ k, 1049000 ≤ k → spec_WidestGap.f k l a b = some r ∧ impl_WidestGap.f k l a b = some r := by
  by_cases h0 : askB l a b = 0
  · obtain ⟨ho, ha, hb⟩ := ask_zero h0
    have hlen := okB_len ho
    obtain ⟨r, h1, h2, h3⟩ := gaps_eq l ho a b ha hb
    by_cases hr : r.length = 0
    · obtain rfl : r = [] := List.eq_nil_of_length_eq_zero hr
      refine ⟨(0, 0, 6), fun k hk => ?_⟩
      obtain ⟨k, rfl⟩ : ∃ m, k = m + 1 + 1 := ⟨k - 2, by omega⟩
      obtain ⟨q1, q2⟩ := ask_eq l hl a b (k + 1 + 1) (by omega)
      obtain ⟨g1, g2⟩ := h3 (k + 1 + 1) (by omega)
      unfold spec_WidestGap.f impl_WidestGap.f impl_JointGaps.f
      rw [q1, q2]
      simp [h0, g1, g2, hr, impl_WidestGap.j0, impl_WidestGap.j1, show (l.length : Int) < 2 by omega]
    · obtain ⟨w, hw⟩ := wide_loops r (by omega) r.length 0 0 (by omega) (by omega)
      refine ⟨w, fun k hk => ?_⟩
      obtain ⟨k, rfl⟩ : ∃ m, k = m + 1 + 1 := ⟨k - 2, by omega⟩
      obtain ⟨q1, q2⟩ := ask_eq l hl a b (k + 1 + 1) (by omega)
      obtain ⟨g1, g2⟩ := h3 (k + 1 + 1) (by omega)
      have e2 := (hw k (by omega)).2
      have e1 := (hw (k + 1 + 1 + 1) (by omega)).1
      have c1 : (0 : Int) < (r.length : Int) := by omega
      have e1' : spec_WidestGap.l0 (k + 1 + 1) r 0 1 = some w := by
        have h7 : spec_WidestGap.l0 (k + 1 + 1 + 1) r 0 0 = some w := e1
        have h8 : spec_WidestGap.l0 (k + 1 + 1 + 1) r 0 0 = spec_WidestGap.l0 (k + 1 + 1) r 0 1 := by
          rw [spec_WidestGap.l0, if_pos c1, if_pos (Int.le_refl _), if_pos (Int.le_refl _), if_pos c1, if_neg (Int.lt_irrefl _), show wrap64 ((0 : Int) + 1) = 1 by unfold wrap64; omega]
        rw [← h8]; exact h7
      have e2' : impl_WidestGap.l0 k r 0 r (r.length : Int) 0 = some w := e2
      unfold spec_WidestGap.f impl_WidestGap.f impl_JointGaps.f
      rw [q1, q2]
      simp [h0, g1, g2, show ¬ (r.length : Int) = 0 by omega, impl_WidestGap.j0, impl_WidestGap.j1, show ¬ (l.length : Int) < 2 by omega, e1', e2', show ¬ r = [] from fun h => hr (by rw [h]; rfl)]
  · refine ⟨(0, 0, askB l a b), fun k hk => ?_⟩
    obtain ⟨k, rfl⟩ : ∃ m, k = m + 1 + 1 := ⟨k - 2, by omega⟩
    obtain ⟨q1, q2⟩ := ask_eq l hl a b (k + 1 + 1) (by omega)
    unfold spec_WidestGap.f impl_WidestGap.f impl_JointGaps.f
    rw [q1, q2]
    simp [h0, impl_WidestGap.j0, impl_WidestGap.j1]

theorem FnExactWidestGap : laws_FnExactWidestGap.Pure := by
  intro l a b ⟨hl, hg⟩ _ _
  obtain ⟨k, hk⟩ : ∃ k : Nat, k = 1049200 := ⟨_, rfl⟩
  refine ⟨k + 1, ?_⟩
  unfold laws_FnExactWidestGap.f
  obtain ⟨v, e, h⟩ := szBoardS_eq l 1048576 (by omega) (by omega) hl hg
  rw [e (k + 1) (by omega)]
  simp only [Option.bind_some]
  rcases h with h | ⟨h1, _, h2⟩
  · rw [if_pos h]
  rw [if_neg (by omega), toBoardS_eq l h2 (k + 1) (by omega)]
  simp only [Option.bind_some]
  have h2' : (l.map toBoard_).length ≤ 1048576 := by simpa using h2
  have hj : laws_FnExactWidestGap.j0 (k + 1) l (l.map toBoard_) false = some true := by
    simp only [laws_FnExactWidestGap.j0]
    rw [toBoardS_eq l h2 k (by omega)]
    simp [eqBoardS_eq (l.map toBoard_) h2' k (by simp; omega)]
  obtain ⟨r, hr⟩ := res_eq (l.map toBoard_) h2' a b
  obtain ⟨r1, r2⟩ := hr (k + 1) (by omega)
  rw [r1, r2]
  simp [hj]

end Go.Proofs.Ytdmndgaajgakiaa.Pure

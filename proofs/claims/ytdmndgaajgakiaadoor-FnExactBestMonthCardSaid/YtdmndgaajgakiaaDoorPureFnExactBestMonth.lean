/- FnExactBestMonth: the program's BestMonth returns what the reference's returns, for all arguments; no condition but that the listed table reads as the card ties it. -/
import Derived.Test.YtdmndgaajgakiaaDoorGFnExactBestMonthx9
namespace Go.Proofs.YtdmndgaajgakiaaDoor.Pure
open Go.RowKit Go.Proofs.YtdmndgaajgakiaaDoor.GFnExactBestMonth Go.Proofs.YtdmndgaajgakiaaDoorW.PrintWords Go.Proofs.YtdmndgaajgakiaaDoorW.PrintLast
set_option linter.unusedSimpArgs false
set_option linter.unusedVariables false

theorem w64 {x : Int} (h0 : -9223372036854775808 ≤ x) (h1 : x ≤ 9223372036854775807) : wrap64 x = x := by
  unfold wrap64; omega

theorem within_eq (a b c : Int) : impl_within.f a b c = some (decide (b ≤ a ∧ a ≤ c)) := by
  unfold impl_within.f
  by_cases h : a ≥ b
  · rw [if_pos h]; simp [h]
  · rw [if_neg h]; simp; omega

theorem l00In_eq (a b c : Int) : spec_l00In.f a b c = some (decide (b ≤ a ∧ a ≤ c)) := by
  unfold spec_l00In.f
  by_cases h : a ≥ b
  · rw [if_pos h]; simp [h]
  · rw [if_neg h]; simp; omega

/-- a loop over a list: from one state to the next, or out of it -/
def run {α σ β : Type} (st : σ → α → Nat → σ ⊕ β) (en : σ → β) : List α → σ → Nat → β
  | [], s, _ => en s
  | x :: xs, s, i => match st s x i with
    | .inl s' => run st en xs s' (i + 1)
    | .inr r => r

theorem loop_run {α σ β : Type} (xs : List α) (K0 : Nat) (Inv : σ → Nat → Prop) (L : Nat → σ → Int → Option β) (st : σ → α → Nat → σ ⊕ β) (en : σ → β)
    (hs : ∀ (k : Nat) (s : σ) (i : Nat) (h : i < xs.length), K0 ≤ k → Inv s i →
      (∃ s', st s xs[i] i = .inl s' ∧ Inv s' (i + 1) ∧ L (k + 1) s (i : Int) = L k s' ((i + 1 : Nat) : Int)) ∨ (∃ r, st s xs[i] i = .inr r ∧ L (k + 1) s (i : Int) = some r))
    (he : ∀ (k : Nat) (s : σ), K0 ≤ k → Inv s xs.length → L (k + 1) s (xs.length : Int) = some (en s)) :
    ∀ (n i k : Nat) (s : σ), i + n = xs.length → K0 + n < k → Inv s i → L k s (i : Int) = some (run st en (xs.drop i) s i) := by
  intro n
  induction n with
  | zero =>
    intro i k s hi hk hI
    obtain ⟨k, rfl⟩ : ∃ m, k = m + 1 := ⟨k - 1, by omega⟩
    obtain rfl : i = xs.length := by omega
    rw [he k s (by omega) hI, List.drop_length]; rfl
  | succ n ih =>
    intro i k s hi hk hI
    obtain ⟨k, rfl⟩ : ∃ m, k = m + 1 := ⟨k - 1, by omega⟩
    have hlt : i < xs.length := by omega
    rw [List.drop_eq_getElem_cons hlt]
    rcases hs k s i hlt (by omega) hI with ⟨s', h1, h2, h3⟩ | ⟨r, h1, h3⟩
    · rw [h3, ih (i + 1) k s' (by omega) (by omega) h2]
      simp only [run, h1]
    · rw [h3]
      simp only [run, h1]

theorem loop_run0 {α σ β : Type} (xs : List α) (K0 : Nat) (Inv : σ → Nat → Prop) (L : Nat → σ → Int → Option β) (st : σ → α → Nat → σ ⊕ β) (en : σ → β)
    (hs : ∀ (k : Nat) (s : σ) (i : Nat) (h : i < xs.length), K0 ≤ k → Inv s i →
      (∃ s', st s xs[i] i = .inl s' ∧ Inv s' (i + 1) ∧ L (k + 1) s (i : Int) = L k s' ((i + 1 : Nat) : Int)) ∨ (∃ r, st s xs[i] i = .inr r ∧ L (k + 1) s (i : Int) = some r))
    (he : ∀ (k : Nat) (s : σ), K0 ≤ k → Inv s xs.length → L (k + 1) s (xs.length : Int) = some (en s)) (k : Nat) (s : σ) (hk : K0 + xs.length < k) (hI : Inv s 0) :
    L k s 0 = some (run st en xs s 0) := by
  have := loop_run xs K0 Inv L st en hs he xs.length 0 k s (by omega) hk hI
  simpa using this

/-- a row that is made and then filled, element by element -/
theorem loop_map {α β : Type} (xs : List α) (z : β) (c : α → β) (L : Nat → List β → Int → Option (List β))
    (hs : ∀ (k : Nat) (s : List β) (i : Nat) (h : i < xs.length), s.length = xs.length → L (k + 1) s (i : Int) = L k (s.set i (c xs[i])) ((i + 1 : Nat) : Int))
    (he : ∀ (k : Nat) (s : List β), L (k + 1) s (xs.length : Int) = some s) (k : Nat) (hk : xs.length < k) :
    L k (List.replicate xs.length z) 0 = some (xs.map c) := by
  have key : ∀ (n i k : Nat) (s : List β), i + n = xs.length → n < k → s.length = xs.length → s.take i = (xs.map c).take i → L k s (i : Int) = some (xs.map c) := by
    intro n
    induction n with
    | zero =>
      intro i k s hi hk hl ht
      obtain ⟨k, rfl⟩ : ∃ m, k = m + 1 := ⟨k - 1, by omega⟩
      obtain rfl : i = xs.length := by omega
      have h1 : s.take xs.length = s := List.take_of_length_le (by omega)
      rw [he, ← h1, ht, List.take_of_length_le (by simp)]
    | succ n ih =>
      intro i k s hi hk hl ht
      obtain ⟨k, rfl⟩ : ∃ m, k = m + 1 := ⟨k - 1, by omega⟩
      have hlt : i < xs.length := by omega
      rw [hs k s i hlt hl]
      refine ih (i + 1) k _ (by omega) (by omega) (by rw [List.length_set]; exact hl) ?_
      rw [List.take_succ_eq_append_getElem (by rw [List.length_set]; omega), List.take_succ_eq_append_getElem (by rw [List.length_map]; omega), List.take_set_of_le (by omega), ht]
      simp
  have := key xs.length 0 k (List.replicate xs.length z) (by omega) hk (by simp) (by simp)
  simpa using this

theorem wnat {n : Nat} (h : n < 9223372036854775807) : wrap64 ((n : Int) + 1) = ((n + 1 : Nat) : Int) := by
  unfold wrap64; omega

theorem loop_all {β : Type} (n K0 : Nat) (L : Nat → Int → Option β) (r : β) (hs : ∀ (k i : Nat), K0 ≤ k → i < n → L (k + 1) (i : Int) = L k ((i + 1 : Nat) : Int)) (he : ∀ k : Nat, L (k + 1) (n : Int) = some r)
    (k : Nat) (hk : K0 + n < k) : L k 0 = some r := by
  have key : ∀ (m i k : Nat), i + m = n → K0 + m < k → L k (i : Int) = some r := by
    intro m
    induction m with
    | zero =>
      intro i k hi hk
      obtain ⟨k, rfl⟩ : ∃ m, k = m + 1 := ⟨k - 1, by omega⟩
      obtain rfl : i = n := by omega
      exact he k
    | succ m ih =>
      intro i k hi hk
      obtain ⟨k, rfl⟩ : ∃ m, k = m + 1 := ⟨k - 1, by omega⟩
      rw [hs k i (by omega) (by omega)]
      exact ih (i + 1) k (by omega) (by omega)
  simpa using key n 0 k (by omega) hk

theorem all_from {α β : Type} (xs : List α) (K0 : Nat) (p : α → Bool) (r0 r1 : β) (L : Nat → Int → Option β)
    (hs : ∀ (k i : Nat) (h : i < xs.length), K0 ≤ k → L (k + 1) (i : Int) = if p xs[i] = true then L k ((i + 1 : Nat) : Int) else some r0)
    (he : ∀ k : Nat, K0 ≤ k → L (k + 1) (xs.length : Int) = some r1) : ∀ (n i k : Nat), i + n = xs.length → K0 + n < k → L k (i : Int) = some (if (xs.drop i).all p = true then r1 else r0) := by
  intro n
  induction n with
  | zero =>
    intro i k hi hk
    obtain ⟨k, rfl⟩ : ∃ m, k = m + 1 := ⟨k - 1, by omega⟩
    obtain rfl : i = xs.length := by omega
    rw [he k (by omega), List.drop_length]; rfl
  | succ n ih =>
    intro i k hi hk
    obtain ⟨k, rfl⟩ : ∃ m, k = m + 1 := ⟨k - 1, by omega⟩
    have hlt : i < xs.length := by omega
    rw [hs k i hlt (by omega), List.drop_eq_getElem_cons hlt, List.all_cons]
    cases hp : p xs[i] with
    | true => rw [if_pos rfl, ih (i + 1) k (by omega) (by omega), Bool.true_and]
    | false => simp

theorem all_loop {α β : Type} (xs : List α) (K0 : Nat) (p : α → Bool) (r0 r1 : β) (L : Nat → Int → Option β)
    (hs : ∀ (k i : Nat) (h : i < xs.length), K0 ≤ k → L (k + 1) (i : Int) = if p xs[i] = true then L k ((i + 1 : Nat) : Int) else some r0)
    (he : ∀ k : Nat, K0 ≤ k → L (k + 1) (xs.length : Int) = some r1) (k : Nat) (hk : K0 + xs.length < k) : L k 0 = some (if xs.all p = true then r1 else r0) := by
  simpa using all_from xs K0 p r0 r1 L hs he xs.length 0 k (by omega) hk

theorem idx_from {α : Type} (xs : List α) (K0 : Nat) (q : α → Bool) (L : Nat → Int → Option Int)
    (hs : ∀ (k i : Nat) (h : i < xs.length), K0 ≤ k → L (k + 1) (i : Int) = if q xs[i] = true then some (i : Int) else L k ((i + 1 : Nat) : Int))
    (he : ∀ k : Nat, K0 ≤ k → L (k + 1) (xs.length : Int) = some (-1)) : ∀ (n i k : Nat), i + n = xs.length → K0 + n < k → ∃ r, L k (i : Int) = some r ∧ decide (r ≥ 0) = (xs.drop i).any q := by
  intro n
  induction n with
  | zero =>
    intro i k hi hk
    obtain ⟨k, rfl⟩ : ∃ m, k = m + 1 := ⟨k - 1, by omega⟩
    obtain rfl : i = xs.length := by omega
    exact ⟨-1, he k (by omega), by rw [List.drop_length]; rfl⟩
  | succ n ih =>
    intro i k hi hk
    obtain ⟨k, rfl⟩ : ∃ m, k = m + 1 := ⟨k - 1, by omega⟩
    have hlt : i < xs.length := by omega
    rw [hs k i hlt (by omega), List.drop_eq_getElem_cons hlt, List.any_cons]
    cases hp : q xs[i] with
    | true => exact ⟨i, by rw [if_pos rfl], by simp⟩
    | false =>
      obtain ⟨r, h1, h2⟩ := ih (i + 1) k (by omega) (by omega)
      exact ⟨r, by rw [if_neg (by simp)]; exact h1, by rw [h2]; simp⟩

theorem idx_loop {α : Type} (xs : List α) (K0 : Nat) (q : α → Bool) (L : Nat → Int → Option Int)
    (hs : ∀ (k i : Nat) (h : i < xs.length), K0 ≤ k → L (k + 1) (i : Int) = if q xs[i] = true then some (i : Int) else L k ((i + 1 : Nat) : Int))
    (he : ∀ k : Nat, K0 ≤ k → L (k + 1) (xs.length : Int) = some (-1)) (k : Nat) (hk : K0 + xs.length < k) : ∃ r, L k 0 = some r ∧ decide (r ≥ 0) = xs.any q := by
  simpa using idx_from xs K0 q L hs he xs.length 0 k (by omega) hk

theorem any_not {α : Type} (l : List α) (p : α → Bool) : l.any (fun x => !p x) = !l.all p := by
  induction l with
  | nil => rfl
  | cons x l ih => rw [List.any_cons, List.all_cons, ih]; cases p x <;> simp

theorem rdi (xs : List Int) (i : Nat) (h : i < xs.length) : rd xs (i : Int) = xs[i] := by
  unfold rd; simp [List.getD, h]

theorem eqInt64S_eq (l : List Int) (hl : l.length ≤ 1048576) (k : Nat) (hk : l.length < k) : laws_eqInt64S.f k l l = some true := by
  unfold laws_eqInt64S.f
  rw [if_pos rfl]
  refine loop_all l.length 0 (fun k i => laws_eqInt64S.l0 k l l i) true ?_ ?_ k (by omega)
  · intro k i _ h
    simp only [laws_eqInt64S.l0]
    rw [if_pos (by omega), if_pos (by omega), if_pos (by omega), wnat (by omega)]; simp
  · intro k
    simp only [laws_eqInt64S.l0]
    rw [if_neg (by omega)]

theorem toInt64S_eq (l : List Int) (hl : l.length ≤ 1048576) (k : Nat) (hk : l.length < k) : laws_toInt64S.f k l = some l := by
  unfold laws_toInt64S.f
  rw [if_pos (by omega), if_pos (by omega), show ((l.length : Int)).toNat = l.length by omega]
  have := loop_map l (0 : Int) (fun x => x) (fun k s i => laws_toInt64S.l0 k l s i) (by
    intro k s i h hs
    simp only [laws_toInt64S.l0]
    rw [if_pos (by omega), if_pos (by omega), if_pos (by omega), rdi l i h, wnat (by omega)]
    rfl) (by
    intro k s
    simp only [laws_toInt64S.l0]
    rw [if_neg (by omega)]) k hk
  simpa using this

def fnd (x : List UInt8) : List ByteArray → Int → Int
  | [], _ => -1
  | y :: ys, i => if y.toList = x then i else fnd x ys (i + 1)

theorem find_l0 (x : ByteArray) (xs : List ByteArray) (hl : xs.length ≤ 1000) : ∀ (n : Nat) (k i : Nat), i + n = xs.length → n < k →
    spec_l07Find.l0 k x xs (i : Int) = some (fnd x.toList (xs.drop i) i) := by
  intro n
  induction n with
  | zero =>
    intro k i hi hk
    obtain ⟨k, rfl⟩ : ∃ m, k = m + 1 := ⟨k - 1, by omega⟩
    simp only [spec_l07Find.l0]
    rw [if_neg (by omega), List.drop_of_length_le (by omega)]; rfl
  | succ n ih =>
    intro k i hi hk
    obtain ⟨k, rfl⟩ : ∃ m, k = m + 1 := ⟨k - 1, by omega⟩
    simp only [spec_l07Find.l0]
    rw [if_pos (by omega), if_pos (by omega), List.drop_eq_getElem_cons (show i < xs.length by omega)]
    have hr : rdOf ByteArray.empty xs (i : Int) = xs[i]'(by omega) := by
      unfold rdOf; simp [List.getD, show i < xs.length by omega]
    rw [hr]
    by_cases h : (xs[i]'(by omega)).toList = x.toList
    · rw [if_pos h]; simp [fnd, h]
    · rw [if_neg h]
      have h2 := ih k (i + 1) (by omega) (by omega)
      rw [w64 (by omega) (by omega), show ((i : Int) + 1) = ((i + 1 : Nat) : Int) by omega, h2]
      simp [fnd, h]

theorem lit_toList (l : Array UInt8) : (⟨l⟩ : ByteArray).toList = l.toList := ByteArray.toList_eq _

/-- what the name of a species tells: the reference's place of it, and the program's data -/
def Known (x : List UInt8) : Prop := x = [97, 115, 104] ∨ x = [98, 101, 101, 99, 104] ∨ x = [98, 105, 114, 99, 104] ∨ x = [99, 104, 101, 114, 114, 121] ∨ x = [101, 98, 111, 110, 121] ∨ x = [104, 111, 108, 108, 121] ∨ x = [109, 97, 112, 108, 101] ∨ x = [111, 97, 107] ∨ x = [114, 111, 115, 101, 119, 111, 111, 100] ∨ x = [119, 97, 108, 110, 117, 116]

theorem find_eq (k : Nat) (hk : 11 ≤ k) (a : ByteArray) : ∃ l : List ByteArray, spec_l07Names.f = some l ∧ spec_l07Find.f k a = some (fnd a.toList l 0) := by
  refine ⟨_, rfl, ?_⟩
  unfold spec_l07Find.f spec_l07Names.f
  simp only [Option.bind_some]
  exact find_l0 a _ (by simp) 10 k 0 rfl (by omega)

theorem species (a : ByteArray) : (∃ i h : Int, ∃ s w : Int, 0 ≤ i ∧ i < 10 ∧ 33 ≤ h ∧ h ≤ 85 ∧ 200 ≤ w ∧ w ≤ 500 ∧ (∀ k, 11 ≤ k → spec_l07Find.f k a = some i) ∧ impl_SpeciesData.f a = some (s, h, w, 0) ∧ (spec_l07Table.f).bind (fun t => some (rd_L4 t i)) = some [s, h, w]) ∨
    ((∀ k, 11 ≤ k → spec_l07Find.f k a = some (-1)) ∧ impl_SpeciesData.f a = some (0, 0, 0, 3)) := by
  obtain ⟨l, hl, _⟩ := find_eq 11 (Nat.le_refl _) a
  have hf : ∀ k, 11 ≤ k → spec_l07Find.f k a = some (fnd a.toList l 0) := fun k hk => by
    obtain ⟨l', hl', h⟩ := find_eq k hk a
    rw [hl] at hl'; cases hl'; exact h
  unfold spec_l07Names.f at hl
  cases hl
  generalize hx : a.toList = x at *
  unfold impl_SpeciesData.f
  rw [hx]
  by_cases h : Known x
  · left
    rcases h with h | h | h | h | h | h | h | h | h | h <;> subst h
    · exact ⟨0, 40, 20, 310, by decide, by decide, by decide, by decide, by decide, by decide, fun k hk => (hf k hk).trans (by simp [fnd, lit_toList]), rfl, by first | trivial | rfl⟩
    · exact ⟨1, 45, 35, 410, by decide, by decide, by decide, by decide, by decide, by decide, fun k hk => (hf k hk).trans (by simp [fnd, lit_toList]), rfl, by first | trivial | rfl⟩
    · exact ⟨2, 33, 15, 280, by decide, by decide, by decide, by decide, by decide, by decide, fun k hk => (hf k hk).trans (by simp [fnd, lit_toList]), rfl, by first | trivial | rfl⟩
    · exact ⟨3, 36, 50, 240, by decide, by decide, by decide, by decide, by decide, by decide, fun k hk => (hf k hk).trans (by simp [fnd, lit_toList]), rfl, by first | trivial | rfl⟩
    · exact ⟨4, 85, 95, 270, by decide, by decide, by decide, by decide, by decide, by decide, fun k hk => (hf k hk).trans (by simp [fnd, lit_toList]), rfl, by first | trivial | rfl⟩
    · exact ⟨5, 35, 5, 370, by decide, by decide, by decide, by decide, by decide, by decide, fun k hk => (hf k hk).trans (by simp [fnd, lit_toList]), rfl, by first | trivial | rfl⟩
    · exact ⟨6, 42, 10, 290, by decide, by decide, by decide, by decide, by decide, by decide, fun k hk => (hf k hk).trans (by simp [fnd, lit_toList]), rfl, by first | trivial | rfl⟩
    · exact ⟨7, 40, 40, 330, by decide, by decide, by decide, by decide, by decide, by decide, fun k hk => (hf k hk).trans (by simp [fnd, lit_toList]), rfl, by first | trivial | rfl⟩
    · exact ⟨8, 60, 80, 220, by decide, by decide, by decide, by decide, by decide, by decide, fun k hk => (hf k hk).trans (by simp [fnd, lit_toList]), rfl, by first | trivial | rfl⟩
    · exact ⟨9, 38, 70, 260, by decide, by decide, by decide, by decide, by decide, by decide, fun k hk => (hf k hk).trans (by simp [fnd, lit_toList]), rfl, by first | trivial | rfl⟩
  · right
    unfold Known at h
    simp only [not_or] at h
    obtain ⟨h0, h1, h2, h3, h4, h5, h6, h7, h8, h9⟩ := h
    have e : ∀ l : List UInt8, ¬ x = l → ¬ l = x := fun l h1 h2 => h1 h2.symm
    constructor
    · intro k hk
      rw [hf k hk]
      simp only [fnd, lit_toList]
      rw [if_neg (e _ h0), if_neg (e _ h1), if_neg (e _ h2), if_neg (e _ h3), if_neg (e _ h4), if_neg (e _ h5), if_neg (e _ h6), if_neg (e _ h7), if_neg (e _ h8), if_neg (e _ h9)]
    · rw [if_neg h0, if_neg h1, if_neg h2, if_neg h3, if_neg h4, if_neg h5, if_neg h6, if_neg h7, if_neg h8, if_neg h9]

/-- the nearest quotient, halves away from 0 -/
def rdiv (a b : Int) : Int := if a < 0 then -((b - 2 * a) / (2 * b)) else (2 * a + b) / (2 * b)

theorem half_up {x b : Int} (hb : 0 < b) : (2 * x + b) / (2 * b) = if x % b ≥ b - x % b then x / b + 1 else x / b := by
  have hx := Int.mul_ediv_add_emod x b
  have hr0 := Int.emod_nonneg x (show b ≠ 0 by omega)
  have hr1 := Int.emod_lt_of_pos x hb
  generalize hq : x / b = q at *
  generalize hr : x % b = r at *
  have key : ∀ c : Int, c * (2 * b) ≤ 2 * x + b → 2 * x + b < (c + 1) * (2 * b) → (2 * x + b) / (2 * b) = c := by
    intro c h1 h2
    apply Int.le_antisymm
    · exact Int.lt_add_one_iff.1 ((Int.ediv_lt_iff_lt_mul (by omega)).2 h2)
    · exact (Int.le_ediv_iff_mul_le (by omega)).2 h1
  have e0 : q * (2 * b) = 2 * (b * q) := by rw [Int.mul_comm q, Int.mul_assoc]
  have e1 : (q + 1) * (2 * b) = 2 * (b * q) + 2 * b := by rw [Int.add_mul, e0]; omega
  have e2 : (q + 1 + 1) * (2 * b) = 2 * (b * q) + 2 * b + 2 * b := by rw [Int.add_mul, e1]; omega
  generalize b * q = p at *
  split
  · apply key
    · rw [e1]; omega
    · rw [e2]; omega
  · apply key
    · rw [e0]; omega
    · rw [e1]; omega

theorem l01Div_eq {a b : Int} (ha : -1000000000000000000 ≤ a) (ha2 : a ≤ 1000000000000000000) (hb : 0 < b) (hb2 : b ≤ 1000000000000) : spec_l01Div.f a b = some (rdiv a b) := by
  unfold spec_l01Div.f rdiv
  rw [if_neg (by omega)]
  by_cases h : a < 0
  · have d0 : 0 ≤ (b - 2 * a) / (2 * b) := Int.ediv_nonneg (by omega) (by omega)
    have d1 : (b - 2 * a) / (2 * b) ≤ b - 2 * a := Int.ediv_le_self _ (by omega)
    rw [if_pos h, if_pos h, w64 (x := 2 * b) (by omega) (by omega), if_neg (by omega), w64 (x := 2 * a) (by omega) (by omega), w64 (x := b - 2 * a) (by omega) (by omega), Int.tdiv_eq_ediv_of_nonneg (by omega), w64 (x := (b - 2 * a) / (2 * b)) (by omega) (by omega), w64 (by omega) (by omega)]
  · have d0 : 0 ≤ (2 * a + b) / (2 * b) := Int.ediv_nonneg (by omega) (by omega)
    have d1 : (2 * a + b) / (2 * b) ≤ 2 * a + b := Int.ediv_le_self _ (by omega)
    rw [if_neg h, if_neg h, w64 (x := 2 * b) (by omega) (by omega), if_neg (by omega), w64 (x := 2 * a) (by omega) (by omega), w64 (x := 2 * a + b) (by omega) (by omega), Int.tdiv_eq_ediv_of_nonneg (by omega), w64 (by omega) (by omega)]

theorem nearest_eq {a b : Int} (ha : -1000000000000000000 ≤ a) (ha2 : a ≤ 1000000000000000000) (hb : 0 < b) (hb2 : b ≤ 1000000000000) : impl_nearest.f a b = some (rdiv a b) := by
  have hm : mx b (wrap64 (-b)) = b := by rw [w64 (by omega) (by omega)]; unfold mx; rw [if_neg (by omega)]
  unfold impl_nearest.f rdiv
  rw [if_neg (by omega), hm, if_neg (by omega)]
  by_cases h : a < 0
  · have hx : mx a (wrap64 (-a)) = -a := by rw [w64 (by omega) (by omega)]; unfold mx; rw [if_pos (by omega)]
    have hh := half_up (x := -a) hb
    have d0 : 0 ≤ (-a) / b := Int.ediv_nonneg (by omega) (by omega)
    have d1 : (-a) / b ≤ -a := Int.ediv_le_self _ (by omega)
    have hr0 := Int.emod_nonneg (-a) (show b ≠ 0 by omega)
    have hr1 := Int.emod_lt_of_pos (-a) hb
    rw [hx, if_pos h, show b - 2 * a = 2 * -a + b by omega, hh, Int.tmod_eq_emod_of_nonneg (by omega), Int.tdiv_eq_ediv_of_nonneg (by omega), w64 (x := b - -a % b) (by omega) (by omega), w64 (x := -a / b) (by omega) (by omega)]
    have hc : (decide (a < 0) != decide (b < 0)) = true := by simp [h]; omega
    by_cases g : -a % b ≥ b - -a % b
    · rw [if_pos g, if_pos hc, if_pos g, w64 (x := -a / b + 1) (by omega) (by omega), w64 (by omega) (by omega)]
    · rw [if_neg g, if_pos hc, if_neg g, w64 (by omega) (by omega)]
  · have hx : mx a (wrap64 (-a)) = a := by rw [w64 (by omega) (by omega)]; unfold mx; rw [if_neg (by omega)]
    have hh := half_up (x := a) hb
    have d0 : 0 ≤ a / b := Int.ediv_nonneg (by omega) (by omega)
    have d1 : a / b ≤ a := Int.ediv_le_self _ (by omega)
    have hr0 := Int.emod_nonneg a (show b ≠ 0 by omega)
    have hr1 := Int.emod_lt_of_pos a hb
    rw [hx, if_neg h, hh, Int.tmod_eq_emod_of_nonneg (by omega), Int.tdiv_eq_ediv_of_nonneg (by omega), w64 (x := b - a % b) (by omega) (by omega), w64 (x := a / b) (by omega) (by omega)]
    have hc : ¬ (decide (a < 0) != decide (b < 0)) = true := by simp [h]; omega
    by_cases g : a % b ≥ b - a % b
    · rw [if_pos g, if_neg hc, if_pos g, w64 (x := a / b + 1) (by omega) (by omega)]
    · rw [if_neg g, if_neg hc, if_neg g]

theorem rdiv_bounds {a b m : Int} (hb : 0 < b) (h0 : -m ≤ a) (h1 : a ≤ m) : -(m + 1) ≤ rdiv a b ∧ rdiv a b ≤ m + 1 := by
  unfold rdiv
  have aux : ∀ x : Int, 0 ≤ x → x ≤ m → 0 ≤ (2 * x + b) / (2 * b) ∧ (2 * x + b) / (2 * b) ≤ m + 1 := by
    intro x hx hxm
    rw [half_up hb]
    have d0 : 0 ≤ x / b := Int.ediv_nonneg (by omega) (by omega)
    have d1 : x / b ≤ x := Int.ediv_le_self _ (by omega)
    split <;> omega
  split
  · have := aux (-a) (by omega) (by omega)
    rw [show b - 2 * a = 2 * -a + b by omega]
    omega
  · have := aux a (by omega) (by omega)
    omega

theorem specData_eq {a : ByteArray} {i s h w : Int} {k : Nat} (hk : 11 ≤ k) (h0 : 0 ≤ i) (h1 : i < 10) (hf : ∀ k, 11 ≤ k → spec_l07Find.f k a = some i) (ht : (spec_l07Table.f).bind (fun t => some (rd_L4 t i)) = some [s, h, w]) :
    spec_SpeciesData.f k a = some (s, h, w, 0) := by
  unfold spec_SpeciesData.f
  rw [hf k hk]
  cases hT : spec_l07Table.f with
  | none => rw [hT] at ht; cases ht
  | some t =>
    rw [hT] at ht
    simp only [Option.bind_some, Option.some.injEq] at ht ⊢
    have hl : t.length = 10 := by unfold spec_l07Table.f at hT; cases hT; rfl
    rw [if_neg (by omega), ht, if_pos h0, if_pos (by omega), if_pos (by simp), if_pos (by simp), if_pos (by simp)]
    rfl

theorem rd43_one (x : S43) : rd_T43 [x] 0 = x := rfl

theorem impl_valid (a : ByteArray) (wd : Int) : (∃ s h w : Int, impl_SpeciesData.f a = some (s, h, w, 0) ∧ impl_validBoard.f wd a = some (decide (1 ≤ wd ∧ wd ≤ 20000))) ∨ (impl_SpeciesData.f a = some (0, 0, 0, 3) ∧ impl_validBoard.f wd a = some false) := by
  unfold impl_validBoard.f impl_speciesShade.f
  rcases species a with ⟨i, h, s, w, i0, i1, _, _, _, _, hf, hd, ht⟩ | ⟨hf, hd⟩
  · left
    refine ⟨s, h, w, hd, ?_⟩
    rw [hd]; simp only [Option.bind_some, within_eq]; simp
  · right
    refine ⟨hd, ?_⟩
    rw [hd]; simp

theorem one_eq (a : ByteArray) (wd : Int) (k : Nat) (hk : 11 ≤ k) : ∃ b, spec_l20One.f k [(⟨wd, a⟩ : S43)] = some b ∧ impl_validBoard.f wd a = some b ∧
    (b = true → 1 ≤ wd ∧ wd ≤ 20000 ∧ ∃ s h w : Int, 200 ≤ w ∧ w ≤ 500 ∧ impl_SpeciesData.f a = some (s, h, w, 0) ∧ spec_SpeciesData.f k a = some (s, h, w, 0)) := by
  unfold spec_l20One.f impl_validBoard.f impl_speciesShade.f
  rw [if_pos (by simp), rd43_one]
  simp only [l00In_eq, Option.bind_some]
  rcases species a with ⟨i, h, s, w, i0, i1, _, _, w0, w1, hf, hd, ht⟩ | ⟨hf, hd⟩
  · rw [hd, hf k hk]
    simp only [Option.bind_some, within_eq]
    by_cases g : 1 ≤ wd ∧ wd ≤ 20000
    · refine ⟨true, by simp [g, i0], by simp [g], fun _ => ⟨g.1, g.2, s, h, w, w0, w1, rfl, specData_eq hk i0 i1 hf ht⟩⟩
    · refine ⟨false, by simp [g], by simp [g], fun h => by cases h⟩
  · rw [hd, hf k hk]
    simp only [Option.bind_some]
    refine ⟨false, ?_, by simp, fun h => by cases h⟩
    split <;> simp

theorem swell_eq {a : ByteArray} {s h w : Int} (hd : impl_SpeciesData.f a = some (s, h, w, 0)) {k : Nat} (hs : spec_SpeciesData.f k a = some (s, h, w, 0)) (w0 : 200 ≤ w) (w1 : w ≤ 500) (wd x y : Int) (hw : 1 ≤ wd ∧ wd ≤ 20000) (hx : 0 ≤ x ∧ x ≤ 280) (hy : 0 ≤ y ∧ y ≤ 280) :
    spec_l20Swell.f k [(⟨wd, a⟩ : S43)] x y = some (rdiv (wd * w * (y - x)) 1000000) ∧ impl_swell.f wd a x y = some (rdiv (wd * w * (y - x)) 1000000) ∧ -2800000000 ≤ wd * w * (y - x) ∧ wd * w * (y - x) ≤ 2800000000 := by
  have p0 : 0 ≤ wd * w := Int.mul_nonneg (by omega) (by omega)
  have p1 : wd * w ≤ 20000 * 500 := Int.mul_le_mul (by omega) (by omega) (by omega) (by omega)
  have q1 : wd * w * (y - x) ≤ 10000000 * 280 := by
    by_cases hyx : 0 ≤ y - x
    · exact Int.mul_le_mul (by omega) (by omega) hyx (by omega)
    · have : wd * w * (y - x) ≤ 0 := Int.mul_nonpos_of_nonneg_of_nonpos p0 (by omega)
      omega
  have q0 : -(10000000 * 280) ≤ wd * w * (y - x) := by
    by_cases hyx : y - x ≤ 0
    · have : wd * w * (x - y) ≤ 10000000 * 280 := Int.mul_le_mul (by omega) (by omega) (by omega) (by omega)
      have e : wd * w * (y - x) = -(wd * w * (x - y)) := by rw [← Int.mul_neg]; congr 1; omega
      omega
    · have : 0 ≤ wd * w * (y - x) := Int.mul_nonneg p0 (by omega)
      omega
  refine ⟨?_, ?_, by omega, by omega⟩
  · unfold spec_l20Swell.f
    rw [if_pos (by simp), rd43_one]
    simp only []
    rw [hs]
    simp only [Option.bind_some]
    rw [w64 (x := wd * w) (by omega) (by omega), w64 (x := y - x) (by omega) (by omega), w64 (x := wd * w * (y - x)) (by omega) (by omega), l01Div_eq (by omega) (by omega) (by omega) (by omega)]
    rfl
  · unfold impl_swell.f
    rw [hd]
    simp only [Option.bind_some]
    rw [w64 (x := wd * w) (by omega) (by omega), w64 (x := y - x) (by omega) (by omega), w64 (x := wd * w * (y - x)) (by omega) (by omega), nearest_eq (by omega) (by omega) (by omega) (by omega)]
    rfl

theorem rd38 (xs : List S38) (i : Nat) (h : i < xs.length) : rd_T38 xs (i : Int) = xs[i] := by
  unfold rd_T38; simp [List.getD, h]
theorem rd43 (xs : List S43) (i : Nat) (h : i < xs.length) : rd_T43 xs (i : Int) = xs[i] := by
  unfold rd_T43; simp [List.getD, h]

def toBoard_ (x : S38) : S43 := ⟨x.f0, x.f1⟩

theorem toBoardS_eq (l : List S38) (hl : l.length ≤ 1048576) (k : Nat) (hk : l.length < k) : laws_toBoardS.f k l = some (l.map toBoard_) := by
  unfold laws_toBoardS.f
  rw [if_pos (by omega), if_pos (by omega), show ((l.length : Int)).toNat = l.length by omega]
  refine loop_map l z43 toBoard_ (fun k s i => laws_toBoardS.l0 k l s i) ?_ ?_ k hk
  · intro k s i h hs
    simp only [laws_toBoardS.l0]
    rw [if_pos (by omega), if_pos (by omega), rd38 l i h]
    unfold laws_toBoard.f
    simp only [Option.bind_some]
    rw [if_pos (by omega), wnat (by omega)]
    rfl
  · intro k s
    simp only [laws_toBoardS.l0]
    rw [if_neg (by omega)]

theorem eqBoardS_eq (l : List S43) (hl : l.length ≤ 1048576) (k : Nat) (hk : l.length < k) : laws_eqBoardS.f k l l = some true := by
  unfold laws_eqBoardS.f
  rw [if_pos rfl]
  refine loop_all l.length 0 (fun k i => laws_eqBoardS.l0 k l l i) true ?_ ?_ k (by omega)
  · intro k i _ h
    simp only [laws_eqBoardS.l0]
    rw [if_pos (by omega), if_pos (by omega), if_pos (by omega)]
    unfold laws_eqBoard.f
    simp only [if_true, Option.bind_some]
    rw [wnat (by omega)]
  · intro k
    simp only [laws_eqBoardS.l0]
    rw [if_neg (by omega)]

theorem szBoard_eq (w : Int) (s : ByteArray) (a : Int) (ha : 0 ≤ a) (ha2 : a ≤ 1048576) (hs : s.size ≤ maxLen) : laws_szBoard.f w s a = some (if a < s.size then -1 else a - s.size) := by
  unfold maxLen at hs
  unfold laws_szBoard.f
  rw [w64 (x := a - s.size) (by omega) (by omega)]
  by_cases h : a < s.size
  · rw [if_pos (by omega), if_pos h]
  · rw [if_neg (by omega), if_neg h]

def szStBoard (a : Int) (x : S38) (_ : Nat) : Int ⊕ Int := if a < x.f1.size then .inr (-1) else .inl (a - x.f1.size)

theorem run_szBoard : ∀ (l : List S38) (a : Int) (i : Nat), 0 ≤ a → run szStBoard (fun v => v) l a i < 0 ∨ 0 ≤ run szStBoard (fun v => v) l a i ∧ run szStBoard (fun v => v) l a i ≤ a
  | [], a, i, h => .inr ⟨h, Int.le_refl _⟩
  | x :: l, a, i, h => by
    simp only [run, szStBoard]
    by_cases g : a < x.f1.size
    · simp only [if_pos g]; exact .inl (by decide)
    · simp only [if_neg g]
      rcases run_szBoard l (a - x.f1.size) (i + 1) (by omega) with h | h
      · exact .inl h
      · refine .inr ⟨h.1, ?_⟩
        have := h.2
        show run szStBoard (fun v => v) l (a - x.f1.size) (i + 1) ≤ a
        omega

theorem szBoardS_eq (l : List S38) (a : Int) (ha : 0 ≤ a) (ha2 : a ≤ 1048576) (hl : l.length ≤ maxLen) (hg : ∀ y ∈ l, G38 y) :
    ∃ v, (∀ k, 1048577 < k → laws_szBoardS.f k l a = some v) ∧ (v < 0 ∨ 0 ≤ v ∧ v ≤ a ∧ l.length ≤ 1048576) := by
  unfold maxLen at hl
  by_cases h : a - l.length < 0
  · refine ⟨-1, fun k _ => ?_, .inl (by decide)⟩
    unfold laws_szBoardS.f
    rw [w64 (x := a - l.length) (by omega) (by omega), if_pos h]
  · refine ⟨run szStBoard (fun v => v) l (a - l.length) 0, fun k hk => ?_, ?_⟩
    · unfold laws_szBoardS.f
      rw [w64 (x := a - l.length) (by omega) (by omega), if_neg h]
      refine loop_run0 l 0 (fun v _ => 0 ≤ v ∧ v ≤ 1048576) (fun k s i => laws_szBoardS.l0 k l s i) szStBoard (fun v => v) ?_ ?_ k _ (by omega) ⟨by omega, by omega⟩
      · intro k s i hi _ ⟨s0, s1⟩
        simp only [laws_szBoardS.l0]
        rw [if_pos (by omega), if_pos (by omega), rd38 l i hi, szBoard_eq _ _ _ s0 s1 (hg _ (List.getElem_mem hi)).2]
        simp only [Option.bind_some]
        unfold szStBoard
        by_cases g : s < l[i].f1.size
        · simp only [if_pos g]; exact .inr ⟨-1, rfl, if_pos (by decide)⟩
        · simp only [if_neg g]
          exact .inl ⟨_, rfl, ⟨by omega, by omega⟩, by rw [if_neg (by omega), wnat (by omega)]⟩
      · intro k s _ _
        simp only [laws_szBoardS.l0]
        rw [if_neg (by omega)]
    · rcases run_szBoard l (a - l.length) 0 (by omega) with h | h
      · exact .inl h
      · exact .inr ⟨h.1, by omega, by omega⟩

def vb (x : S43) : Bool := impl_validBoard.f x.f0 x.f1 == some true

def wOf (a : ByteArray) : Int := ((impl_SpeciesData.f a).getD (0, 0, 0, 0)).2.2.1
def swv (x : S43) (a b : Int) : Int := rdiv (x.f0 * wOf x.f1 * (b - a)) 1000000

theorem vb_one (x : S43) (k : Nat) (hk : 11 ≤ k) : spec_l20One.f k [x] = some (vb x) ∧ impl_validBoard.f x.f0 x.f1 = some (vb x) := by
  obtain ⟨b, e1, e2, _⟩ := one_eq x.f1 x.f0 k hk
  have e : vb x = b := by unfold vb; rw [e2]; cases b <;> rfl
  rw [e]; exact ⟨e1, e2⟩

theorem sw_eq (x : S43) (h : vb x = true) (a b : Int) (ha : 0 ≤ a ∧ a ≤ 280) (hb : 0 ≤ b ∧ b ≤ 280) : (∀ k, 11 ≤ k → spec_l20Swell.f k [x] a b = some (swv x a b)) ∧ impl_swell.f x.f0 x.f1 a b = some (swv x a b) ∧ -3000000000 ≤ swv x a b ∧ swv x a b ≤ 3000000000 ∧ 1 ≤ x.f0 ∧ x.f0 ≤ 20000 := by
  have key : ∀ k, 11 ≤ k → spec_l20Swell.f k [x] a b = some (swv x a b) ∧ impl_swell.f x.f0 x.f1 a b = some (swv x a b) ∧ -3000000000 ≤ swv x a b ∧ swv x a b ≤ 3000000000 ∧ 1 ≤ x.f0 ∧ x.f0 ≤ 20000 := by
    intro k hk
    obtain ⟨bb, e1, e2, e3⟩ := one_eq x.f1 x.f0 k hk
    have e : bb = true := by
      have h2 := (vb_one x k hk).2
      rw [h, e2] at h2
      exact Option.some.inj h2
    obtain ⟨g0, g1, s, hh, w, w0, w1, hd, hsd⟩ := e3 e
    obtain ⟨f1, f2, f3, f4⟩ := swell_eq hd hsd w0 w1 x.f0 a b ⟨g0, g1⟩ ha hb
    have hw : wOf x.f1 = w := by unfold wOf; rw [hd]; rfl
    have hv : swv x a b = rdiv (x.f0 * w * (b - a)) 1000000 := by unfold swv; rw [hw]
    rw [hv]
    have hbd := rdiv_bounds (a := x.f0 * w * (b - a)) (b := 1000000) (m := 2800000000) (by omega) (by omega) (by omega)
    exact ⟨f1, f2, by omega, by omega, g0, g1⟩
  exact ⟨fun k hk => (key k hk).1, (key 11 (Nat.le_refl _)).2⟩

def okB (l : List S43) : Bool := l.all vb && decide (l.length ≤ 48)

theorem specOkB (l : List S43) (hl : l.length ≤ 1048576) (k : Nat) (hk : l.length + 20 < k) : spec_l20Ok.f k l = some (okB l) := by
  unfold spec_l20Ok.f okB
  rw [all_loop l 13 vb false (decide (l.length ≤ 48)) (fun k i => spec_l20Ok.l0 k l i) ?_ ?_ k (by omega)]
  · cases l.all vb <;> simp
  · intro k i hi hk
    simp only [spec_l20Ok.l0]
    rw [if_pos (by omega), if_pos (by omega), rd43 l i hi, wnat (by omega), (vb_one l[i] k (by omega)).1]
    simp only [Option.bind_some]
  · intro k hk
    simp only [spec_l20Ok.l0]
    rw [if_neg (by omega)]
    simp; omega

theorem implOkB (l : List S43) (hl : l.length ≤ 1048576) (k : Nat) (hk : l.length + 20 < k) : impl_ValidBoards.f k l = some (okB l) := by
  unfold impl_ValidBoards.f okB
  rw [all_loop l 13 vb false (decide (l.length ≤ 48)) (fun k i => impl_ValidBoards.l0 k l l (l.length : Int) i) ?_ ?_ k (by omega)]
  · cases l.all vb <;> simp
  · intro k i hi hk
    simp only [impl_ValidBoards.l0]
    rw [if_pos (by omega), if_pos (by omega), if_pos (by omega), rd43 l i hi, wnat (by omega), (vb_one l[i] k (by omega)).2]
    simp only [Option.bind_some]
  · intro k hk
    simp only [impl_ValidBoards.l0]
    rw [if_neg (by omega)]
    simp; omega

theorem okB_mem {l : List S43} (h : okB l = true) (i : Nat) (hi : i < l.length) : vb l[i] = true := by
  unfold okB at h
  rw [Bool.and_eq_true, List.all_eq_true] at h
  exact h.1 _ (List.getElem_mem hi)

theorem okB_len {l : List S43} (h : okB l = true) : l.length ≤ 48 := by
  unfold okB at h
  rw [Bool.and_eq_true, decide_eq_true_eq] at h
  exact h.2

abbrev tabM : List Int := [0, 0, 30, 60, 50, 90, 65, 120, 80, 160, 100, 280]
def moistOk (i : Nat) : Bool := match spec_l20At.f 40 (i : Int), impl_moisture.f 40 (i : Int) tabM with
  | some v, some u => decide (v = u) && decide (0 ≤ v) && decide (v ≤ 280)
  | _, _ => false
/-- the 101 humidities, each tried by the kernel -/
theorem moist_all : (List.range 101).all moistOk = true := by decide +kernel
def mo (x : Int) : Int := (spec_l20At.f 40 x).getD 0

theorem mo_eq (x : Int) (hx : 0 ≤ x ∧ x ≤ 100) (k : Nat) (hk : 40 ≤ k) : spec_l20At.f k x = some (mo x) ∧ impl_moisture.f k x tabM = some (mo x) ∧ 0 ≤ mo x ∧ mo x ≤ 280 := by
  obtain ⟨i, rfl⟩ := Int.eq_ofNat_of_zero_le hx.1
  have h := List.all_eq_true.1 moist_all i (List.mem_range.2 (by omega))
  unfold moistOk at h
  unfold mo
  cases e1 : spec_l20At.f 40 (i : Int) with
  | none => rw [e1] at h; cases h
  | some v =>
    cases e2 : impl_moisture.f 40 (i : Int) tabM with
    | none => rw [e1, e2] at h; cases h
    | some u =>
      rw [e1, e2] at h
      simp only [Bool.and_eq_true, decide_eq_true_eq] at h
      obtain ⟨⟨rfl, h0⟩, h1⟩ := h
      refine ⟨?_, ?_, h0, h1⟩
      · exact at_rounds (g := fun k => spec_l20At.f k (i : Int)) (fun k => spec_l20At.mono _ k) (k := 40) hk e1
      · exact at_rounds (g := fun k => impl_moisture.f k (i : Int) tabM) (fun k => impl_moisture.mono _ _ k) (k := 40) hk e2

def hum (x : Int) : Bool := decide (0 ≤ x ∧ x ≤ 100)

theorem months_eq (l : List Int) (hl : l.length ≤ 1048576) (k : Nat) (hk : l.length < k) : spec_l20Months.f k l = some (if l.all hum = true then ((l.length : Int) == 12) else false) := by
  unfold spec_l20Months.f
  refine all_loop l 0 hum false ((l.length : Int) == 12) (fun k i => spec_l20Months.l0 k l i) ?_ ?_ k (by omega)
  · intro k i hi _
    simp only [spec_l20Months.l0]
    unfold spec_l20Humidity.f
    rw [if_pos (by omega), if_pos (by omega), rdi l i hi, l00In_eq, wnat (by omega)]
    rfl
  · intro k _
    simp only [spec_l20Months.l0]
    rw [if_neg (by omega)]

theorem mn_eq (a b : Int) : mn a b = if a < b then a else b := by unfold mn; split <;> split <;> omega
theorem mx_eq (a b : Int) : mx a b = if a > b then a else b := by unfold mx; split <;> split <;> omega

theorem range_loops (l : List Int) (hl : l.length = 12) (hv : l.all hum = true) : ∀ (n i : Nat) (lo hi : Int), i + n = 12 →
    ∃ r : Int × Int, ((0 ≤ lo ∧ lo ≤ 280) → (0 ≤ hi ∧ hi ≤ 280) → (0 ≤ r.1 ∧ r.1 ≤ 280) ∧ 0 ≤ r.2 ∧ r.2 ≤ 280) ∧ ∀ k, n + 60 < k → spec_l20Range.l0 k l lo hi (i : Int) = some r ∧ impl_SeasonRange.l0 k lo hi l (l.length : Int) (i : Int) tabM = some (r.1, r.2, 0) := by
  intro n
  induction n with
  | zero =>
    intro i lo hi h
    refine ⟨(lo, hi), fun a b => ⟨a, b⟩, fun k hk => ?_⟩
    obtain ⟨k, rfl⟩ : ∃ m, k = m + 1 := ⟨k - 1, by omega⟩
    rw [spec_l20Range.l0, impl_SeasonRange.l0, if_neg (by omega), if_neg (by omega)]
    exact ⟨rfl, rfl⟩
  | succ n ih =>
    intro i lo hi h
    have hlt : i < l.length := by omega
    have hx : 0 ≤ l[i] ∧ l[i] ≤ 100 := by
      have := List.all_eq_true.1 hv _ (List.getElem_mem hlt)
      simpa [hum] using this
    obtain ⟨_, _, mb0, mb1⟩ := mo_eq l[i] hx 40 (by omega)
    obtain ⟨r, hrb, hr⟩ := ih (i + 1) (if lo < mo l[i] then lo else mo l[i]) (if hi > mo l[i] then hi else mo l[i]) (by omega)
    refine ⟨r, fun a b => hrb (by constructor <;> (split <;> omega)) (by constructor <;> (split <;> omega)), fun k hk => ?_⟩
    obtain ⟨k, rfl⟩ : ∃ m, k = m + 1 := ⟨k - 1, by omega⟩
    obtain ⟨e1, e2, _, _⟩ := mo_eq l[i] hx k (by omega)
    obtain ⟨q1, q2⟩ := hr k (by omega)
    have m1 : spec_l00Min.f lo (mo l[i]) = some (if lo < mo l[i] then lo else mo l[i]) := by unfold spec_l00Min.f; split <;> rfl
    have m2 : spec_l00Max.f hi (mo l[i]) = some (if hi > mo l[i] then hi else mo l[i]) := by unfold spec_l00Max.f; split <;> rfl
    rw [spec_l20Range.l0, impl_SeasonRange.l0, if_pos (by omega), if_pos (by omega), if_pos (by omega), if_pos (by omega), if_pos (by omega), if_pos (by omega), rdi l i hlt, e1, e2, wnat (by omega), within_eq]
    simp only [Option.bind_some, m1, m2, decide_eq_true hx, if_true, mn_eq, mx_eq]
    exact ⟨q1, q2⟩

theorem range_bad (l : List Int) (hl : l.length = 12) : ∀ (n i : Nat) (lo hi : Int), i + n = 12 → (l.drop i).all hum = false → ∀ k, n + 60 < k → impl_SeasonRange.l0 k lo hi l (l.length : Int) (i : Int) tabM = some (0, 0, 2) := by
  intro n
  induction n with
  | zero =>
    intro i lo hi h hb
    rw [List.drop_of_length_le (by omega)] at hb
    cases hb
  | succ n ih =>
    intro i lo hi h hb k hk
    obtain ⟨k, rfl⟩ : ∃ m, k = m + 1 := ⟨k - 1, by omega⟩
    have hlt : i < l.length := by omega
    rw [impl_SeasonRange.l0, if_pos (by omega), if_pos (by omega), if_pos (by omega), rdi l i hlt, within_eq]
    simp only [Option.bind_some]
    by_cases hx : 0 ≤ l[i] ∧ l[i] ≤ 100
    · obtain ⟨_, e2, _, _⟩ := mo_eq l[i] hx k (by omega)
      rw [decide_eq_true hx, if_pos rfl, e2, wnat (by omega)]
      simp only [Option.bind_some]
      rw [List.drop_eq_getElem_cons hlt, List.all_cons] at hb
      have : hum l[i] = true := decide_eq_true hx
      rw [this, Bool.true_and] at hb
      exact ih (i + 1) _ _ (by omega) hb k (by omega)
    · rw [decide_eq_false hx]; rfl

theorem season_eq (l : List Int) (hl : l.length ≤ 1048576) : ∃ r : Int × Int × Int, (l.all hum = true ∧ l.length = 12 ∧ r.2.2 = 0 ∧ 0 ≤ r.2.1 ∧ r.2.1 ≤ 280 ∧ (0 ≤ r.1 ∧ r.1 ≤ 280) ∧ (∀ k, 1049000 ≤ k → spec_l20Range.f k l = some (r.1, r.2.1)) ∨ (if l.all hum = true then ((l.length : Int) == 12) else false) = false ∧ r = (0, 0, 2)) ∧ ∀ k, 1049000 ≤ k → impl_SeasonRange.f k l tabM = some r := by
  by_cases h12 : l.length = 12
  · by_cases hv : l.all hum = true
    · have hx : (0 : Int) ≤ l[0] ∧ l[0] ≤ 100 := by
        have := List.all_eq_true.1 hv _ (List.getElem_mem (show 0 < l.length by omega))
        simpa [hum] using this
      obtain ⟨r, hrb, hr⟩ := range_loops l h12 hv 11 1 (mo l[0]) (mo l[0]) (by omega)
      obtain ⟨_, _, mb0, mb1⟩ := mo_eq l[0] hx 40 (by omega)
      have hb := hrb ⟨mb0, mb1⟩ ⟨mb0, mb1⟩
      refine ⟨(r.1, r.2, 0),   .inl ⟨hv, h12, rfl, hb.2.1, hb.2.2, hb.1, fun k hk => ?_⟩, fun k hk => ?_⟩
      · obtain ⟨e1, _, _, _⟩ := mo_eq l[0] hx k (by omega)
        obtain ⟨q1, _⟩ := hr k (by omega)
        have r0 : rd l 0 = l[0] := rdi l 0 (by omega)
        unfold spec_l20Range.f
        rw [r0, e1, if_pos (by omega)]
        simp only [Option.bind_some]
        rw [show (1 : Int) = ((1 : Nat) : Int) from rfl, q1]
      obtain ⟨k, rfl⟩ : ∃ m, k = m + 1 := ⟨k - 1, by omega⟩
      obtain ⟨e1, e2, b0, b1⟩ := mo_eq l[0] hx (k + 1) (by omega)
      obtain ⟨_, e2', _, _⟩ := mo_eq l[0] hx k (by omega)
      obtain ⟨q1, _⟩ := hr (k + 1) (by omega)
      obtain ⟨_, q2⟩ := hr k (by omega)
      have r0 : rd l 0 = l[0] := rdi l 0 (by omega)
      unfold impl_SeasonRange.f
      rw [if_pos (show (l.length : Int) = 12 by omega), impl_SeasonRange.l0, r0, if_pos (by omega), if_pos (by omega), if_pos (by omega), within_eq, e2', decide_eq_true hx]
      simp only [Option.bind_some, if_true]
      have m1 : mn 280 (mo l[0]) = mo l[0] := by rw [mn_eq]; split <;> omega
      have m2 : mx 0 (mo l[0]) = mo l[0] := by rw [mx_eq]; split <;> omega
      rw [m1, m2, show wrap64 (0 + 1) = ((1 : Nat) : Int) from by rw [w64 (by omega) (by omega)]; rfl]
      rw [q2]
    · refine ⟨(0, 0, 2), .inr ⟨if_neg hv, rfl⟩, fun k hk => ?_⟩
      have hb := range_bad l h12 12 0 280 0 (by omega) (by simpa using hv) k (by omega)
      simp only [Int.natCast_zero] at hb
      unfold impl_SeasonRange.f
      rw [if_pos (show (l.length : Int) = 12 by omega), hb]
  · refine ⟨(0, 0, 2), .inr ⟨by rw [show (((l.length : Nat) : Int) == 12) = false from by simp; omega]; simp, rfl⟩, fun k hk => ?_⟩
    unfold impl_SeasonRange.f
    rw [if_neg (show ¬ (l.length : Int) = 12 by omega)]

theorem l00Max_eq (a b : Int) : spec_l00Max.f a b = some (if a > b then a else b) := by
  unfold spec_l00Max.f; split <;> rfl

def gapv (a b : Int) (x y : S43) : Int := (if 0 > -swv x a b - swv y a b then 0 else -swv x a b - swv y a b) / 2

theorem gap_loops (l : List S43) (ho : okB l = true) (a b : Int) (ha : 0 ≤ a ∧ a ≤ 280) (hb : 0 ≤ b ∧ b ≤ 280) : ∀ (n i : Nat) (s : List Int), i + n = l.length → s.length = i → (i < l.length ∨ l.length = 0) →
    (∀ x ∈ s, 0 ≤ x ∧ x ≤ 3000000000) → ∃ r : List Int, (r.length + 1 = l.length ∨ l.length = 0 ∧ r.length = 0) ∧ (∀ x ∈ r, 0 ≤ x ∧ x ≤ 3000000000) ∧ ∀ k, n + 20 < k → spec_l20Gaps.l0 k l a b s (i : Int) = some r ∧ impl_jointGaps.l0 k l a b s (i : Int) = some r := by
  have hlen := okB_len ho
  intro n
  induction n with
  | zero =>
    intro i s hi hs hil hsb
    have h0 : l.length = 0 := by omega
    refine ⟨s, .inr ⟨h0, by omega⟩, hsb, fun k hk => ?_⟩
    obtain ⟨k, rfl⟩ : ∃ m, k = m + 1 := ⟨k - 1, by omega⟩
    simp only [spec_l20Gaps.l0, impl_jointGaps.l0]
    rw [w64 (x := (i : Int) + 1) (by omega) (by omega), if_neg (by omega), if_neg (by omega)]
    exact ⟨rfl, rfl⟩
  | succ n ih =>
    intro i s hi hs hil hsb
    by_cases hlast : i + 1 < l.length
    · have hlt : i < l.length := by omega
      obtain ⟨e1, e2, b0, b1, w0, w1⟩ := sw_eq l[i] (okB_mem ho i hlt) a b ha hb
      obtain ⟨f1, f2, c0, c1, _, _⟩ := sw_eq l[i + 1] (okB_mem ho (i + 1) hlast) a b ha hb
      have hg : 0 ≤ gapv a b l[i] l[i + 1] ∧ gapv a b l[i] l[i + 1] ≤ 3000000000 := by
        unfold gapv; split <;> omega
      obtain ⟨r, h1, h2, h3⟩ := ih (i + 1) (s ++ [gapv a b l[i] l[i + 1]]) (by omega) (by simp [hs]) (.inl hlast) (by
        intro x hx
        rcases List.mem_append.1 hx with hx | hx
        · exact hsb x hx
        · rw [List.mem_singleton.1 hx]; exact hg)
      refine ⟨r, h1, h2, fun k hk => ?_⟩
      obtain ⟨k, rfl⟩ : ∃ m, k = m + 1 := ⟨k - 1, by omega⟩
      obtain ⟨q1, q2⟩ := h3 k (by omega)
      simp only [spec_l20Gaps.l0, impl_jointGaps.l0]
      have hcap : s.length < 17592186044416 := by omega
      have hx : wrap64 (wrap64 (-swv l[i] a b) - swv l[i + 1] a b) = -swv l[i] a b - swv l[i + 1] a b := by
        rw [w64 (x := -swv l[i] a b) (by omega) (by omega), w64 (by omega) (by omega)]
      have hd : wrap64 (Int.tdiv (if 0 > -swv l[i] a b - swv l[i + 1] a b then 0 else -swv l[i] a b - swv l[i + 1] a b) 2) = gapv a b l[i] l[i + 1] := by
        rw [Int.tdiv_eq_ediv_of_nonneg (by split <;> omega)]
        unfold gapv at hg ⊢
        exact w64 (by omega) (by omega)
      have hd2 : wrap64 (Int.tdiv (mx (-swv l[i] a b - swv l[i + 1] a b) 0) 2) = gapv a b l[i] l[i + 1] := by
        have : mx (-swv l[i] a b - swv l[i + 1] a b) 0 = if 0 > -swv l[i] a b - swv l[i + 1] a b then 0 else -swv l[i] a b - swv l[i + 1] a b := by
          unfold mx; rfl
        rw [this, hd]
      constructor
      · rw [wnat (by omega), if_pos (by omega), if_pos (by omega), if_pos (by omega), rd43 l i hlt, rd43 l (i + 1) hlast, e1 k (by omega)]
        simp only [Option.bind_some]
        rw [if_pos (by omega), f1 k (by omega)]
        simp only [Option.bind_some]
        rw [hx, l00Max_eq]
        simp only [Option.bind_some]
        rw [if_pos hcap, hd]
        exact q1
      · rw [wnat (by omega), if_pos (by omega), if_pos (by omega), if_pos (by omega), rd43 l i hlt, rd43 l (i + 1) hlast, e2]
        simp only [Option.bind_some]
        rw [if_pos (by omega), f2]
        simp only [Option.bind_some]
        rw [if_pos hcap, hx, hd2]
        exact q2
    · refine ⟨s, .inl (by omega), hsb, fun k hk => ?_⟩
      obtain ⟨k, rfl⟩ : ∃ m, k = m + 1 := ⟨k - 1, by omega⟩
      simp only [spec_l20Gaps.l0, impl_jointGaps.l0]
      rw [w64 (x := (i : Int) + 1) (by omega) (by omega), if_neg (by omega), if_neg (by omega)]
      exact ⟨rfl, rfl⟩

theorem gaps_eq (l : List S43) (ho : okB l = true) (a b : Int) (ha : 0 ≤ a ∧ a ≤ 280) (hb : 0 ≤ b ∧ b ≤ 280) : ∃ r : List Int, (r.length + 1 = l.length ∨ l.length = 0 ∧ r.length = 0) ∧ (∀ x ∈ r, 0 ≤ x ∧ x ≤ 3000000000) ∧ ∀ k, 100 < k → spec_l20Gaps.f k l a b = some r ∧ impl_jointGaps.f k l a b = some r := by
  have hlen := okB_len ho
  obtain ⟨r, h1, h2, h3⟩ := gap_loops l ho a b ha hb l.length 0 [] (by omega) rfl (by omega) (by simp)
  exact ⟨r, h1, h2, fun k hk => by
    have := h3 k (by omega)
    simpa [spec_l20Gaps.f, impl_jointGaps.f] using this⟩

def sumF (a b : Int) : List S43 → Int → Int
  | [], s => s
  | x :: l, s => sumF a b l (s + (x.f0 + swv x a b))
def sumG (a b : Int) : List S43 → Int → Int
  | [], s => s
  | x :: l, s => sumG a b l (s + swv x a b)

theorem swv_same (x : S43) (a : Int) : swv x a a = 0 := by
  unfold swv rdiv
  rw [Int.sub_self, Int.mul_zero]; rfl

theorem sum_diff (a b : Int) : ∀ (l : List S43) (s t u : Int), s - t = u → sumF a b l s - sumF a a l t = sumG a b l u
  | [], s, t, u, h => h
  | x :: l, s, t, u, h => by
    rw [sumF, sumF, sumG]
    exact sum_diff a b l _ _ _ (by rw [swv_same]; omega)

theorem floor_loops (l : List S43) (ho : okB l = true) (a b : Int) (ha : 0 ≤ a ∧ a ≤ 280) (hb : 0 ≤ b ∧ b ≤ 280) : ∀ (n i k : Nat) (s : Int), i + n = l.length → n + 20 < k → -4000000000 * i ≤ s → s ≤ 4000000000 * i →
    spec_l20Floor.l0 k l a b s (i : Int) = some (sumF a b (l.drop i) s) ∧ -200000000000 ≤ sumF a b (l.drop i) s ∧ sumF a b (l.drop i) s ≤ 200000000000 := by
  have hlen := okB_len ho
  intro n
  induction n with
  | zero =>
    intro i k s hi hk h0 h1
    obtain ⟨k, rfl⟩ : ∃ m, k = m + 1 := ⟨k - 1, by omega⟩
    obtain rfl : i = l.length := by omega
    rw [List.drop_length]
    refine ⟨by simp only [spec_l20Floor.l0]; rw [if_neg (by omega)]; rfl, ?_, ?_⟩
    · show -200000000000 ≤ s; omega
    · show s ≤ 200000000000; omega
  | succ n ih =>
    intro i k s hi hk h0 h1
    obtain ⟨k, rfl⟩ : ∃ m, k = m + 1 := ⟨k - 1, by omega⟩
    have hlt : i < l.length := by omega
    obtain ⟨e1, e2, b0, b1, w0, w1⟩ := sw_eq l[i] (okB_mem ho i hlt) a b ha hb
    rw [List.drop_eq_getElem_cons hlt]
    have hh := ih (i + 1) k (s + (l[i].f0 + swv l[i] a b)) (by omega) (by omega) (by omega) (by omega)
    refine ⟨?_, hh.2⟩
    simp only [spec_l20Floor.l0]
    rw [if_pos (by omega), if_pos (by omega), rd43 l i hlt, e1 k (by omega)]
    simp only [Option.bind_some]
    rw [w64 (x := l[i].f0 + swv l[i] a b) (by omega) (by omega), w64 (x := s + (l[i].f0 + swv l[i] a b)) (by omega) (by omega), wnat (by omega)]
    exact hh.1

theorem edge_loops (l : List S43) (ho : okB l = true) (a b : Int) (ha : 0 ≤ a ∧ a ≤ 280) (hb : 0 ≤ b ∧ b ≤ 280) : ∀ (n i k : Nat) (s : Int), i + n = l.length → n + 20 < k → -4000000000 * i ≤ s → s ≤ 4000000000 * i →
    impl_edgeGap.l0 k a b s l (l.length : Int) (i : Int) = some (sumG a b (l.drop i) s) := by
  have hlen := okB_len ho
  intro n
  induction n with
  | zero =>
    intro i k s hi hk h0 h1
    obtain ⟨k, rfl⟩ : ∃ m, k = m + 1 := ⟨k - 1, by omega⟩
    obtain rfl : i = l.length := by omega
    rw [List.drop_length, impl_edgeGap.l0, if_neg (by omega)]; rfl
  | succ n ih =>
    intro i k s hi hk h0 h1
    obtain ⟨k, rfl⟩ : ∃ m, k = m + 1 := ⟨k - 1, by omega⟩
    have hlt : i < l.length := by omega
    obtain ⟨e1, e2, b0, b1, w0, w1⟩ := sw_eq l[i] (okB_mem ho i hlt) a b ha hb
    rw [List.drop_eq_getElem_cons hlt, impl_edgeGap.l0]
    rw [if_pos (by omega), if_pos (by omega), if_pos (by omega), rd43 l i hlt, e2]
    simp only [Option.bind_some]
    rw [w64 (x := s + swv l[i] a b) (by omega) (by omega), wnat (by omega)]
    exact ih (i + 1) k (s + swv l[i] a b) (by omega) (by omega) (by omega) (by omega)

def tot : List Int → Int → Int
  | [], t => t
  | x :: xs, t => tot xs (t + x)
theorem tot_bounds : ∀ (l : List Int) (t : Int), (∀ x ∈ l, 0 ≤ x ∧ x ≤ 3000000000) → 0 ≤ t → 0 ≤ tot l t ∧ tot l t ≤ t + 3000000000 * l.length
  | [], t, _, h => ⟨h, by simp [tot]⟩
  | x :: l, t, hb, h => by
    have hx := hb x (List.mem_cons_self ..)
    have := tot_bounds l (t + x) (fun y hy => hb y (List.mem_cons_of_mem _ hy)) (by omega)
    rw [tot, List.length_cons]
    omega

theorem sum_loops (g : List Int) (hg : g.length ≤ 48) (hb : ∀ x ∈ g, 0 ≤ x ∧ x ≤ 3000000000) : ∀ (n i : Nat) (t : Int), i + n = g.length → 0 ≤ t → t ≤ 3000000000 * i → ∀ k, n < k → impl_sumOf.l0 k t g (g.length : Int) (i : Int) = some (tot (g.drop i) t) := by
  intro n
  induction n with
  | zero =>
    intro i t hi t0 t1 k hk
    obtain ⟨k, rfl⟩ : ∃ m, k = m + 1 := ⟨k - 1, by omega⟩
    rw [impl_sumOf.l0, if_neg (by omega), List.drop_of_length_le (by omega)]; rfl
  | succ n ih =>
    intro i t hi t0 t1 k hk
    obtain ⟨k, rfl⟩ : ∃ m, k = m + 1 := ⟨k - 1, by omega⟩
    have hlt : i < g.length := by omega
    have hx := hb _ (List.getElem_mem hlt)
    rw [impl_sumOf.l0, if_pos (by omega), if_pos (by omega), if_pos (by omega), rdi g i hlt, w64 (x := t + g[i]) (by omega) (by omega), wnat (by omega), ih (i + 1) _ (by omega) (by omega) (by omega) k (by omega), List.drop_eq_getElem_cons hlt]
    rfl

def worst (a b : Int) : Int := if a > b then a else b

/-- the reference's walk over the gaps ends in its own tail -/
theorem spec_sum (l : List S43) (m : List Int) (lo b L : Int) (i : Nat) (hi : i < 12) (g : List Int) (hg : g.length ≤ 48) (hb : ∀ x ∈ g, 0 ≤ x ∧ x ≤ 3000000000) (e : Int) (he : ∀ k, 1099000 ≤ k → spec_l20Edge.f k l m (i : Int) = some e) :
    ∀ (n j : Nat) (t : Int), j + n = g.length → 0 ≤ t → t ≤ 3000000000 * j → ∀ k f, f = k + n + 1 → 1099000 ≤ k → spec_BestMonth.l1 f l m lo b L (i : Int) g t (j : Int) =
      (if L < 0 then (spec_BestMonth.l0 k l m lo (i : Int) (worst (tot (g.drop j) t) e) ((i + 1 : Nat) : Int)) else (if worst (tot (g.drop j) t) e < L then (spec_BestMonth.l0 k l m lo (i : Int) (worst (tot (g.drop j) t) e) ((i + 1 : Nat) : Int)) else (spec_BestMonth.l0 k l m lo b L ((i + 1 : Nat) : Int)))) := by
  intro n
  induction n with
  | zero =>
    intro j t hj t0 t1 k f hf hk
    obtain rfl : f = k + 1 := by omega
    have hd : tot (g.drop j) t = t := by rw [List.drop_of_length_le (by omega)]; rfl
    rw [hd, spec_BestMonth.l1, if_neg (by omega), he k hk]
    simp only [Option.bind_some]
    rw [l00Max_eq, wnat (by omega)]
    simp only [Option.bind_some]
    rfl
  | succ n ih =>
    intro j t hj t0 t1 k f hf hk
    obtain ⟨f, rfl⟩ : ∃ q, f = q + 1 := ⟨f - 1, by omega⟩
    have hlt : j < g.length := by omega
    have hx := hb _ (List.getElem_mem hlt)
    have hd : tot (g.drop j) t = tot (g.drop (j + 1)) (t + g[j]) := by rw [List.drop_eq_getElem_cons hlt]; rfl
    rw [hd, spec_BestMonth.l1, if_pos (by omega), if_pos (by omega), rdi g j hlt, w64 (x := t + g[j]) (by omega) (by omega), wnat (by omega)]
    exact ih (j + 1) _ (by omega) (by omega) (by omega) k f (by omega) hk

theorem best_loops (l : List S43) (ho : okB l = true) (m : List Int) (h12 : m.length = 12) (hv : m.all hum = true) (lo hi : Int) (hlo : 0 ≤ lo ∧ lo ≤ 280) (hhi : 0 ≤ hi ∧ hi ≤ 280) (hr : ∀ k, 1049000 ≤ k → spec_l20Range.f k m = some (lo, hi)) :
    ∀ (n i : Nat) (b L b' L' : Int), i + n = 12 → (L = -1 ∧ b = 0 ∧ b' = -1 ∧ L' = 0 ∧ i = 0 ∨ 0 ≤ L ∧ b = b' ∧ 0 ≤ b ∧ L = L') →
    ∃ r : Int × Int × Int, ∀ k, 1100000 + 100 * n ≤ k → spec_BestMonth.l0 k l m lo b L (i : Int) = some r ∧ impl_BestMonth.l0 k l lo hi b' L' m (m.length : Int) (i : Int) tabM = some r := by
  have hlen := okB_len ho
  intro n
  induction n with
  | zero =>
    intro i b L b' L' h hs
    refine ⟨(b, L, 0), fun k hk => ?_⟩
    obtain ⟨k, rfl⟩ : ∃ q, k = q + 1 := ⟨k - 1, by omega⟩
    rw [spec_BestMonth.l0, impl_BestMonth.l0, if_neg (by omega), if_neg (by omega)]
    rcases hs with ⟨_, _, _, _, h0⟩ | ⟨_, rfl, _, rfl⟩
    · omega
    · exact ⟨rfl, rfl⟩
  | succ n ih =>
    intro i b L b' L' h hs
    have hlt : i < m.length := by omega
    have hy : (0 : Int) ≤ m[i] ∧ m[i] ≤ 100 := by
      have := List.all_eq_true.1 hv _ (List.getElem_mem hlt)
      simpa [hum] using this
    obtain ⟨_, _, c0, c1⟩ := mo_eq m[i] hy 40 (by omega)
    obtain ⟨g, g1, g2, g3⟩ := gaps_eq l ho (mo m[i]) lo ⟨c0, c1⟩ hlo
    have hgl : g.length ≤ 48 := by omega
    have htot := tot_bounds g 0 g2 (by omega)
    -- the edge, by both
    have he : ∀ k, 1099000 ≤ k → spec_l20Edge.f k l m (i : Int) = some (sumG (mo m[i]) hi l 0) := by
      intro k hk
      obtain ⟨e1, _, _, _⟩ := mo_eq m[i] hy k (by omega)
      obtain ⟨f1, f2, f3⟩ := floor_loops l ho (mo m[i]) hi ⟨c0, c1⟩ hhi l.length 0 k 0 (by omega) (by omega) (by omega) (by omega)
      obtain ⟨q1, q2, q3⟩ := floor_loops l ho (mo m[i]) (mo m[i]) ⟨c0, c1⟩ ⟨c0, c1⟩ l.length 0 k 0 (by omega) (by omega) (by omega) (by omega)
      have hd := sum_diff (mo m[i]) hi l 0 0 0 (by omega)
      simp only [Int.natCast_zero, List.drop_zero] at f1 f2 f3 q1 q2 q3
      unfold spec_l20Edge.f spec_l20Floor.f
      rw [hr k (by omega)]
      simp only [Option.bind_some]
      rw [if_pos (by omega), if_pos (by omega), rdi m i hlt, e1]
      simp only [Option.bind_some]
      rw [f1, q1]
      simp only [Option.bind_some]
      rw [w64 (by omega) (by omega), hd]
    have hE : ∀ k, 1099000 ≤ k → impl_edgeGap.f k l (mo m[i]) hi = some (sumG (mo m[i]) hi l 0) := by
      intro k hk
      have d1 := edge_loops l ho (mo m[i]) hi ⟨c0, c1⟩ hhi l.length 0 k 0 (by omega) (by omega) (by omega) (by omega)
      simp only [Int.natCast_zero, List.drop_zero] at d1
      unfold impl_edgeGap.f; exact d1
    have hS : ∀ k, 1099000 ≤ k → impl_sumOf.f k g = some (tot g 0) := by
      intro k hk
      have d1 := sum_loops g hgl g2 g.length 0 0 (by omega) (by omega) (by omega) k (by omega)
      simp only [Int.natCast_zero, List.drop_zero] at d1
      unfold impl_sumOf.f; exact d1
    generalize sumG (mo m[i]) hi l 0 = e at *
    have hw : mx e (tot g 0) = worst (tot g 0) e := by unfold mx worst; rfl
    have hw0 : 0 ≤ worst (tot g 0) e := by unfold worst; split <;> omega
    have step : ∀ k, 1100000 + 100 * (n + 1) ≤ k → ∃ k1 k2, 1100000 + 100 * n ≤ k1 ∧ 1100000 + 100 * n ≤ k2 ∧ spec_BestMonth.l0 k l m lo b L (i : Int) =
        (if L < 0 then (spec_BestMonth.l0 k1 l m lo (i : Int) (worst (tot g 0) e) ((i + 1 : Nat) : Int)) else (if worst (tot g 0) e < L then (spec_BestMonth.l0 k1 l m lo (i : Int) (worst (tot g 0) e) ((i + 1 : Nat) : Int)) else (spec_BestMonth.l0 k1 l m lo b L ((i + 1 : Nat) : Int)))) ∧
        impl_BestMonth.l0 k l lo hi b' L' m (m.length : Int) (i : Int) tabM =
        (if b' < 0 then (impl_BestMonth.l0 k2 l lo hi (i : Int) (worst (tot g 0) e) m (m.length : Int) ((i + 1 : Nat) : Int) tabM) else (if worst (tot g 0) e < L' then (impl_BestMonth.l0 k2 l lo hi (i : Int) (worst (tot g 0) e) m (m.length : Int) ((i + 1 : Nat) : Int) tabM) else (impl_BestMonth.l0 k2 l lo hi b' L' m (m.length : Int) ((i + 1 : Nat) : Int) tabM))) := by
      intro k hk
      obtain ⟨k, rfl⟩ : ∃ q, k = q + 1 := ⟨k - 1, by omega⟩
      obtain ⟨e1, e2, _, _⟩ := mo_eq m[i] hy k (by omega)
      have hl1 := spec_sum l m lo b L i (by omega) g hgl g2 e he g.length 0 0 (by omega) (by omega) (by omega) (k - g.length - 1) k (by omega) (by omega)
      simp only [Int.natCast_zero, List.drop_zero] at hl1
      refine ⟨k - g.length - 1, k, by omega, by omega, ?_, ?_⟩
      · rw [spec_BestMonth.l0, if_pos (by omega), if_pos (by omega), if_pos (by omega), rdi m i hlt, e1]
        simp only [Option.bind_some]
        rw [(g3 k (by omega)).1]
        simp only [Option.bind_some]
        exact hl1
      · rw [impl_BestMonth.l0, if_pos (by omega), if_pos (by omega), if_pos (by omega), rdi m i hlt, e2]
        simp only [Option.bind_some]
        rw [hE k (by omega)]
        simp only [Option.bind_some]
        rw [(g3 k (by omega)).2]
        simp only [Option.bind_some]
        rw [hS k (by omega)]
        simp only [Option.bind_some]
        rw [hw, wnat (by omega)]
    by_cases c : L < 0 ∨ worst (tot g 0) e < L
    · obtain ⟨r, hr⟩ := ih (i + 1) (i : Int) (worst (tot g 0) e) (i : Int) (worst (tot g 0) e) (by omega) (.inr ⟨hw0, rfl, by omega, rfl⟩)
      refine ⟨r, fun k hk => ?_⟩
      obtain ⟨k1, k2, hk1, hk2, s1, s2⟩ := step k hk
      rw [s1, s2]
      rcases hs with ⟨h1, h2, h3, h4, h5⟩ | ⟨h1, h2, h3, h4⟩
      · rw [if_pos (by omega), if_pos (by omega)]
        exact ⟨(hr k1 hk1).1, (hr k2 hk2).2⟩
      · rw [if_neg (by omega), if_pos (by omega), if_neg (by omega), if_pos (by omega)]
        exact ⟨(hr k1 hk1).1, (hr k2 hk2).2⟩
    · rcases hs with ⟨h1, h2, h3, h4, h5⟩ | ⟨h1, h2, h3, h4⟩
      · omega
      · obtain ⟨r, hr⟩ := ih (i + 1) b L b' L' (by omega) (.inr ⟨h1, h2, h3, h4⟩)
        refine ⟨r, fun k hk => ?_⟩
        obtain ⟨k1, k2, hk1, hk2, s1, s2⟩ := step k hk
        rw [s1, s2]
        rw [if_neg (by omega), if_neg (by omega), if_neg (by omega), if_neg (by omega)]
        exact ⟨(hr k1 hk1).1, (hr k2 hk2).2⟩

theorem month_eq (l : List S43) (hl : l.length ≤ 1048576) (m : List Int) (hm : m.length ≤ 1048576) : ∃ r : Int × Int × Int, ∀ k, 1110000 ≤ k → spec_BestMonth.f k l m = some r ∧ impl_BestMonth.f k l m tabM = some r := by
  obtain ⟨q, hq, hs⟩ := season_eq m hm
  cases ho : okB l with
  | false =>
    refine ⟨(0, 0, 1), fun k hk => ?_⟩
    unfold spec_BestMonth.f impl_BestMonth.f
    rw [specOkB l hl k (by omega), implOkB l hl k (by omega), ho]
    simp
  | true =>
    rcases hq with ⟨hv, h12, h0, b0, b1, hlo, hr⟩ | ⟨hn, rfl⟩
    · obtain ⟨r, hb⟩ := best_loops l ho m h12 hv q.1 q.2.1 hlo ⟨b0, b1⟩ hr 12 0 0 (-1) (-1) 0 (by omega) (.inl ⟨rfl, rfl, rfl, rfl, rfl⟩)
      refine ⟨r, fun k hk => ?_⟩
      obtain ⟨q1, q2⟩ := hb k (by omega)
      simp only [Int.natCast_zero] at q1 q2
      unfold spec_BestMonth.f impl_BestMonth.f
      rw [specOkB l hl k (by omega), implOkB l hl k (by omega), ho, months_eq m hm k (by omega), hv, hs k (by omega), hr k (by omega)]
      simp only [Option.bind_some, if_true]
      rw [h0, if_pos rfl, show (((m.length : Nat) : Int) == 12) = true from by simp [h12], if_pos rfl]
      exact ⟨q1, q2⟩
    · refine ⟨(0, 0, 2), fun k hk => ?_⟩
      unfold spec_BestMonth.f impl_BestMonth.f
      rw [specOkB l hl k (by omega), implOkB l hl k (by omega), ho, months_eq m hm k (by omega), hn, hs k (by omega)]
      simp

theorem FnExactBestMonth : laws_FnExactBestMonth.Pure := by
  intro l m ⟨hl, hg⟩ ⟨hm, _⟩
  obtain ⟨k, hk⟩ : ∃ k : Nat, k = 1200000 := ⟨_, rfl⟩
  refine ⟨k + 1, ?_⟩
  unfold laws_FnExactBestMonth.f
  by_cases hs : (m.length : Int) > 1048576
  · rw [if_pos hs]
  obtain ⟨v, e, h⟩ := szBoardS_eq l 1048576 (by omega) (by omega) hl hg
  rw [if_neg hs, e (k + 1) (by omega)]
  simp only [Option.bind_some]
  rcases h with h | ⟨h1, _, h2⟩
  · rw [if_pos h]
  rw [if_neg (by omega), toBoardS_eq l h2 (k + 1) (by omega), toInt64S_eq m (by omega) (k + 1) (by omega)]
  simp only [Option.bind_some]
  have h2' : (l.map toBoard_).length ≤ 1048576 := by simpa using h2
  obtain ⟨r, hr⟩ := month_eq (l.map toBoard_) h2' m (by omega)
  obtain ⟨q1, q2⟩ := hr (k + 1) (by omega)
  rw [q1]
  simp only [Option.bind_some]
  rw [show impl_BestMonth.f (k + 1) (l.map toBoard_) m [0, 0, 30, 60, 50, 90, 65, 120, 80, 160, 100, 280] = some r from q2]
  simp only [Option.bind_some, if_true, bne_self_eq_false, laws_FnExactBestMonth.j0, Bool.false_eq_true, if_false]
  rw [toBoardS_eq l h2 k (by omega)]
  simp only [Option.bind_some]
  rw [eqBoardS_eq (l.map toBoard_) h2' k (by simp; omega)]
  simp only [Option.bind_some, if_true]
  rw [toInt64S_eq m (by omega) k (by omega)]
  simp only [Option.bind_some]
  rw [eqInt64S_eq m (by omega) k (by omega)]
  simp

end Go.Proofs.YtdmndgaajgakiaaDoor.Pure

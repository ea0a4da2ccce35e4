/- FnExactFitTrials: the program's FitTrials returns what the reference's returns, for all arguments; no condition. -/
import Derived.Test.YteijbdngbmciaaaGFnExactFitTrialsx6
namespace Go.Proofs.Yteijbdngbmciaaa.Pure
open Go.RowKit Go.Proofs.Yteijbdngbmciaaa.GFnExactFitTrials Go.Proofs.YteijbdngbmciaaaW.PrintWords Go.Proofs.YteijbdngbmciaaaW.PrintLast
set_option linter.unusedSimpArgs false
set_option linter.unusedVariables false

theorem w64 {x : Int} (h0 : -9223372036854775808 ≤ x) (h1 : x ≤ 9223372036854775807) : wrap64 x = x := by
  unfold wrap64; omega

theorem within_eq (a b c : Int) : impl_within.f a b c = some (decide (b ≤ a ∧ a ≤ c)) := by
  unfold impl_within.f
  by_cases h : a ≥ b
  · rw [if_pos h]; simp [h]
  · rw [if_neg h]; simp; omega

theorem l00In_eq (a b c : Int) : spec_l00In.f a b c = some (decide (b ≤ a ∧ a ≤ c)) := by
  unfold spec_l00In.f
  by_cases h : a ≥ b
  · rw [if_pos h]; simp [h]
  · rw [if_neg h]; simp; omega

/-- a loop over a list: from one state to the next, or out of it -/
def run {α σ β : Type} (st : σ → α → Nat → σ ⊕ β) (en : σ → β) : List α → σ → Nat → β
  | [], s, _ => en s
  | x :: xs, s, i => match st s x i with
    | .inl s' => run st en xs s' (i + 1)
    | .inr r => r

theorem loop_run {α σ β : Type} (xs : List α) (K0 : Nat) (Inv : σ → Nat → Prop) (L : Nat → σ → Int → Option β) (st : σ → α → Nat → σ ⊕ β) (en : σ → β)
    (hs : ∀ (k : Nat) (s : σ) (i : Nat) (h : i < xs.length), K0 ≤ k → Inv s i →
      (∃ s', st s xs[i] i = .inl s' ∧ Inv s' (i + 1) ∧ L (k + 1) s (i : Int) = L k s' ((i + 1 : Nat) : Int)) ∨ (∃ r, st s xs[i] i = .inr r ∧ L (k + 1) s (i : Int) = some r))
    (he : ∀ (k : Nat) (s : σ), K0 ≤ k → Inv s xs.length → L (k + 1) s (xs.length : Int) = some (en s)) :
    ∀ (n i k : Nat) (s : σ), i + n = xs.length → K0 + n < k → Inv s i → L k s (i : Int) = some (run st en (xs.drop i) s i) := by
  intro n
  induction n with
  | zero =>
    intro i k s hi hk hI
    obtain ⟨k, rfl⟩ : ∃ m, k = m + 1 := ⟨k - 1, by omega⟩
    obtain rfl : i = xs.length := by omega
    rw [he k s (by omega) hI, List.drop_length]; rfl
  | succ n ih =>
    intro i k s hi hk hI
    obtain ⟨k, rfl⟩ : ∃ m, k = m + 1 := ⟨k - 1, by omega⟩
    have hlt : i < xs.length := by omega
    rw [List.drop_eq_getElem_cons hlt]
    rcases hs k s i hlt (by omega) hI with ⟨s', h1, h2, h3⟩ | ⟨r, h1, h3⟩
    · rw [h3, ih (i + 1) k s' (by omega) (by omega) h2]
      simp only [run, h1]
    · rw [h3]
      simp only [run, h1]

theorem loop_run0 {α σ β : Type} (xs : List α) (K0 : Nat) (Inv : σ → Nat → Prop) (L : Nat → σ → Int → Option β) (st : σ → α → Nat → σ ⊕ β) (en : σ → β)
    (hs : ∀ (k : Nat) (s : σ) (i : Nat) (h : i < xs.length), K0 ≤ k → Inv s i →
      (∃ s', st s xs[i] i = .inl s' ∧ Inv s' (i + 1) ∧ L (k + 1) s (i : Int) = L k s' ((i + 1 : Nat) : Int)) ∨ (∃ r, st s xs[i] i = .inr r ∧ L (k + 1) s (i : Int) = some r))
    (he : ∀ (k : Nat) (s : σ), K0 ≤ k → Inv s xs.length → L (k + 1) s (xs.length : Int) = some (en s)) (k : Nat) (s : σ) (hk : K0 + xs.length < k) (hI : Inv s 0) :
    L k s 0 = some (run st en xs s 0) := by
  have := loop_run xs K0 Inv L st en hs he xs.length 0 k s (by omega) hk hI
  simpa using this

/-- a row that is made and then filled, element by element -/
theorem loop_map {α β : Type} (xs : List α) (z : β) (c : α → β) (L : Nat → List β → Int → Option (List β))
    (hs : ∀ (k : Nat) (s : List β) (i : Nat) (h : i < xs.length), s.length = xs.length → L (k + 1) s (i : Int) = L k (s.set i (c xs[i])) ((i + 1 : Nat) : Int))
    (he : ∀ (k : Nat) (s : List β), L (k + 1) s (xs.length : Int) = some s) (k : Nat) (hk : xs.length < k) :
    L k (List.replicate xs.length z) 0 = some (xs.map c) := by
  have key : ∀ (n i k : Nat) (s : List β), i + n = xs.length → n < k → s.length = xs.length → s.take i = (xs.map c).take i → L k s (i : Int) = some (xs.map c) := by
    intro n
    induction n with
    | zero =>
      intro i k s hi hk hl ht
      obtain ⟨k, rfl⟩ : ∃ m, k = m + 1 := ⟨k - 1, by omega⟩
      obtain rfl : i = xs.length := by omega
      have h1 : s.take xs.length = s := List.take_of_length_le (by omega)
      rw [he, ← h1, ht, List.take_of_length_le (by simp)]
    | succ n ih =>
      intro i k s hi hk hl ht
      obtain ⟨k, rfl⟩ : ∃ m, k = m + 1 := ⟨k - 1, by omega⟩
      have hlt : i < xs.length := by omega
      rw [hs k s i hlt hl]
      refine ih (i + 1) k _ (by omega) (by omega) (by rw [List.length_set]; exact hl) ?_
      rw [List.take_succ_eq_append_getElem (by rw [List.length_set]; omega), List.take_succ_eq_append_getElem (by rw [List.length_map]; omega), List.take_set_of_le (by omega), ht]
      simp
  have := key xs.length 0 k (List.replicate xs.length z) (by omega) hk (by simp) (by simp)
  simpa using this

theorem wnat {n : Nat} (h : n < 9223372036854775807) : wrap64 ((n : Int) + 1) = ((n + 1 : Nat) : Int) := by
  unfold wrap64; omega

theorem loop_all {β : Type} (n K0 : Nat) (L : Nat → Int → Option β) (r : β) (hs : ∀ (k i : Nat), K0 ≤ k → i < n → L (k + 1) (i : Int) = L k ((i + 1 : Nat) : Int)) (he : ∀ k : Nat, L (k + 1) (n : Int) = some r)
    (k : Nat) (hk : K0 + n < k) : L k 0 = some r := by
  have key : ∀ (m i k : Nat), i + m = n → K0 + m < k → L k (i : Int) = some r := by
    intro m
    induction m with
    | zero =>
      intro i k hi hk
      obtain ⟨k, rfl⟩ : ∃ m, k = m + 1 := ⟨k - 1, by omega⟩
      obtain rfl : i = n := by omega
      exact he k
    | succ m ih =>
      intro i k hi hk
      obtain ⟨k, rfl⟩ : ∃ m, k = m + 1 := ⟨k - 1, by omega⟩
      rw [hs k i (by omega) (by omega)]
      exact ih (i + 1) k (by omega) (by omega)
  simpa using key n 0 k (by omega) hk

theorem all_from {α β : Type} (xs : List α) (K0 : Nat) (p : α → Bool) (r0 r1 : β) (L : Nat → Int → Option β)
    (hs : ∀ (k i : Nat) (h : i < xs.length), K0 ≤ k → L (k + 1) (i : Int) = if p xs[i] = true then L k ((i + 1 : Nat) : Int) else some r0)
    (he : ∀ k : Nat, K0 ≤ k → L (k + 1) (xs.length : Int) = some r1) : ∀ (n i k : Nat), i + n = xs.length → K0 + n < k → L k (i : Int) = some (if (xs.drop i).all p = true then r1 else r0) := by
  intro n
  induction n with
  | zero =>
    intro i k hi hk
    obtain ⟨k, rfl⟩ : ∃ m, k = m + 1 := ⟨k - 1, by omega⟩
    obtain rfl : i = xs.length := by omega
    rw [he k (by omega), List.drop_length]; rfl
  | succ n ih =>
    intro i k hi hk
    obtain ⟨k, rfl⟩ : ∃ m, k = m + 1 := ⟨k - 1, by omega⟩
    have hlt : i < xs.length := by omega
    rw [hs k i hlt (by omega), List.drop_eq_getElem_cons hlt, List.all_cons]
    cases hp : p xs[i] with
    | true => rw [if_pos rfl, ih (i + 1) k (by omega) (by omega), Bool.true_and]
    | false => simp

theorem all_loop {α β : Type} (xs : List α) (K0 : Nat) (p : α → Bool) (r0 r1 : β) (L : Nat → Int → Option β)
    (hs : ∀ (k i : Nat) (h : i < xs.length), K0 ≤ k → L (k + 1) (i : Int) = if p xs[i] = true then L k ((i + 1 : Nat) : Int) else some r0)
    (he : ∀ k : Nat, K0 ≤ k → L (k + 1) (xs.length : Int) = some r1) (k : Nat) (hk : K0 + xs.length < k) : L k 0 = some (if xs.all p = true then r1 else r0) := by
  simpa using all_from xs K0 p r0 r1 L hs he xs.length 0 k (by omega) hk

theorem idx_from {α : Type} (xs : List α) (K0 : Nat) (q : α → Bool) (L : Nat → Int → Option Int)
    (hs : ∀ (k i : Nat) (h : i < xs.length), K0 ≤ k → L (k + 1) (i : Int) = if q xs[i] = true then some (i : Int) else L k ((i + 1 : Nat) : Int))
    (he : ∀ k : Nat, K0 ≤ k → L (k + 1) (xs.length : Int) = some (-1)) : ∀ (n i k : Nat), i + n = xs.length → K0 + n < k → ∃ r, L k (i : Int) = some r ∧ decide (r ≥ 0) = (xs.drop i).any q := by
  intro n
  induction n with
  | zero =>
    intro i k hi hk
    obtain ⟨k, rfl⟩ : ∃ m, k = m + 1 := ⟨k - 1, by omega⟩
    obtain rfl : i = xs.length := by omega
    exact ⟨-1, he k (by omega), by rw [List.drop_length]; rfl⟩
  | succ n ih =>
    intro i k hi hk
    obtain ⟨k, rfl⟩ : ∃ m, k = m + 1 := ⟨k - 1, by omega⟩
    have hlt : i < xs.length := by omega
    rw [hs k i hlt (by omega), List.drop_eq_getElem_cons hlt, List.any_cons]
    cases hp : q xs[i] with
    | true => exact ⟨i, by rw [if_pos rfl], by simp⟩
    | false =>
      obtain ⟨r, h1, h2⟩ := ih (i + 1) k (by omega) (by omega)
      exact ⟨r, by rw [if_neg (by simp)]; exact h1, by rw [h2]; simp⟩

theorem idx_loop {α : Type} (xs : List α) (K0 : Nat) (q : α → Bool) (L : Nat → Int → Option Int)
    (hs : ∀ (k i : Nat) (h : i < xs.length), K0 ≤ k → L (k + 1) (i : Int) = if q xs[i] = true then some (i : Int) else L k ((i + 1 : Nat) : Int))
    (he : ∀ k : Nat, K0 ≤ k → L (k + 1) (xs.length : Int) = some (-1)) (k : Nat) (hk : K0 + xs.length < k) : ∃ r, L k 0 = some r ∧ decide (r ≥ 0) = xs.any q := by
  simpa using idx_from xs K0 q L hs he xs.length 0 k (by omega) hk

theorem any_not {α : Type} (l : List α) (p : α → Bool) : l.any (fun x => !p x) = !l.all p := by
  induction l with
  | nil => rfl
  | cons x l ih => rw [List.any_cons, List.all_cons, ih]; cases p x <;> simp

def fnd (x : List UInt8) : List ByteArray → Int → Int
  | [], _ => -1
  | y :: ys, i => if y.toList = x then i else fnd x ys (i + 1)

theorem find_l0 (x : ByteArray) (xs : List ByteArray) (hl : xs.length ≤ 1000) : ∀ (n : Nat) (k i : Nat), i + n = xs.length → n < k →
    spec_l07Find.l0 k x xs (i : Int) = some (fnd x.toList (xs.drop i) i) := by
  intro n
  induction n with
  | zero =>
    intro k i hi hk
    obtain ⟨k, rfl⟩ : ∃ m, k = m + 1 := ⟨k - 1, by omega⟩
    simp only [spec_l07Find.l0]
    rw [if_neg (by omega), List.drop_of_length_le (by omega)]; rfl
  | succ n ih =>
    intro k i hi hk
    obtain ⟨k, rfl⟩ : ∃ m, k = m + 1 := ⟨k - 1, by omega⟩
    simp only [spec_l07Find.l0]
    rw [if_pos (by omega), if_pos (by omega), List.drop_eq_getElem_cons (show i < xs.length by omega)]
    have hr : rdOf ByteArray.empty xs (i : Int) = xs[i]'(by omega) := by
      unfold rdOf; simp [List.getD, show i < xs.length by omega]
    rw [hr]
    by_cases h : (xs[i]'(by omega)).toList = x.toList
    · rw [if_pos h]; simp [fnd, h]
    · rw [if_neg h]
      have h2 := ih k (i + 1) (by omega) (by omega)
      rw [w64 (by omega) (by omega), show ((i : Int) + 1) = ((i + 1 : Nat) : Int) by omega, h2]
      simp [fnd, h]

theorem lit_toList (l : Array UInt8) : (⟨l⟩ : ByteArray).toList = l.toList := ByteArray.toList_eq _

/-- what the name of a species tells: the reference's place of it, and the program's data -/
def Known (x : List UInt8) : Prop := x = [97, 115, 104] ∨ x = [98, 101, 101, 99, 104] ∨ x = [98, 105, 114, 99, 104] ∨ x = [99, 104, 101, 114, 114, 121] ∨ x = [101, 98, 111, 110, 121] ∨ x = [104, 111, 108, 108, 121] ∨ x = [109, 97, 112, 108, 101] ∨ x = [111, 97, 107] ∨ x = [114, 111, 115, 101, 119, 111, 111, 100] ∨ x = [119, 97, 108, 110, 117, 116]

theorem find_eq (k : Nat) (hk : 11 ≤ k) (a : ByteArray) : ∃ l : List ByteArray, spec_l07Names.f = some l ∧ spec_l07Find.f k a = some (fnd a.toList l 0) := by
  refine ⟨_, rfl, ?_⟩
  unfold spec_l07Find.f spec_l07Names.f
  simp only [Option.bind_some]
  exact find_l0 a _ (by simp) 10 k 0 rfl (by omega)

theorem species (a : ByteArray) : (∃ i h : Int, ∃ s w : Int, 0 ≤ i ∧ i < 10 ∧ 33 ≤ h ∧ h ≤ 85 ∧ 200 ≤ w ∧ w ≤ 500 ∧ (∀ k, 11 ≤ k → spec_l07Find.f k a = some i) ∧ impl_SpeciesData.f a = some (s, h, w, 0) ∧ (spec_l07Table.f).bind (fun t => some (rd_L4 t i)) = some [s, h, w]) ∨
    ((∀ k, 11 ≤ k → spec_l07Find.f k a = some (-1)) ∧ impl_SpeciesData.f a = some (0, 0, 0, 3)) := by
  obtain ⟨l, hl, _⟩ := find_eq 11 (Nat.le_refl _) a
  have hf : ∀ k, 11 ≤ k → spec_l07Find.f k a = some (fnd a.toList l 0) := fun k hk => by
    obtain ⟨l', hl', h⟩ := find_eq k hk a
    rw [hl] at hl'; cases hl'; exact h
  unfold spec_l07Names.f at hl
  cases hl
  generalize hx : a.toList = x at *
  unfold impl_SpeciesData.f
  rw [hx]
  by_cases h : Known x
  · left
    rcases h with h | h | h | h | h | h | h | h | h | h <;> subst h
    · exact ⟨0, 40, 20, 310, by decide, by decide, by decide, by decide, by decide, by decide, fun k hk => (hf k hk).trans (by simp [fnd, lit_toList]), rfl, by first | trivial | rfl⟩
    · exact ⟨1, 45, 35, 410, by decide, by decide, by decide, by decide, by decide, by decide, fun k hk => (hf k hk).trans (by simp [fnd, lit_toList]), rfl, by first | trivial | rfl⟩
    · exact ⟨2, 33, 15, 280, by decide, by decide, by decide, by decide, by decide, by decide, fun k hk => (hf k hk).trans (by simp [fnd, lit_toList]), rfl, by first | trivial | rfl⟩
    · exact ⟨3, 36, 50, 240, by decide, by decide, by decide, by decide, by decide, by decide, fun k hk => (hf k hk).trans (by simp [fnd, lit_toList]), rfl, by first | trivial | rfl⟩
    · exact ⟨4, 85, 95, 270, by decide, by decide, by decide, by decide, by decide, by decide, fun k hk => (hf k hk).trans (by simp [fnd, lit_toList]), rfl, by first | trivial | rfl⟩
    · exact ⟨5, 35, 5, 370, by decide, by decide, by decide, by decide, by decide, by decide, fun k hk => (hf k hk).trans (by simp [fnd, lit_toList]), rfl, by first | trivial | rfl⟩
    · exact ⟨6, 42, 10, 290, by decide, by decide, by decide, by decide, by decide, by decide, fun k hk => (hf k hk).trans (by simp [fnd, lit_toList]), rfl, by first | trivial | rfl⟩
    · exact ⟨7, 40, 40, 330, by decide, by decide, by decide, by decide, by decide, by decide, fun k hk => (hf k hk).trans (by simp [fnd, lit_toList]), rfl, by first | trivial | rfl⟩
    · exact ⟨8, 60, 80, 220, by decide, by decide, by decide, by decide, by decide, by decide, fun k hk => (hf k hk).trans (by simp [fnd, lit_toList]), rfl, by first | trivial | rfl⟩
    · exact ⟨9, 38, 70, 260, by decide, by decide, by decide, by decide, by decide, by decide, fun k hk => (hf k hk).trans (by simp [fnd, lit_toList]), rfl, by first | trivial | rfl⟩
  · right
    unfold Known at h
    simp only [not_or] at h
    obtain ⟨h0, h1, h2, h3, h4, h5, h6, h7, h8, h9⟩ := h
    have e : ∀ l : List UInt8, ¬ x = l → ¬ l = x := fun l h1 h2 => h1 h2.symm
    constructor
    · intro k hk
      rw [hf k hk]
      simp only [fnd, lit_toList]
      rw [if_neg (e _ h0), if_neg (e _ h1), if_neg (e _ h2), if_neg (e _ h3), if_neg (e _ h4), if_neg (e _ h5), if_neg (e _ h6), if_neg (e _ h7), if_neg (e _ h8), if_neg (e _ h9)]
    · rw [if_neg h0, if_neg h1, if_neg h2, if_neg h3, if_neg h4, if_neg h5, if_neg h6, if_neg h7, if_neg h8, if_neg h9]

theorem tdiv_pos {a b : Int} (h : 0 ≤ a) : Int.tdiv a b = a / b := Int.tdiv_eq_ediv_of_nonneg h

/-- the reference's gain of a known hardness, and the program's: what both compute -/
theorem gain_eq {a : ByteArray} {s h w : Int} (hd : impl_SpeciesData.f a = some (s, h, w, 0)) (h0 : 33 ≤ h) (h1 : h ≤ 85) (x y : Int) (hx : 100 ≤ x ∧ x ≤ 300) (hy : 0 ≤ y ∧ y ≤ 600) :
    impl_gain.f a x y = some ((x - 100) * y / (10 * h)) ∧ spec_l21Gain.f h x y = some ((x - 100) * y / (10 * h)) ∧ 0 ≤ (x - 100) * y / (10 * h) ∧ (x - 100) * y / (10 * h) ≤ 120000 := by
  have m0 : 0 ≤ (x - 100) * y := Int.mul_nonneg (by omega) (by omega)
  have m1 : (x - 100) * y ≤ 200 * 600 := Int.mul_le_mul (by omega) (by omega) (by omega) (by omega)
  have d0 : 0 ≤ (x - 100) * y / (10 * h) := Int.ediv_nonneg m0 (by omega)
  have d1 : (x - 100) * y / (10 * h) ≤ (x - 100) * y := Int.ediv_le_self _ m0
  refine ⟨?_, ?_, d0, by omega⟩
  · unfold impl_gain.f
    rw [hd]
    simp only [Option.bind_some]
    rw [w64 (x := 10 * h) (by omega) (by omega), if_neg (by omega), w64 (x := x - 100) (by omega) (by omega), w64 (x := (x - 100) * y) (by omega) (by omega), tdiv_pos m0, w64 (by omega) (by omega)]
  · unfold spec_l21Gain.f
    rw [w64 (x := 10 * h) (by omega) (by omega), if_neg (by omega), w64 (x := x - 100) (by omega) (by omega), w64 (x := (x - 100) * y) (by omega) (by omega), tdiv_pos m0, w64 (by omega) (by omega)]

theorem hard_eq {a : ByteArray} {i s h w : Int} {k : Nat} (hk : 11 ≤ k) (h0 : 0 ≤ i) (h1 : i < 10) (hf : ∀ k, 11 ≤ k → spec_l07Find.f k a = some i) (ht : (spec_l07Table.f).bind (fun t => some (rd_L4 t i)) = some [s, h, w]) :
    spec_l21Hardness.f k a = some h := by
  unfold spec_l21Hardness.f
  rw [hf k hk]
  cases hT : spec_l07Table.f with
  | none => rw [hT] at ht; cases ht
  | some t =>
    rw [hT] at ht
    simp only [Option.bind_some, Option.some.injEq] at ht ⊢
    have hl : t.length = 10 := by unfold spec_l07Table.f at hT; cases hT; rfl
    rw [ht, if_pos h0, if_pos (by omega), if_pos (by simp)]
    rfl

theorem rd75 (xs : List S75) (i : Nat) (h : i < xs.length) : rd_T75 xs (i : Int) = xs[i] := by
  unfold rd_T75; simp [List.getD, h]
theorem rd78 (xs : List S78) (i : Nat) (h : i < xs.length) : rd_T78 xs (i : Int) = xs[i] := by
  unfold rd_T78; simp [List.getD, h]

def toTrial_ (x : S75) : S78 := ⟨x.f0, x.f1, x.f2, x.f3⟩

theorem toTrialS_eq (l : List S75) (hl : l.length ≤ 1048576) (k : Nat) (hk : l.length < k) : laws_toTrialS.f k l = some (l.map toTrial_) := by
  unfold laws_toTrialS.f
  rw [if_pos (by omega), if_pos (by omega), show ((l.length : Int)).toNat = l.length by omega]
  refine loop_map l z78 toTrial_ (fun k s i => laws_toTrialS.l0 k l s i) ?_ ?_ k hk
  · intro k s i h hs
    simp only [laws_toTrialS.l0]
    rw [if_pos (by omega), if_pos (by omega), rd75 l i h]
    unfold laws_toTrial.f
    simp only [Option.bind_some]
    rw [if_pos (by omega), wnat (by omega)]
    rfl
  · intro k s
    simp only [laws_toTrialS.l0]
    rw [if_neg (by omega)]

theorem eqTrialS_eq (l : List S78) (hl : l.length ≤ 1048576) (k : Nat) (hk : l.length < k) : laws_eqTrialS.f k l l = some true := by
  unfold laws_eqTrialS.f
  rw [if_pos rfl]
  refine loop_all l.length 0 (fun k i => laws_eqTrialS.l0 k l l i) true ?_ ?_ k (by omega)
  · intro k i _ h
    simp only [laws_eqTrialS.l0]
    rw [if_pos (by omega), if_pos (by omega), if_pos (by omega)]
    unfold laws_eqTrial.f
    simp only [if_true, Option.bind_some]
    rw [wnat (by omega)]
  · intro k
    simp only [laws_eqTrialS.l0]
    rw [if_neg (by omega)]

theorem szTrial_eq (s : ByteArray) (x y z : Int) (a : Int) (ha : 0 ≤ a) (ha2 : a ≤ 1048576) (hs : s.size ≤ maxLen) : laws_szTrial.f s x y z a = some (if a < s.size then -1 else a - s.size) := by
  unfold maxLen at hs
  unfold laws_szTrial.f
  rw [w64 (x := a - s.size) (by omega) (by omega)]
  by_cases h : a < s.size
  · rw [if_pos (by omega), if_pos h]
  · rw [if_neg (by omega), if_neg h]

def szStTrial (a : Int) (x : S75) (_ : Nat) : Int ⊕ Int := if a < x.f0.size then .inr (-1) else .inl (a - x.f0.size)

theorem run_szTrial : ∀ (l : List S75) (a : Int) (i : Nat), 0 ≤ a → run szStTrial (fun v => v) l a i < 0 ∨ 0 ≤ run szStTrial (fun v => v) l a i ∧ run szStTrial (fun v => v) l a i ≤ a
  | [], a, i, h => .inr ⟨h, Int.le_refl _⟩
  | x :: l, a, i, h => by
    simp only [run, szStTrial]
    by_cases g : a < x.f0.size
    · simp only [if_pos g]; exact .inl (by decide)
    · simp only [if_neg g]
      rcases run_szTrial l (a - x.f0.size) (i + 1) (by omega) with h | h
      · exact .inl h
      · refine .inr ⟨h.1, ?_⟩
        have := h.2
        show run szStTrial (fun v => v) l (a - x.f0.size) (i + 1) ≤ a
        omega

theorem szTrialS_eq (l : List S75) (a : Int) (ha : 0 ≤ a) (ha2 : a ≤ 1048576) (hl : l.length ≤ maxLen) (hg : ∀ y ∈ l, G75 y) :
    ∃ v, (∀ k, 1048577 < k → laws_szTrialS.f k l a = some v) ∧ (v < 0 ∨ 0 ≤ v ∧ v ≤ a ∧ l.length ≤ 1048576) := by
  unfold maxLen at hl
  by_cases h : a - l.length < 0
  · refine ⟨-1, fun k _ => ?_, .inl (by decide)⟩
    unfold laws_szTrialS.f
    rw [w64 (x := a - l.length) (by omega) (by omega), if_pos h]
  · refine ⟨run szStTrial (fun v => v) l (a - l.length) 0, fun k hk => ?_, ?_⟩
    · unfold laws_szTrialS.f
      rw [w64 (x := a - l.length) (by omega) (by omega), if_neg h]
      refine loop_run0 l 0 (fun v _ => 0 ≤ v ∧ v ≤ 1048576) (fun k s i => laws_szTrialS.l0 k l s i) szStTrial (fun v => v) ?_ ?_ k _ (by omega) ⟨by omega, by omega⟩
      · intro k s i hi _ ⟨s0, s1⟩
        simp only [laws_szTrialS.l0]
        rw [if_pos (by omega), if_pos (by omega), rd75 l i hi, szTrial_eq _ _ _ _ _ s0 s1 (hg _ (List.getElem_mem hi)).1]
        simp only [Option.bind_some]
        unfold szStTrial
        by_cases g : s < l[i].f0.size
        · simp only [if_pos g]; exact .inr ⟨-1, rfl, if_pos (by decide)⟩
        · simp only [if_neg g]
          exact .inl ⟨_, rfl, ⟨by omega, by omega⟩, by rw [if_neg (by omega), wnat (by omega)]⟩
      · intro k s _ _
        simp only [laws_szTrialS.l0]
        rw [if_neg (by omega)]
    · rcases run_szTrial l (a - l.length) 0 (by omega) with h | h
      · exact .inl h
      · exact .inr ⟨h.1, by omega, by omega⟩

theorem trial_eq (x : S78) : ∃ b : Bool, (∀ k, 11 ≤ k → spec_l21Trial.f k [x] = some b) ∧ impl_validTrial.f x.f0 x.f1 x.f2 x.f3 = some b ∧
    (b = true → (100 ≤ x.f1 ∧ x.f1 ≤ 300) ∧ (0 ≤ x.f2 ∧ x.f2 ≤ 600) ∧ (0 ≤ x.f3 ∧ x.f3 ≤ 100) ∧ ∃ s h w : Int, impl_SpeciesData.f x.f0 = some (s, h, w, 0) ∧ 33 ≤ h ∧ h ≤ 85 ∧ ∀ k, 11 ≤ k → spec_l21Hardness.f k x.f0 = some h) := by
  have r : rd_T78 [x] 0 = x := rfl
  unfold spec_l21Trial.f impl_validTrial.f impl_isSpecies.f impl_speciesShade.f spec_l21Heat.f
  rw [r]
  rcases species x.f0 with ⟨i, h, s, w, i0, i1, h0, h1, _, _, hf, hd, ht⟩ | ⟨hf, hd⟩
  · rw [hd]
    simp only [Option.bind_some, within_eq, l00In_eq]
    refine ⟨decide (100 ≤ x.f1 ∧ x.f1 ≤ 300) && (decide (0 ≤ x.f2 ∧ x.f2 ≤ 600) && decide (0 ≤ x.f3 ∧ x.f3 ≤ 100)), fun k hk => ?_, ?_, ?_⟩
    · rw [if_pos (by simp), hf k hk]
      simp only [Option.bind_some]
      rw [if_pos (by omega)]
      by_cases g1 : 100 ≤ x.f1 ∧ x.f1 ≤ 300 <;> by_cases g2 : 0 ≤ x.f2 ∧ x.f2 ≤ 600 <;> simp [g1, g2]
    · by_cases g1 : 100 ≤ x.f1 ∧ x.f1 ≤ 300 <;> by_cases g2 : 0 ≤ x.f2 ∧ x.f2 ≤ 600 <;> simp [g1, g2]
    · intro hb
      simp only [Bool.and_eq_true, decide_eq_true_eq] at hb
      exact ⟨hb.1, hb.2.1, hb.2.2, s, h, w, rfl, h0, h1, fun k hk => hard_eq hk i0 i1 hf ht⟩
  · rw [hd]
    refine ⟨false, fun k hk => ?_, by simp, by simp⟩
    rw [if_pos (by simp), hf k hk]; simp

def vt (x : S78) : Bool := impl_validTrial.f x.f0 x.f1 x.f2 x.f3 == some true
theorem vt_spec (x : S78) : (∀ k, 11 ≤ k → spec_l21Trial.f k [x] = some (vt x)) ∧ impl_validTrial.f x.f0 x.f1 x.f2 x.f3 = some (vt x) ∧
    (vt x = true → (100 ≤ x.f1 ∧ x.f1 ≤ 300) ∧ (0 ≤ x.f2 ∧ x.f2 ≤ 600) ∧ (0 ≤ x.f3 ∧ x.f3 ≤ 100) ∧ ∃ s h w : Int, impl_SpeciesData.f x.f0 = some (s, h, w, 0) ∧ 33 ≤ h ∧ h ≤ 85 ∧ ∀ k, 11 ≤ k → spec_l21Hardness.f k x.f0 = some h) := by
  obtain ⟨b, e1, e2, e3⟩ := trial_eq x
  have e : vt x = b := by unfold vt; rw [e2]; cases b <;> rfl
  rw [e]; exact ⟨e1, e2, e3⟩

def gn (x : S78) : Int := (impl_gain.f x.f0 x.f1 x.f2).getD 0
theorem gn_eq (x : S78) (hx : vt x = true) : impl_gain.f x.f0 x.f1 x.f2 = some (gn x) ∧ 0 ≤ gn x ∧ gn x ≤ 120000 ∧ ∃ h, (∀ k, 11 ≤ k → spec_l21Hardness.f k x.f0 = some h) ∧ spec_l21Gain.f h x.f1 x.f2 = some (gn x) := by
  obtain ⟨a, b, _, s, h, w, hd, h0, h1, hh⟩ := (vt_spec x).2.2 hx
  obtain ⟨e1, e2, e3, e4⟩ := gain_eq hd h0 h1 x.f1 x.f2 a b
  have e : gn x = (x.f1 - 100) * x.f2 / (10 * h) := by unfold gn; rw [e1]; rfl
  rw [e]
  exact ⟨e1, e3, e4, h, hh, e2⟩

def ms (m : Int) (x : S78) : Int := if gn x * m / 100 - x.f3 > -(gn x * m / 100 - x.f3) then gn x * m / 100 - x.f3 else -(gn x * m / 100 - x.f3)

theorem ms_eq (m : Int) (h0 : 50 ≤ m) (h1 : m ≤ 200) (x : S78) (hx : vt x = true) :
    0 ≤ ms m x ∧ ms m x ≤ 300000 ∧ impl_absolute.f (wrap64 ((wrap64 (Int.tdiv (wrap64 (gn x * m)) 100)) - x.f3)) = some (ms m x) ∧
    spec_l00Max.f (wrap64 ((wrap64 (Int.tdiv (wrap64 (gn x * m)) 100)) - x.f3)) (wrap64 (-(wrap64 ((wrap64 (Int.tdiv (wrap64 (gn x * m)) 100)) - x.f3)))) = some (ms m x) := by
  obtain ⟨_, g0, g1, _⟩ := gn_eq x hx
  obtain ⟨_, _, ⟨f0, f1⟩, _⟩ := (vt_spec x).2.2 hx
  have m0 : 0 ≤ gn x * m := Int.mul_nonneg g0 (by omega)
  have m1 : gn x * m ≤ 120000 * 200 := Int.mul_le_mul g1 h1 (by omega) (by omega)
  unfold impl_absolute.f spec_l00Max.f ms mx
  generalize gn x * m = p at *
  rw [w64 (x := p) (by omega) (by omega), Int.tdiv_eq_ediv_of_nonneg m0, w64 (x := p / 100) (by omega) (by omega), w64 (x := p / 100 - x.f3) (by omega) (by omega), w64 (x := -(p / 100 - x.f3)) (by omega) (by omega)]
  have hq : -300000 ≤ p / 100 - x.f3 ∧ p / 100 - x.f3 ≤ 300000 := by omega
  clear m1 m0
  generalize p / 100 - x.f3 = q at *
  refine ⟨by split <;> omega, by split <;> omega, ?_, ?_⟩
  · congr 1; split <;> split <;> omega
  · split <;> rfl

def M (m : Int) : List S78 → Int → Int
  | [], t => t
  | x :: xs, t => M m xs (t + ms m x)

theorem M_drop (m : Int) (l : List S78) (i : Nat) (h : i < l.length) (t : Int) : M m (l.drop i) t = M m (l.drop (i + 1)) (t + ms m l[i]) := by
  rw [List.drop_eq_getElem_cons h]; rfl

theorem miss_spec (l : List S78) (hl : l.length ≤ 64) (hv : ∀ x ∈ l, vt x = true) (m : Int) (h0 : 50 ≤ m) (h1 : m ≤ 200) : ∀ (n i : Nat) (t : Int), i + n = l.length → 0 ≤ t → t ≤ 300000 * i → ∀ k, n + 12 < k →
    spec_l21Miss.l0 k l m t (i : Int) = some (M m (l.drop i) t) := by
  intro n
  induction n with
  | zero =>
    intro i t hi t0 t1 k hk
    obtain ⟨k, rfl⟩ : ∃ m, k = m + 1 := ⟨k - 1, by omega⟩
    simp only [spec_l21Miss.l0]
    rw [if_neg (by omega), List.drop_of_length_le (by omega)]; rfl
  | succ n ih =>
    intro i t hi t0 t1 k hk
    obtain ⟨k, rfl⟩ : ∃ m, k = m + 1 := ⟨k - 1, by omega⟩
    have hlt : i < l.length := by omega
    have hx := hv _ (List.getElem_mem hlt)
    obtain ⟨q1, q2, q3, h, q4, q5⟩ := gn_eq _ hx
    obtain ⟨p0, p1, p2, p3⟩ := ms_eq m h0 h1 _ hx
    simp only [spec_l21Miss.l0]
    rw [if_pos (by omega), if_pos (by omega), rd78 l i hlt, q4 k (by omega)]
    simp only [Option.bind_some]
    rw [q5]
    simp only [Option.bind_some]
    rw [p3]
    simp only [Option.bind_some]
    rw [w64 (x := t + ms m l[i]) (by omega) (by omega), wnat (by omega), ih (i + 1) _ (by omega) (by omega) (by omega) k (by omega), M_drop m l i hlt]

theorem miss_impl (l : List S78) (hl : l.length ≤ 64) (hv : ∀ x ∈ l, vt x = true) (b e m : Int) (h0 : 50 ≤ m) (h1 : m ≤ 200) : ∀ (n i : Nat) (t : Int), i + n = l.length → 0 ≤ t → t ≤ 300000 * i → ∀ k f, f = k + n + 1 →
    impl_FitTrials.l1 f l b e m t l (l.length : Int) (i : Int) = (if b = 0 then (impl_FitTrials.l0 k l m (M m (l.drop i) t) (m + 1)) else (if M m (l.drop i) t < e then (impl_FitTrials.l0 k l m (M m (l.drop i) t) (m + 1)) else (impl_FitTrials.l0 k l b e (m + 1)))) := by
  intro n
  induction n with
  | zero =>
    intro i t hi t0 t1 k f hf
    obtain rfl : f = k + 1 := by omega
    have hM : M m (l.drop i) t = t := by rw [List.drop_of_length_le (by omega)]; rfl
    rw [hM, impl_FitTrials.l1, if_neg (by omega), w64 (x := m + 1) (by omega) (by omega)]
  | succ n ih =>
    intro i t hi t0 t1 k f hf
    obtain ⟨f, rfl⟩ : ∃ m, f = m + 1 := ⟨f - 1, by omega⟩
    have hlt : i < l.length := by omega
    have hx := hv _ (List.getElem_mem hlt)
    obtain ⟨q1, q2, q3, _⟩ := gn_eq _ hx
    obtain ⟨p0, p1, p2, p3⟩ := ms_eq m h0 h1 _ hx
    rw [impl_FitTrials.l1]
    rw [if_pos (by omega), if_pos (by omega), if_pos (by omega), rd78 l i hlt, q1]
    simp only [Option.bind_some]
    rw [p2]
    simp only [Option.bind_some]
    rw [w64 (x := t + ms m l[i]) (by omega) (by omega), wnat (by omega), ih (i + 1) _ (by omega) (by omega) (by omega) k f (by omega), M_drop m l i hlt]

theorem fit_loops (l : List S78) (hl : l.length ≤ 64) (hv : ∀ x ∈ l, vt x = true) : ∀ (d : Nat) (m b : Int), m + d = 201 → 51 ≤ m → 50 ≤ b → b ≤ 200 →
    ∃ r, ∀ k, 100 * d + 200 < k → spec_FitTrials.l1 k l b m = some (r, 0) ∧ impl_FitTrials.l0 k l b (M b l 0) m = some (r, 0) := by
  intro d
  induction d with
  | zero =>
    intro m b hm m0 b0 b1
    refine ⟨b, fun k hk => ?_⟩
    obtain ⟨k, rfl⟩ : ∃ m, k = m + 1 := ⟨k - 1, by omega⟩
    simp only [spec_FitTrials.l1, impl_FitTrials.l0]
    rw [if_neg (by omega), if_neg (by omega)]
    exact ⟨rfl, rfl⟩
  | succ d ih =>
    intro m b hm m0 b0 b1
    obtain ⟨r, hr⟩ := ih (m + 1) (if M m l 0 < M b l 0 then m else b) (by omega) (by omega) (by split <;> omega) (by split <;> omega)
    refine ⟨r, fun k hk => ?_⟩
    obtain ⟨k, rfl⟩ : ∃ m, k = m + 1 := ⟨k - 1, by omega⟩
    obtain ⟨k', rfl⟩ : ∃ k', k = k' + l.length + 1 := ⟨k - l.length - 1, by omega⟩
    have s1 := miss_spec l hl hv m (by omega) (by omega) l.length 0 0 (by omega) (by omega) (by omega) (k' + l.length + 1) (by omega)
    have s2 := miss_spec l hl hv b (by omega) (by omega) l.length 0 0 (by omega) (by omega) (by omega) (k' + l.length + 1) (by omega)
    have s3 := miss_impl l hl hv b (M b l 0) m (by omega) (by omega) l.length 0 0 (by omega) (by omega) (by omega) k' _ rfl
    simp only [Int.natCast_zero, List.drop_zero] at s1 s2 s3
    obtain ⟨q1, _⟩ := hr (k' + l.length + 1) (by omega)
    obtain ⟨_, q2⟩ := hr k' (by omega)
    rw [impl_FitTrials.l0, spec_FitTrials.l1]
    unfold spec_l21Miss.f
    rw [if_pos (by omega), if_pos (by omega), s1, s2, s3]
    simp only [Option.bind_some]
    rw [if_neg (show ¬ b = 0 by omega), w64 (x := m + 1) (by omega) (by omega)]
    by_cases c : M m l 0 < M b l 0
    · rw [if_pos c] at q1 q2 ⊢
      rw [if_pos c]
      exact ⟨q1, q2⟩
    · rw [if_neg c] at q1 q2 ⊢
      rw [if_neg c]
      exact ⟨q1, q2⟩

theorem res_eq (l : List S78) (hl : l.length ≤ 1048576) : ∃ r c : Int, ∀ k, 1100000 ≤ k → spec_FitTrials.f k l = some (r, c) ∧ impl_FitTrials.f k l = some (r, c) := by
  have hi : ∀ k, 1100000 ≤ k → fi51_52.f k l = some (!l.all vt) := by
    intro k hk
    unfold fi51_52.f fi76_52.f
    obtain ⟨r, h1, h2⟩ := idx_loop l 0 (fun x => !vt x) (fun k i => fi76_52.l0 k l (l.length : Int) i) (by
      intro k i hi _
      simp only [fi76_52.l0]
      rw [if_pos (by omega), if_pos (by omega), if_pos (by omega), rd78 l i hi, wnat (by omega)]
      unfold impl_FitTrials_1.f
      rw [(vt_spec l[i]).2.1]
      simp only [Option.bind_some]) (by
      intro k _
      simp only [fi76_52.l0]
      rw [if_neg (by omega)]) k (by omega)
    rw [h1]
    simp only [Option.bind_some]
    rw [h2, any_not]
  by_cases hv : l.all vt = true
  · have hv' : ∀ x ∈ l, vt x = true := List.all_eq_true.1 hv
    -- the reference's walk over the trials ends at its tail
    have hs : ∀ (n i k f : Nat), i + n = l.length → 12 ≤ k → f = k + n + 1 → spec_FitTrials.l0 f l (i : Int) = (if (l.length : Int) > 64 then (some (0, 5)) else (if (l.length : Int) = 0 then (some (0, 6)) else (spec_FitTrials.l1 k l 50 (50 + 1)))) := by
      intro n
      induction n with
      | zero =>
        intro i k f hi hk hf
        obtain rfl : f = k + 1 := by omega
        rw [spec_FitTrials.l0, if_neg (by omega)]
      | succ n ih =>
        intro i k f hi hk hf
        obtain ⟨f, rfl⟩ : ∃ m, f = m + 1 := ⟨f - 1, by omega⟩
        have hlt : i < l.length := by omega
        rw [spec_FitTrials.l0]
        rw [if_pos (by omega), if_pos (by omega), rd78 l i hlt, (vt_spec _).1 _ (by omega)]
        simp only [Option.bind_some, hv' _ (List.getElem_mem hlt), if_true]
        rw [wnat (by omega)]
        exact ih (i + 1) k f (by omega) hk (by omega)
    have hs0 : ∀ k, 1100000 ≤ k → spec_FitTrials.f k l = (if (l.length : Int) > 64 then (some (0, 5)) else (if (l.length : Int) = 0 then (some (0, 6)) else (spec_FitTrials.l1 (k - l.length - 1) l 50 (50 + 1)))) := by
      intro k hk
      have := hs l.length 0 (k - l.length - 1) k (by omega) (by omega) (by omega)
      unfold spec_FitTrials.f
      exact this
    by_cases c1 : (l.length : Int) > 64
    · refine ⟨0, 5, fun k hk => ?_⟩
      rw [hs0 k hk]
      unfold impl_FitTrials.f
      rw [hi k hk, hv, if_pos c1]
      simp only [Option.bind_some]
      rw [if_neg (by simp), if_pos c1]
      exact ⟨trivial, rfl⟩
    · by_cases c2 : (l.length : Int) = 0
      · refine ⟨0, 6, fun k hk => ?_⟩
        rw [hs0 k hk]
        unfold impl_FitTrials.f
        rw [hi k hk, hv, if_neg c1, if_pos c2]
        simp only [Option.bind_some]
        rw [if_neg (by simp), if_neg c1, if_pos c2]
        exact ⟨trivial, rfl⟩
      · obtain ⟨r, hr⟩ := fit_loops l (by omega) hv' 150 51 50 (by omega) (by omega) (by omega) (by omega)
        refine ⟨r, 0, fun k hk => ?_⟩
        obtain ⟨q1, _⟩ := hr (k - l.length - 1) (by omega)
        obtain ⟨k', rfl⟩ : ∃ k', k = (k' + l.length + 1) + 1 := ⟨k - l.length - 2, by omega⟩
        obtain ⟨_, q2⟩ := hr k' (by omega)
        rw [hs0 _ hk]
        unfold impl_FitTrials.f
        rw [hi _ hk, hv, if_neg c1, if_neg c2]
        simp only [Option.bind_some]
        rw [if_neg (by simp), if_neg c1, if_neg c2]
        have s3 := miss_impl l (by omega) hv' 0 0 50 (by omega) (by omega) l.length 0 0 (by omega) (by omega) (by omega) k' _ rfl
        simp only [Int.natCast_zero, List.drop_zero, if_true] at s3
        rw [impl_FitTrials.l0, if_pos (by omega), s3]
        exact ⟨q1, q2⟩
  · refine ⟨0, 1, fun k hk => ?_⟩
    have hs : ∀ (n i : Nat), i + n = l.length → (l.drop i).all vt = false → ∀ k, n + 12 < k → spec_FitTrials.l0 k l (i : Int) = some (0, 1) := by
      intro n
      induction n with
      | zero =>
        intro i hi hb
        rw [List.drop_of_length_le (by omega)] at hb
        cases hb
      | succ n ih =>
        intro i hi hb k hk
        obtain ⟨k, rfl⟩ : ∃ m, k = m + 1 := ⟨k - 1, by omega⟩
        have hlt : i < l.length := by omega
        rw [spec_FitTrials.l0]
        rw [if_pos (by omega), if_pos (by omega), rd78 l i hlt, (vt_spec _).1 _ (by omega)]
        simp only [Option.bind_some]
        cases hx : vt l[i] with
        | false => simp
        | true =>
          rw [List.drop_eq_getElem_cons hlt, List.all_cons, hx, Bool.true_and] at hb
          rw [if_pos rfl, wnat (by omega)]
          exact ih (i + 1) (by omega) hb k (by omega)
    have h0 := hs l.length 0 (by omega) (by simpa using hv) k (by omega)
    unfold spec_FitTrials.f impl_FitTrials.f
    simp only [Int.natCast_zero] at h0
    rw [h0, hi k hk]
    simp [hv]

theorem FnExactFitTrials : laws_FnExactFitTrials.Pure := by
  intro l ⟨hl, hg⟩
  obtain ⟨k, hk⟩ : ∃ k : Nat, k = 1200000 := ⟨_, rfl⟩
  refine ⟨k + 1, ?_⟩
  unfold laws_FnExactFitTrials.f
  obtain ⟨v, e, h⟩ := szTrialS_eq l 1048576 (by omega) (by omega) hl hg
  rw [e (k + 1) (by omega)]
  simp only [Option.bind_some]
  rcases h with h | ⟨h1, _, h2⟩
  · rw [if_pos h]
  rw [if_neg (by omega), toTrialS_eq l h2 (k + 1) (by omega)]
  simp only [Option.bind_some]
  have h2' : (l.map toTrial_).length ≤ 1048576 := by simpa using h2
  obtain ⟨r, c, hr⟩ := res_eq (l.map toTrial_) h2'
  obtain ⟨q1, q2⟩ := hr (k + 1) (by omega)
  rw [q1, q2]
  simp only [Option.bind_some, if_true, bne_self_eq_false, laws_FnExactFitTrials.j0, Bool.false_eq_true, if_false]
  rw [toTrialS_eq l h2 k (by omega)]
  simp only [Option.bind_some]
  rw [eqTrialS_eq (l.map toTrial_) h2' k (by simp; omega)]
  simp

end Go.Proofs.Yteijbdngbmciaaa.Pure

/- FnExactSeasonRange: the program's SeasonRange returns what the reference's returns, for all arguments; no condition but that the listed table reads as the card ties it. -/
import Derived.Test.YtdmiihpblfkamaaDoorGFnExactSeasonRangex4
namespace Go.Proofs.YtdmiihpblfkamaaDoor.Pure
open Go.RowKit Go.Proofs.YtdmiihpblfkamaaDoor.GFnExactSeasonRange Go.Proofs.YtdmiihpblfkamaaDoorW.PrintWords Go.Proofs.YtdmiihpblfkamaaDoorW.PrintLast
set_option linter.unusedSimpArgs false
set_option linter.unusedVariables false

theorem w64 {x : Int} (h0 : -9223372036854775808 ≤ x) (h1 : x ≤ 9223372036854775807) : wrap64 x = x := by
  unfold wrap64; omega

theorem within_eq (a b c : Int) : impl_within.f a b c = some (decide (b ≤ a ∧ a ≤ c)) := by
  unfold impl_within.f
  by_cases h : a ≥ b
  · rw [if_pos h]; simp [h]
  · rw [if_neg h]; simp; omega

theorem l00In_eq (a b c : Int) : spec_l00In.f a b c = some (decide (b ≤ a ∧ a ≤ c)) := by
  unfold spec_l00In.f
  by_cases h : a ≥ b
  · rw [if_pos h]; simp [h]
  · rw [if_neg h]; simp; omega

/-- a loop over a list: from one state to the next, or out of it -/
def run {α σ β : Type} (st : σ → α → Nat → σ ⊕ β) (en : σ → β) : List α → σ → Nat → β
  | [], s, _ => en s
  | x :: xs, s, i => match st s x i with
    | .inl s' => run st en xs s' (i + 1)
    | .inr r => r

theorem loop_run {α σ β : Type} (xs : List α) (K0 : Nat) (Inv : σ → Nat → Prop) (L : Nat → σ → Int → Option β) (st : σ → α → Nat → σ ⊕ β) (en : σ → β)
    (hs : ∀ (k : Nat) (s : σ) (i : Nat) (h : i < xs.length), K0 ≤ k → Inv s i →
      (∃ s', st s xs[i] i = .inl s' ∧ Inv s' (i + 1) ∧ L (k + 1) s (i : Int) = L k s' ((i + 1 : Nat) : Int)) ∨ (∃ r, st s xs[i] i = .inr r ∧ L (k + 1) s (i : Int) = some r))
    (he : ∀ (k : Nat) (s : σ), K0 ≤ k → Inv s xs.length → L (k + 1) s (xs.length : Int) = some (en s)) :
    ∀ (n i k : Nat) (s : σ), i + n = xs.length → K0 + n < k → Inv s i → L k s (i : Int) = some (run st en (xs.drop i) s i) := by
  intro n
  induction n with
  | zero =>
    intro i k s hi hk hI
    obtain ⟨k, rfl⟩ : ∃ m, k = m + 1 := ⟨k - 1, by omega⟩
    obtain rfl : i = xs.length := by omega
    rw [he k s (by omega) hI, List.drop_length]; rfl
  | succ n ih =>
    intro i k s hi hk hI
    obtain ⟨k, rfl⟩ : ∃ m, k = m + 1 := ⟨k - 1, by omega⟩
    have hlt : i < xs.length := by omega
    rw [List.drop_eq_getElem_cons hlt]
    rcases hs k s i hlt (by omega) hI with ⟨s', h1, h2, h3⟩ | ⟨r, h1, h3⟩
    · rw [h3, ih (i + 1) k s' (by omega) (by omega) h2]
      simp only [run, h1]
    · rw [h3]
      simp only [run, h1]

theorem loop_run0 {α σ β : Type} (xs : List α) (K0 : Nat) (Inv : σ → Nat → Prop) (L : Nat → σ → Int → Option β) (st : σ → α → Nat → σ ⊕ β) (en : σ → β)
    (hs : ∀ (k : Nat) (s : σ) (i : Nat) (h : i < xs.length), K0 ≤ k → Inv s i →
      (∃ s', st s xs[i] i = .inl s' ∧ Inv s' (i + 1) ∧ L (k + 1) s (i : Int) = L k s' ((i + 1 : Nat) : Int)) ∨ (∃ r, st s xs[i] i = .inr r ∧ L (k + 1) s (i : Int) = some r))
    (he : ∀ (k : Nat) (s : σ), K0 ≤ k → Inv s xs.length → L (k + 1) s (xs.length : Int) = some (en s)) (k : Nat) (s : σ) (hk : K0 + xs.length < k) (hI : Inv s 0) :
    L k s 0 = some (run st en xs s 0) := by
  have := loop_run xs K0 Inv L st en hs he xs.length 0 k s (by omega) hk hI
  simpa using this

/-- a row that is made and then filled, element by element -/
theorem loop_map {α β : Type} (xs : List α) (z : β) (c : α → β) (L : Nat → List β → Int → Option (List β))
    (hs : ∀ (k : Nat) (s : List β) (i : Nat) (h : i < xs.length), s.length = xs.length → L (k + 1) s (i : Int) = L k (s.set i (c xs[i])) ((i + 1 : Nat) : Int))
    (he : ∀ (k : Nat) (s : List β), L (k + 1) s (xs.length : Int) = some s) (k : Nat) (hk : xs.length < k) :
    L k (List.replicate xs.length z) 0 = some (xs.map c) := by
  have key : ∀ (n i k : Nat) (s : List β), i + n = xs.length → n < k → s.length = xs.length → s.take i = (xs.map c).take i → L k s (i : Int) = some (xs.map c) := by
    intro n
    induction n with
    | zero =>
      intro i k s hi hk hl ht
      obtain ⟨k, rfl⟩ : ∃ m, k = m + 1 := ⟨k - 1, by omega⟩
      obtain rfl : i = xs.length := by omega
      have h1 : s.take xs.length = s := List.take_of_length_le (by omega)
      rw [he, ← h1, ht, List.take_of_length_le (by simp)]
    | succ n ih =>
      intro i k s hi hk hl ht
      obtain ⟨k, rfl⟩ : ∃ m, k = m + 1 := ⟨k - 1, by omega⟩
      have hlt : i < xs.length := by omega
      rw [hs k s i hlt hl]
      refine ih (i + 1) k _ (by omega) (by omega) (by rw [List.length_set]; exact hl) ?_
      rw [List.take_succ_eq_append_getElem (by rw [List.length_set]; omega), List.take_succ_eq_append_getElem (by rw [List.length_map]; omega), List.take_set_of_le (by omega), ht]
      simp
  have := key xs.length 0 k (List.replicate xs.length z) (by omega) hk (by simp) (by simp)
  simpa using this

theorem wnat {n : Nat} (h : n < 9223372036854775807) : wrap64 ((n : Int) + 1) = ((n + 1 : Nat) : Int) := by
  unfold wrap64; omega

theorem loop_all {β : Type} (n K0 : Nat) (L : Nat → Int → Option β) (r : β) (hs : ∀ (k i : Nat), K0 ≤ k → i < n → L (k + 1) (i : Int) = L k ((i + 1 : Nat) : Int)) (he : ∀ k : Nat, L (k + 1) (n : Int) = some r)
    (k : Nat) (hk : K0 + n < k) : L k 0 = some r := by
  have key : ∀ (m i k : Nat), i + m = n → K0 + m < k → L k (i : Int) = some r := by
    intro m
    induction m with
    | zero =>
      intro i k hi hk
      obtain ⟨k, rfl⟩ : ∃ m, k = m + 1 := ⟨k - 1, by omega⟩
      obtain rfl : i = n := by omega
      exact he k
    | succ m ih =>
      intro i k hi hk
      obtain ⟨k, rfl⟩ : ∃ m, k = m + 1 := ⟨k - 1, by omega⟩
      rw [hs k i (by omega) (by omega)]
      exact ih (i + 1) k (by omega) (by omega)
  simpa using key n 0 k (by omega) hk

theorem all_from {α β : Type} (xs : List α) (K0 : Nat) (p : α → Bool) (r0 r1 : β) (L : Nat → Int → Option β)
    (hs : ∀ (k i : Nat) (h : i < xs.length), K0 ≤ k → L (k + 1) (i : Int) = if p xs[i] = true then L k ((i + 1 : Nat) : Int) else some r0)
    (he : ∀ k : Nat, K0 ≤ k → L (k + 1) (xs.length : Int) = some r1) : ∀ (n i k : Nat), i + n = xs.length → K0 + n < k → L k (i : Int) = some (if (xs.drop i).all p = true then r1 else r0) := by
  intro n
  induction n with
  | zero =>
    intro i k hi hk
    obtain ⟨k, rfl⟩ : ∃ m, k = m + 1 := ⟨k - 1, by omega⟩
    obtain rfl : i = xs.length := by omega
    rw [he k (by omega), List.drop_length]; rfl
  | succ n ih =>
    intro i k hi hk
    obtain ⟨k, rfl⟩ : ∃ m, k = m + 1 := ⟨k - 1, by omega⟩
    have hlt : i < xs.length := by omega
    rw [hs k i hlt (by omega), List.drop_eq_getElem_cons hlt, List.all_cons]
    cases hp : p xs[i] with
    | true => rw [if_pos rfl, ih (i + 1) k (by omega) (by omega), Bool.true_and]
    | false => simp

theorem all_loop {α β : Type} (xs : List α) (K0 : Nat) (p : α → Bool) (r0 r1 : β) (L : Nat → Int → Option β)
    (hs : ∀ (k i : Nat) (h : i < xs.length), K0 ≤ k → L (k + 1) (i : Int) = if p xs[i] = true then L k ((i + 1 : Nat) : Int) else some r0)
    (he : ∀ k : Nat, K0 ≤ k → L (k + 1) (xs.length : Int) = some r1) (k : Nat) (hk : K0 + xs.length < k) : L k 0 = some (if xs.all p = true then r1 else r0) := by
  simpa using all_from xs K0 p r0 r1 L hs he xs.length 0 k (by omega) hk

theorem idx_from {α : Type} (xs : List α) (K0 : Nat) (q : α → Bool) (L : Nat → Int → Option Int)
    (hs : ∀ (k i : Nat) (h : i < xs.length), K0 ≤ k → L (k + 1) (i : Int) = if q xs[i] = true then some (i : Int) else L k ((i + 1 : Nat) : Int))
    (he : ∀ k : Nat, K0 ≤ k → L (k + 1) (xs.length : Int) = some (-1)) : ∀ (n i k : Nat), i + n = xs.length → K0 + n < k → ∃ r, L k (i : Int) = some r ∧ decide (r ≥ 0) = (xs.drop i).any q := by
  intro n
  induction n with
  | zero =>
    intro i k hi hk
    obtain ⟨k, rfl⟩ : ∃ m, k = m + 1 := ⟨k - 1, by omega⟩
    obtain rfl : i = xs.length := by omega
    exact ⟨-1, he k (by omega), by rw [List.drop_length]; rfl⟩
  | succ n ih =>
    intro i k hi hk
    obtain ⟨k, rfl⟩ : ∃ m, k = m + 1 := ⟨k - 1, by omega⟩
    have hlt : i < xs.length := by omega
    rw [hs k i hlt (by omega), List.drop_eq_getElem_cons hlt, List.any_cons]
    cases hp : q xs[i] with
    | true => exact ⟨i, by rw [if_pos rfl], by simp⟩
    | false =>
      obtain ⟨r, h1, h2⟩ := ih (i + 1) k (by omega) (by omega)
      exact ⟨r, by rw [if_neg (by simp)]; exact h1, by rw [h2]; simp⟩

theorem idx_loop {α : Type} (xs : List α) (K0 : Nat) (q : α → Bool) (L : Nat → Int → Option Int)
    (hs : ∀ (k i : Nat) (h : i < xs.length), K0 ≤ k → L (k + 1) (i : Int) = if q xs[i] = true then some (i : Int) else L k ((i + 1 : Nat) : Int))
    (he : ∀ k : Nat, K0 ≤ k → L (k + 1) (xs.length : Int) = some (-1)) (k : Nat) (hk : K0 + xs.length < k) : ∃ r, L k 0 = some r ∧ decide (r ≥ 0) = xs.any q := by
  simpa using idx_from xs K0 q L hs he xs.length 0 k (by omega) hk

theorem any_not {α : Type} (l : List α) (p : α → Bool) : l.any (fun x => !p x) = !l.all p := by
  induction l with
  | nil => rfl
  | cons x l ih => rw [List.any_cons, List.all_cons, ih]; cases p x <;> simp

theorem rdi (xs : List Int) (i : Nat) (h : i < xs.length) : rd xs (i : Int) = xs[i] := by
  unfold rd; simp [List.getD, h]

theorem eqInt64S_eq (l : List Int) (hl : l.length ≤ 1048576) (k : Nat) (hk : l.length < k) : laws_eqInt64S.f k l l = some true := by
  unfold laws_eqInt64S.f
  rw [if_pos rfl]
  refine loop_all l.length 0 (fun k i => laws_eqInt64S.l0 k l l i) true ?_ ?_ k (by omega)
  · intro k i _ h
    simp only [laws_eqInt64S.l0]
    rw [if_pos (by omega), if_pos (by omega), if_pos (by omega), wnat (by omega)]; simp
  · intro k
    simp only [laws_eqInt64S.l0]
    rw [if_neg (by omega)]

theorem toInt64S_eq (l : List Int) (hl : l.length ≤ 1048576) (k : Nat) (hk : l.length < k) : laws_toInt64S.f k l = some l := by
  unfold laws_toInt64S.f
  rw [if_pos (by omega), if_pos (by omega), show ((l.length : Int)).toNat = l.length by omega]
  have := loop_map l (0 : Int) (fun x => x) (fun k s i => laws_toInt64S.l0 k l s i) (by
    intro k s i h hs
    simp only [laws_toInt64S.l0]
    rw [if_pos (by omega), if_pos (by omega), if_pos (by omega), rdi l i h, wnat (by omega)]
    rfl) (by
    intro k s
    simp only [laws_toInt64S.l0]
    rw [if_neg (by omega)]) k hk
  simpa using this

abbrev tabM : List Int := [0, 0, 30, 60, 50, 90, 65, 120, 80, 160, 100, 280]
def moistOk (i : Nat) : Bool := match spec_l20At.f 40 (i : Int), impl_moisture.f 40 (i : Int) tabM with
  | some v, some u => decide (v = u) && decide (0 ≤ v) && decide (v ≤ 280)
  | _, _ => false
/-- the 101 humidities, each tried by the kernel -/
theorem moist_all : (List.range 101).all moistOk = true := by decide +kernel
def mo (x : Int) : Int := (spec_l20At.f 40 x).getD 0

theorem mo_eq (x : Int) (hx : 0 ≤ x ∧ x ≤ 100) (k : Nat) (hk : 40 ≤ k) : spec_l20At.f k x = some (mo x) ∧ impl_moisture.f k x tabM = some (mo x) ∧ 0 ≤ mo x ∧ mo x ≤ 280 := by
  obtain ⟨i, rfl⟩ := Int.eq_ofNat_of_zero_le hx.1
  have h := List.all_eq_true.1 moist_all i (List.mem_range.2 (by omega))
  unfold moistOk at h
  unfold mo
  cases e1 : spec_l20At.f 40 (i : Int) with
  | none => rw [e1] at h; cases h
  | some v =>
    cases e2 : impl_moisture.f 40 (i : Int) tabM with
    | none => rw [e1, e2] at h; cases h
    | some u =>
      rw [e1, e2] at h
      simp only [Bool.and_eq_true, decide_eq_true_eq] at h
      obtain ⟨⟨rfl, h0⟩, h1⟩ := h
      refine ⟨?_, ?_, h0, h1⟩
      · exact at_rounds (g := fun k => spec_l20At.f k (i : Int)) (fun k => spec_l20At.mono _ k) (k := 40) hk e1
      · exact at_rounds (g := fun k => impl_moisture.f k (i : Int) tabM) (fun k => impl_moisture.mono _ _ k) (k := 40) hk e2

def hum (x : Int) : Bool := decide (0 ≤ x ∧ x ≤ 100)

theorem months_eq (l : List Int) (hl : l.length ≤ 1048576) (k : Nat) (hk : l.length < k) : spec_l20Months.f k l = some (if l.all hum = true then ((l.length : Int) == 12) else false) := by
  unfold spec_l20Months.f
  refine all_loop l 0 hum false ((l.length : Int) == 12) (fun k i => spec_l20Months.l0 k l i) ?_ ?_ k (by omega)
  · intro k i hi _
    simp only [spec_l20Months.l0]
    unfold spec_l20Humidity.f
    rw [if_pos (by omega), if_pos (by omega), rdi l i hi, l00In_eq, wnat (by omega)]
    rfl
  · intro k _
    simp only [spec_l20Months.l0]
    rw [if_neg (by omega)]

theorem mn_eq (a b : Int) : mn a b = if a < b then a else b := by unfold mn; split <;> split <;> omega
theorem mx_eq (a b : Int) : mx a b = if a > b then a else b := by unfold mx; split <;> split <;> omega

theorem range_loops (l : List Int) (hl : l.length = 12) (hv : l.all hum = true) : ∀ (n i : Nat) (lo hi : Int), i + n = 12 →
    ∃ r : Int × Int, ∀ k, n + 60 < k → spec_l20Range.l0 k l lo hi (i : Int) = some r ∧ impl_SeasonRange.l0 k lo hi l (l.length : Int) (i : Int) tabM = some (r.1, r.2, 0) := by
  intro n
  induction n with
  | zero =>
    intro i lo hi h
    refine ⟨(lo, hi), fun k hk => ?_⟩
    obtain ⟨k, rfl⟩ : ∃ m, k = m + 1 := ⟨k - 1, by omega⟩
    rw [spec_l20Range.l0, impl_SeasonRange.l0, if_neg (by omega), if_neg (by omega)]
    exact ⟨rfl, rfl⟩
  | succ n ih =>
    intro i lo hi h
    have hlt : i < l.length := by omega
    have hx : 0 ≤ l[i] ∧ l[i] ≤ 100 := by
      have := List.all_eq_true.1 hv _ (List.getElem_mem hlt)
      simpa [hum] using this
    obtain ⟨r, hr⟩ := ih (i + 1) (if lo < mo l[i] then lo else mo l[i]) (if hi > mo l[i] then hi else mo l[i]) (by omega)
    refine ⟨r, fun k hk => ?_⟩
    obtain ⟨k, rfl⟩ : ∃ m, k = m + 1 := ⟨k - 1, by omega⟩
    obtain ⟨e1, e2, _, _⟩ := mo_eq l[i] hx k (by omega)
    obtain ⟨q1, q2⟩ := hr k (by omega)
    have m1 : spec_l00Min.f lo (mo l[i]) = some (if lo < mo l[i] then lo else mo l[i]) := by unfold spec_l00Min.f; split <;> rfl
    have m2 : spec_l00Max.f hi (mo l[i]) = some (if hi > mo l[i] then hi else mo l[i]) := by unfold spec_l00Max.f; split <;> rfl
    rw [spec_l20Range.l0, impl_SeasonRange.l0, if_pos (by omega), if_pos (by omega), if_pos (by omega), if_pos (by omega), if_pos (by omega), if_pos (by omega), rdi l i hlt, e1, e2, wnat (by omega), within_eq]
    simp only [Option.bind_some, m1, m2, decide_eq_true hx, if_true, mn_eq, mx_eq]
    exact ⟨q1, q2⟩

theorem range_bad (l : List Int) (hl : l.length = 12) : ∀ (n i : Nat) (lo hi : Int), i + n = 12 → (l.drop i).all hum = false → ∀ k, n + 60 < k → impl_SeasonRange.l0 k lo hi l (l.length : Int) (i : Int) tabM = some (0, 0, 2) := by
  intro n
  induction n with
  | zero =>
    intro i lo hi h hb
    rw [List.drop_of_length_le (by omega)] at hb
    cases hb
  | succ n ih =>
    intro i lo hi h hb k hk
    obtain ⟨k, rfl⟩ : ∃ m, k = m + 1 := ⟨k - 1, by omega⟩
    have hlt : i < l.length := by omega
    rw [impl_SeasonRange.l0, if_pos (by omega), if_pos (by omega), if_pos (by omega), rdi l i hlt, within_eq]
    simp only [Option.bind_some]
    by_cases hx : 0 ≤ l[i] ∧ l[i] ≤ 100
    · obtain ⟨_, e2, _, _⟩ := mo_eq l[i] hx k (by omega)
      rw [decide_eq_true hx, if_pos rfl, e2, wnat (by omega)]
      simp only [Option.bind_some]
      rw [List.drop_eq_getElem_cons hlt, List.all_cons] at hb
      have : hum l[i] = true := decide_eq_true hx
      rw [this, Bool.true_and] at hb
      exact ih (i + 1) _ _ (by omega) hb k (by omega)
    · rw [decide_eq_false hx]; rfl

theorem season_eq (l : List Int) (hl : l.length ≤ 1048576) : ∃ r : Int × Int × Int, ∀ k, 1049000 ≤ k → spec_SeasonRange.f k l = some r ∧ impl_SeasonRange.f k l tabM = some r := by
  by_cases h12 : l.length = 12
  · by_cases hv : l.all hum = true
    · have hx : (0 : Int) ≤ l[0] ∧ l[0] ≤ 100 := by
        have := List.all_eq_true.1 hv _ (List.getElem_mem (show 0 < l.length by omega))
        simpa [hum] using this
      obtain ⟨r, hr⟩ := range_loops l h12 hv 11 1 (mo l[0]) (mo l[0]) (by omega)
      refine ⟨(r.1, r.2, 0), fun k hk => ?_⟩
      obtain ⟨k, rfl⟩ : ∃ m, k = m + 1 := ⟨k - 1, by omega⟩
      obtain ⟨e1, e2, b0, b1⟩ := mo_eq l[0] hx (k + 1) (by omega)
      obtain ⟨_, e2', _, _⟩ := mo_eq l[0] hx k (by omega)
      obtain ⟨q1, _⟩ := hr (k + 1) (by omega)
      obtain ⟨_, q2⟩ := hr k (by omega)
      have r0 : rd l 0 = l[0] := rdi l 0 (by omega)
      unfold spec_SeasonRange.f spec_l20Range.f impl_SeasonRange.f
      rw [months_eq l hl (k + 1) (by omega), hv, if_pos rfl, if_pos (show (l.length : Int) = 12 by omega), impl_SeasonRange.l0, r0, e1, if_pos (by omega), if_pos (by omega), if_pos (by omega), if_pos (by omega), within_eq, e2']
      simp only [Option.bind_some, decide_eq_true hx, if_true]
      rw [show (((l.length : Nat) : Int) == 12) = true from by simp [h12], if_pos rfl]
      have m1 : mn 280 (mo l[0]) = mo l[0] := by rw [mn_eq]; split <;> omega
      have m2 : mx 0 (mo l[0]) = mo l[0] := by rw [mx_eq]; split <;> omega
      rw [m1, m2, show wrap64 (0 + 1) = ((1 : Nat) : Int) from by rw [w64 (by omega) (by omega)]; rfl]
      rw [show (1 : Int) = ((1 : Nat) : Int) from rfl, q1, q2]
      simp [hx]
    · refine ⟨(0, 0, 2), fun k hk => ?_⟩
      have hb := range_bad l h12 12 0 280 0 (by omega) (by simpa using hv) k (by omega)
      simp only [Int.natCast_zero] at hb
      unfold spec_SeasonRange.f impl_SeasonRange.f
      rw [months_eq l hl k (by omega), if_neg hv, if_pos (show (l.length : Int) = 12 by omega), hb]
      exact ⟨rfl, rfl⟩
  · refine ⟨(0, 0, 2), fun k hk => ?_⟩
    unfold spec_SeasonRange.f impl_SeasonRange.f
    rw [months_eq l hl k (by omega), if_neg (show ¬ (l.length : Int) = 12 by omega), show (((l.length : Nat) : Int) == 12) = false from by simp; omega]
    simp

theorem FnExactSeasonRange : laws_FnExactSeasonRange.Pure := by
  intro l ⟨hl, _⟩
  obtain ⟨k, hk⟩ : ∃ k : Nat, k = 1049200 := ⟨_, rfl⟩
  refine ⟨k + 1, ?_⟩
  unfold laws_FnExactSeasonRange.f
  by_cases hs : (l.length : Int) > 1048576
  · rw [if_pos hs]
  rw [if_neg hs, toInt64S_eq l (by omega) (k + 1) (by omega)]
  simp only [Option.bind_some]
  obtain ⟨r, hr⟩ := season_eq l (by omega)
  obtain ⟨q1, q2⟩ := hr (k + 1) (by omega)
  rw [q1]
  simp only [Option.bind_some]
  rw [show impl_SeasonRange.f (k + 1) l [0, 0, 30, 60, 50, 90, 65, 120, 80, 160, 100, 280] = some r from q2]
  simp only [Option.bind_some, if_true, bne_self_eq_false, laws_FnExactSeasonRange.j0, Bool.false_eq_true, if_false]
  rw [toInt64S_eq l (by omega) k (by omega)]
  simp only [Option.bind_some]
  rw [eqInt64S_eq l (by omega) k (by omega)]
  simp

end Go.Proofs.YtdmiihpblfkamaaDoor.Pure

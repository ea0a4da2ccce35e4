/- FnExactShapeText: the program's ShapeText returns what the reference's returns, for all arguments; no condition but that the listed tables read as the card ties them. -/
import Derived.Test.YtakagkflgkoiiaaGFnExactShapeTextx
import Derived.Lib.ItoaLen
import Derived.Lib.Join
import Derived.Lib.SplitLaws
import Derived.Lib.IndexBytes
namespace Go.Proofs.Ytakagkflgkoiiaa.Pure
open Go.RowKit Go.Proofs.Ytakagkflgkoiiaa.GFnExactShapeText Go.Proofs.YtakagkflgkoiiaaW.PrintWords Go.Proofs.YtakagkflgkoiiaaW.PrintLast
set_option linter.unusedSimpArgs false
set_option linter.unusedVariables false

open Go.Proofs.Ytakagkflgkoiiaa.GFnExactValidShape (impl_within.f impl_ValidShape.f impl_ValidShape_1.f fi58_59.f fi86_59.f fi86_59.l0)

theorem w64 {x : Int} (h0 : -9223372036854775808 ≤ x) (h1 : x ≤ 9223372036854775807) : wrap64 x = x := by
  unfold wrap64; omega

theorem within_eq (a b c : Int) : impl_within.f a b c = some (decide (b ≤ a ∧ a ≤ c)) := by
  unfold impl_within.f
  by_cases h : a ≥ b
  · rw [if_pos h]; simp [h]
  · rw [if_neg h]; simp; omega

theorem l00In_eq (a b c : Int) : spec_l00In.f a b c = some (decide (b ≤ a ∧ a ≤ c)) := by
  unfold spec_l00In.f
  by_cases h : a ≥ b
  · rw [if_pos h]; simp [h]
  · rw [if_neg h]; simp; omega

/-- a loop over a list: from one state to the next, or out of it -/
def run {α σ β : Type} (st : σ → α → Nat → σ ⊕ β) (en : σ → β) : List α → σ → Nat → β
  | [], s, _ => en s
  | x :: xs, s, i => match st s x i with
    | .inl s' => run st en xs s' (i + 1)
    | .inr r => r

theorem loop_run {α σ β : Type} (xs : List α) (K0 : Nat) (Inv : σ → Nat → Prop) (L : Nat → σ → Int → Option β) (st : σ → α → Nat → σ ⊕ β) (en : σ → β)
    (hs : ∀ (k : Nat) (s : σ) (i : Nat) (h : i < xs.length), K0 ≤ k → Inv s i →
      (∃ s', st s xs[i] i = .inl s' ∧ Inv s' (i + 1) ∧ L (k + 1) s (i : Int) = L k s' ((i + 1 : Nat) : Int)) ∨ (∃ r, st s xs[i] i = .inr r ∧ L (k + 1) s (i : Int) = some r))
    (he : ∀ (k : Nat) (s : σ), K0 ≤ k → Inv s xs.length → L (k + 1) s (xs.length : Int) = some (en s)) :
    ∀ (n i k : Nat) (s : σ), i + n = xs.length → K0 + n < k → Inv s i → L k s (i : Int) = some (run st en (xs.drop i) s i) := by
  intro n
  induction n with
  | zero =>
    intro i k s hi hk hI
    obtain ⟨k, rfl⟩ : ∃ m, k = m + 1 := ⟨k - 1, by omega⟩
    obtain rfl : i = xs.length := by omega
    rw [he k s (by omega) hI, List.drop_length]; rfl
  | succ n ih =>
    intro i k s hi hk hI
    obtain ⟨k, rfl⟩ : ∃ m, k = m + 1 := ⟨k - 1, by omega⟩
    have hlt : i < xs.length := by omega
    rw [List.drop_eq_getElem_cons hlt]
    rcases hs k s i hlt (by omega) hI with ⟨s', h1, h2, h3⟩ | ⟨r, h1, h3⟩
    · rw [h3, ih (i + 1) k s' (by omega) (by omega) h2]
      simp only [run, h1]
    · rw [h3]
      simp only [run, h1]

theorem loop_run0 {α σ β : Type} (xs : List α) (K0 : Nat) (Inv : σ → Nat → Prop) (L : Nat → σ → Int → Option β) (st : σ → α → Nat → σ ⊕ β) (en : σ → β)
    (hs : ∀ (k : Nat) (s : σ) (i : Nat) (h : i < xs.length), K0 ≤ k → Inv s i →
      (∃ s', st s xs[i] i = .inl s' ∧ Inv s' (i + 1) ∧ L (k + 1) s (i : Int) = L k s' ((i + 1 : Nat) : Int)) ∨ (∃ r, st s xs[i] i = .inr r ∧ L (k + 1) s (i : Int) = some r))
    (he : ∀ (k : Nat) (s : σ), K0 ≤ k → Inv s xs.length → L (k + 1) s (xs.length : Int) = some (en s)) (k : Nat) (s : σ) (hk : K0 + xs.length < k) (hI : Inv s 0) :
    L k s 0 = some (run st en xs s 0) := by
  have := loop_run xs K0 Inv L st en hs he xs.length 0 k s (by omega) hk hI
  simpa using this

/-- a row that is made and then filled, element by element -/
theorem loop_map {α β : Type} (xs : List α) (z : β) (c : α → β) (L : Nat → List β → Int → Option (List β))
    (hs : ∀ (k : Nat) (s : List β) (i : Nat) (h : i < xs.length), s.length = xs.length → L (k + 1) s (i : Int) = L k (s.set i (c xs[i])) ((i + 1 : Nat) : Int))
    (he : ∀ (k : Nat) (s : List β), L (k + 1) s (xs.length : Int) = some s) (k : Nat) (hk : xs.length < k) :
    L k (List.replicate xs.length z) 0 = some (xs.map c) := by
  have key : ∀ (n i k : Nat) (s : List β), i + n = xs.length → n < k → s.length = xs.length → s.take i = (xs.map c).take i → L k s (i : Int) = some (xs.map c) := by
    intro n
    induction n with
    | zero =>
      intro i k s hi hk hl ht
      obtain ⟨k, rfl⟩ : ∃ m, k = m + 1 := ⟨k - 1, by omega⟩
      obtain rfl : i = xs.length := by omega
      have h1 : s.take xs.length = s := List.take_of_length_le (by omega)
      rw [he, ← h1, ht, List.take_of_length_le (by simp)]
    | succ n ih =>
      intro i k s hi hk hl ht
      obtain ⟨k, rfl⟩ : ∃ m, k = m + 1 := ⟨k - 1, by omega⟩
      have hlt : i < xs.length := by omega
      rw [hs k s i hlt hl]
      refine ih (i + 1) k _ (by omega) (by omega) (by rw [List.length_set]; exact hl) ?_
      rw [List.take_succ_eq_append_getElem (by rw [List.length_set]; omega), List.take_succ_eq_append_getElem (by rw [List.length_map]; omega), List.take_set_of_le (by omega), ht]
      simp
  have := key xs.length 0 k (List.replicate xs.length z) (by omega) hk (by simp) (by simp)
  simpa using this

theorem wnat {n : Nat} (h : n < 9223372036854775807) : wrap64 ((n : Int) + 1) = ((n + 1 : Nat) : Int) := by
  unfold wrap64; omega

theorem loop_all {β : Type} (n K0 : Nat) (L : Nat → Int → Option β) (r : β) (hs : ∀ (k i : Nat), K0 ≤ k → i < n → L (k + 1) (i : Int) = L k ((i + 1 : Nat) : Int)) (he : ∀ k : Nat, L (k + 1) (n : Int) = some r)
    (k : Nat) (hk : K0 + n < k) : L k 0 = some r := by
  have key : ∀ (m i k : Nat), i + m = n → K0 + m < k → L k (i : Int) = some r := by
    intro m
    induction m with
    | zero =>
      intro i k hi hk
      obtain ⟨k, rfl⟩ : ∃ m, k = m + 1 := ⟨k - 1, by omega⟩
      obtain rfl : i = n := by omega
      exact he k
    | succ m ih =>
      intro i k hi hk
      obtain ⟨k, rfl⟩ : ∃ m, k = m + 1 := ⟨k - 1, by omega⟩
      rw [hs k i (by omega) (by omega)]
      exact ih (i + 1) k (by omega) (by omega)
  simpa using key n 0 k (by omega) hk

theorem all_from {α β : Type} (xs : List α) (K0 : Nat) (p : α → Bool) (r0 r1 : β) (L : Nat → Int → Option β)
    (hs : ∀ (k i : Nat) (h : i < xs.length), K0 ≤ k → L (k + 1) (i : Int) = if p xs[i] = true then L k ((i + 1 : Nat) : Int) else some r0)
    (he : ∀ k : Nat, K0 ≤ k → L (k + 1) (xs.length : Int) = some r1) : ∀ (n i k : Nat), i + n = xs.length → K0 + n < k → L k (i : Int) = some (if (xs.drop i).all p = true then r1 else r0) := by
  intro n
  induction n with
  | zero =>
    intro i k hi hk
    obtain ⟨k, rfl⟩ : ∃ m, k = m + 1 := ⟨k - 1, by omega⟩
    obtain rfl : i = xs.length := by omega
    rw [he k (by omega), List.drop_length]; rfl
  | succ n ih =>
    intro i k hi hk
    obtain ⟨k, rfl⟩ : ∃ m, k = m + 1 := ⟨k - 1, by omega⟩
    have hlt : i < xs.length := by omega
    rw [hs k i hlt (by omega), List.drop_eq_getElem_cons hlt, List.all_cons]
    cases hp : p xs[i] with
    | true => rw [if_pos rfl, ih (i + 1) k (by omega) (by omega), Bool.true_and]
    | false => simp

theorem all_loop {α β : Type} (xs : List α) (K0 : Nat) (p : α → Bool) (r0 r1 : β) (L : Nat → Int → Option β)
    (hs : ∀ (k i : Nat) (h : i < xs.length), K0 ≤ k → L (k + 1) (i : Int) = if p xs[i] = true then L k ((i + 1 : Nat) : Int) else some r0)
    (he : ∀ k : Nat, K0 ≤ k → L (k + 1) (xs.length : Int) = some r1) (k : Nat) (hk : K0 + xs.length < k) : L k 0 = some (if xs.all p = true then r1 else r0) := by
  simpa using all_from xs K0 p r0 r1 L hs he xs.length 0 k (by omega) hk

theorem idx_from {α : Type} (xs : List α) (K0 : Nat) (q : α → Bool) (L : Nat → Int → Option Int)
    (hs : ∀ (k i : Nat) (h : i < xs.length), K0 ≤ k → L (k + 1) (i : Int) = if q xs[i] = true then some (i : Int) else L k ((i + 1 : Nat) : Int))
    (he : ∀ k : Nat, K0 ≤ k → L (k + 1) (xs.length : Int) = some (-1)) : ∀ (n i k : Nat), i + n = xs.length → K0 + n < k → ∃ r, L k (i : Int) = some r ∧ decide (r ≥ 0) = (xs.drop i).any q := by
  intro n
  induction n with
  | zero =>
    intro i k hi hk
    obtain ⟨k, rfl⟩ : ∃ m, k = m + 1 := ⟨k - 1, by omega⟩
    obtain rfl : i = xs.length := by omega
    exact ⟨-1, he k (by omega), by rw [List.drop_length]; rfl⟩
  | succ n ih =>
    intro i k hi hk
    obtain ⟨k, rfl⟩ : ∃ m, k = m + 1 := ⟨k - 1, by omega⟩
    have hlt : i < xs.length := by omega
    rw [hs k i hlt (by omega), List.drop_eq_getElem_cons hlt, List.any_cons]
    cases hp : q xs[i] with
    | true => exact ⟨i, by rw [if_pos rfl], by simp⟩
    | false =>
      obtain ⟨r, h1, h2⟩ := ih (i + 1) k (by omega) (by omega)
      exact ⟨r, by rw [if_neg (by simp)]; exact h1, by rw [h2]; simp⟩

theorem idx_loop {α : Type} (xs : List α) (K0 : Nat) (q : α → Bool) (L : Nat → Int → Option Int)
    (hs : ∀ (k i : Nat) (h : i < xs.length), K0 ≤ k → L (k + 1) (i : Int) = if q xs[i] = true then some (i : Int) else L k ((i + 1 : Nat) : Int))
    (he : ∀ k : Nat, K0 ≤ k → L (k + 1) (xs.length : Int) = some (-1)) (k : Nat) (hk : K0 + xs.length < k) : ∃ r, L k 0 = some r ∧ decide (r ≥ 0) = xs.any q := by
  simpa using idx_from xs K0 q L hs he xs.length 0 k (by omega) hk

theorem any_not {α : Type} (l : List α) (p : α → Bool) : l.any (fun x => !p x) = !l.all p := by
  induction l with
  | nil => rfl
  | cons x l ih => rw [List.any_cons, List.all_cons, ih]; cases p x <;> simp

theorem rdi (xs : List Int) (i : Nat) (h : i < xs.length) : rd xs (i : Int) = xs[i] := by
  unfold rd; simp [List.getD, h]

theorem eqInt64S_eq (l : List Int) (hl : l.length ≤ 1048576) (k : Nat) (hk : l.length < k) : laws_eqInt64S.f k l l = some true := by
  unfold laws_eqInt64S.f
  rw [if_pos rfl]
  refine loop_all l.length 0 (fun k i => laws_eqInt64S.l0 k l l i) true ?_ ?_ k (by omega)
  · intro k i _ h
    simp only [laws_eqInt64S.l0]
    rw [if_pos (by omega), if_pos (by omega), if_pos (by omega), wnat (by omega)]; simp
  · intro k
    simp only [laws_eqInt64S.l0]
    rw [if_neg (by omega)]

theorem toInt64S_eq (l : List Int) (hl : l.length ≤ 1048576) (k : Nat) (hk : l.length < k) : laws_toInt64S.f k l = some l := by
  unfold laws_toInt64S.f
  rw [if_pos (by omega), if_pos (by omega), show ((l.length : Int)).toNat = l.length by omega]
  have := loop_map l (0 : Int) (fun x => x) (fun k s i => laws_toInt64S.l0 k l s i) (by
    intro k s i h hs
    simp only [laws_toInt64S.l0]
    rw [if_pos (by omega), if_pos (by omega), if_pos (by omega), rdi l i h, wnat (by omega)]
    rfl) (by
    intro k s
    simp only [laws_toInt64S.l0]
    rw [if_neg (by omega)]) k hk
  simpa using this

theorem szShape_eq (a b : Int) (l : List Int) (hl : l.length ≤ maxLen) : laws_szShape.f a b l 1048576 = some (if (1048576 : Int) < l.length then (-1 : Int) else 1048576 - (l.length : Int)) := by
  unfold maxLen at hl
  unfold laws_szShape.f laws_szInt64S.f
  rw [w64 (x := 1048576 - (l.length : Int)) (by omega) (by omega)]
  by_cases h : (1048576 : Int) < l.length
  · rw [if_pos h, if_pos (by omega)]; rfl
  · rw [if_neg h, if_neg (by omega)]
    simp only [Option.bind_some]
    rw [if_neg (by omega)]
theorem toShape_eq (a b : Int) (l : List Int) (hl : l.length ≤ 1048576) (k : Nat) (hk : l.length < k) : laws_toShape.f k a b l = some (a, b, l) := by
  unfold laws_toShape.f
  rw [toInt64S_eq l hl k hk]; rfl
theorem eqShape_eq (a b : Int) (l : List Int) (hl : l.length ≤ 1048576) (k : Nat) (hk : l.length < k) : laws_eqShape.f k a b l a b l = some true := by
  unfold laws_eqShape.f
  simp [eqInt64S_eq l hl k hk]

def bit (x : Int) : Bool := decide (0 ≤ x ∧ x ≤ 1)
def okSh (a b : Int) (l : List Int) : Bool := decide (1 ≤ a ∧ a ≤ 12) && (decide (1 ≤ b ∧ b ≤ 12) && (decide ((l.length : Int) = a * b) && l.all bit))

theorem okSh_spec {a b : Int} {l : List Int} (h : okSh a b l = true) : (1 ≤ a ∧ a ≤ 12) ∧ (1 ≤ b ∧ b ≤ 12) ∧ (l.length : Int) = a * b ∧ l.all bit = true := by
  unfold okSh at h
  simpa using h

theorem mul12 {a b : Int} (ha : 1 ≤ a ∧ a ≤ 12) (hb : 1 ≤ b ∧ b ≤ 12) : 1 ≤ a * b ∧ a * b ≤ 144 := by
  have h1 : (1 : Int) * 1 ≤ a * b := Int.mul_le_mul ha.1 hb.1 (by omega) (by omega)
  have h2 : a * b ≤ (12 : Int) * 12 := Int.mul_le_mul ha.2 hb.2 (by omega) (by omega)
  omega

theorem specShape (a b : Int) (l : List Int) (hl : l.length ≤ 1048576) (k : Nat) (hk : l.length + 1 < k) : spec_l19Ok.f k [(⟨a, b, l⟩ : S27)] = some (okSh a b l) := by
  have r : rd_T27 [(⟨a, b, l⟩ : S27)] 0 = ⟨a, b, l⟩ := rfl
  obtain ⟨k, rfl⟩ : ∃ m, k = m + 1 := ⟨k - 1, by omega⟩
  have hlp : spec_l19Ok.l0 k 0 [(⟨a, b, l⟩ : S27)] = some (if l.all bit = true then true else false) := by
    refine all_loop l 0 bit false true (fun k i => spec_l19Ok.l0 k i [(⟨a, b, l⟩ : S27)]) ?_ ?_ k (by omega)
    · intro k i hi _
      simp only [spec_l19Ok.l0, r]
      rw [if_pos (by simp), if_pos (by omega), if_pos (by omega), rdi l i hi, wnat (by omega), l00In_eq]
      rfl
    · intro k _
      simp only [spec_l19Ok.l0, r]
      rw [if_pos (by simp), if_neg (by omega)]
  unfold spec_l19Ok.f okSh
  rw [if_pos (by simp), r, l00In_eq, l00In_eq]
  simp only [Option.bind_some, spec_l19Ok.j0, hlp]
  by_cases ha : 1 ≤ a ∧ a ≤ 12
  · by_cases hb : 1 ≤ b ∧ b ≤ 12
    · have := mul12 ha hb
      rw [w64 (x := a * b) (by omega) (by omega)]
      by_cases hm : (l.length : Int) = a * b
      · cases hh : l.all bit <;> simp [ha, hb, hm]
      · simp [ha, hb, hm]
    · simp [ha, hb]
  · simp [ha]

theorem implShape (a b : Int) (l : List Int) (hl : l.length ≤ 1048576) (k : Nat) (hk : l.length + 1 < k) : impl_ValidShape.f k a b l = some (okSh a b l) := by
  unfold impl_ValidShape.f okSh
  rw [within_eq, within_eq]
  have he : fi58_59.f k l = some (!l.all bit) := by
    unfold fi58_59.f fi86_59.f
    obtain ⟨r, h1, h2⟩ := idx_loop l 0 (fun x => !bit x) (fun k i => fi86_59.l0 k l (l.length : Int) i) (by
      intro k i hi _
      simp only [fi86_59.l0]
      rw [if_pos (by omega), if_pos (by omega), if_pos (by omega), rdi l i hi, wnat (by omega)]
      unfold impl_ValidShape_1.f
      rw [within_eq]
      rfl) (by
      intro k _
      simp only [fi86_59.l0]
      rw [if_neg (by omega)]) k (by omega)
    rw [h1]
    simp only [Option.bind_some]
    rw [h2, any_not]
  simp only [Option.bind_some, he]
  by_cases ha : 1 ≤ a ∧ a ≤ 12
  · by_cases hb : 1 ≤ b ∧ b ≤ 12
    · have := mul12 ha hb
      rw [w64 (x := a * b) (by omega) (by omega)]
      by_cases hm : (l.length : Int) = a * b
      · simp [ha, hb, hm]
      · simp [ha, hb, hm]
    · simp [ha, hb]
  · simp [ha]

open Go.Proofs.YtakagkflgkoiiaaX (textFrom)
def toB (xs : List Int) : List UInt8 := xs.map fun x => UInt8.ofNat x.toNat
theorem strOf_eq (xs : List Int) : strOfNums xs = ⟨(toB xs).toArray⟩ := by
  unfold strOfNums toB
  simp

def chI (c : Int) : Int := if c = 1 then 35 else 46
def fI (W : Nat) (l : List Int) (i : Nat) : List Int := (if 0 < i ∧ i % W = 0 then [47] else []) ++ [chI (rd l (i : Int))]
/-- the text of the first cells -/
def TI (W : Nat) (l : List Int) : Nat → List Int
  | 0 => []
  | n + 1 => TI W l n ++ fI W l n
theorem TI_len (W : Nat) (l : List Int) : ∀ n, (TI W l n).length ≤ 2 * n
  | 0 => by simp [TI]
  | n + 1 => by
    have := TI_len W l n
    rw [TI, List.length_append]
    have : (fI W l n).length ≤ 2 := by unfold fI; split <;> simp
    omega
def CI (l : List Int) (s : Nat) : Nat → List Int
  | 0 => []
  | n + 1 => CI l s n ++ [chI (rd l ((s + n : Nat) : Int))]
theorem CI_len (l : List Int) (s : Nat) : ∀ n, (CI l s n).length = n
  | 0 => rfl
  | n + 1 => by rw [CI, List.length_append, CI_len l s n]; rfl
def UI (W : Nat) (l : List Int) (y x : Nat) : List Int := TI W l (y * W) ++ ((if 0 < y then [47] else []) ++ CI l (y * W) x)
theorem UI_len (W : Nat) (l : List Int) (y x : Nat) : (UI W l y x).length ≤ 2 * (y * W) + 1 + x := by
  have := TI_len W l (y * W)
  unfold UI
  rw [List.length_append, List.length_append, CI_len]
  split <;> simp <;> omega

theorem TU (W : Nat) (l : List Int) (y : Nat) (hW : 0 < W) : ∀ x, x < W → TI W l (y * W + (x + 1)) = UI W l y (x + 1)
  | 0, _ => by
    show TI W l (y * W) ++ fI W l (y * W) = _
    unfold UI
    congr 1
    unfold fI CI CI
    have e : (0 < y * W ∧ y * W % W = 0) ↔ 0 < y := by
      rw [Nat.mul_mod_left]
      constructor
      · rintro ⟨h, _⟩
        rcases Nat.eq_zero_or_pos y with rfl | h2
        · simp at h
        · exact h2
      · exact fun h => ⟨Nat.mul_pos h hW, rfl⟩
    by_cases h : 0 < y
    · rw [if_pos (e.2 h), if_pos h]; rfl
    · rw [if_neg (fun h2 => h (e.1 h2)), if_neg h]; rfl
  | x + 1, hx => by
    have ih := TU W l y hW x (by omega)
    show TI W l (y * W + (x + 1)) ++ fI W l (y * W + (x + 1)) = _
    rw [ih]
    have e : (y * W + (x + 1)) % W = x + 1 := by rw [Nat.mul_comm, Nat.mul_add_mod, Nat.mod_eq_of_lt hx]
    unfold fI
    rw [if_neg (by rw [e]; omega)]
    show _ = TI W l (y * W) ++ ((if 0 < y then [47] else []) ++ (CI l (y * W) (x + 1) ++ [chI (rd l ((y * W + (x + 1) : Nat) : Int))]))
    unfold UI
    simp only [List.append_assoc, List.nil_append]

theorem text_TI (W : Nat) (l : List Int) : ∀ (d i : Nat), i + d = l.length → toB (TI W l i) ++ textFrom (W : Int) i (l.drop i) = toB (TI W l l.length)
  | 0, i, h => by
    rw [List.drop_of_length_le (by omega), show i = l.length by omega]
    simp [textFrom]
  | d + 1, i, h => by
    have hlt : i < l.length := by omega
    have ih := text_TI W l d (i + 1) (by omega)
    rw [List.drop_eq_getElem_cons hlt, ← ih]
    simp only [textFrom]
    have e : (Int.tmod (i : Int) (W : Int) = 0) ↔ i % W = 0 := by
      rw [Int.tmod_eq_emod_of_nonneg (Int.natCast_nonneg i), ← Int.natCast_emod]
      first | omega | simp
    have hr : rd l (i : Int) = l[i] := rdi l i hlt
    have hn1' : ¬ (0 < i ∧ i % W = 0) → ¬ (0 < i ∧ Int.tmod (i : Int) (W : Int) = 0) := by rw [e]; exact id
    have hp1' : (0 < i ∧ i % W = 0) → (0 < i ∧ Int.tmod (i : Int) (W : Int) = 0) := by rw [e]; exact id
    generalize Int.tmod (i : Int) (W : Int) = tm at hn1' hp1' ⊢
    clear e
    have hs : toB (TI W l (i + 1)) = toB (TI W l i) ++ ((if 0 < i ∧ tm = 0 then [47] else []) ++ [if l[i] = 1 then 35 else 46]) := by
      rw [TI]
      unfold toB
      rw [List.map_append]
      congr 1
      unfold fI chI
      rw [hr]
      by_cases h1 : 0 < i ∧ i % W = 0
      · rw [if_pos h1, if_pos (hp1' h1)]
        by_cases h2 : l[i] = 1
        · rw [if_pos h2, if_pos h2]; rfl
        · rw [if_neg h2, if_neg h2]; rfl
      · rw [if_neg h1, if_neg (hn1' h1)]
        by_cases h2 : l[i] = 1
        · rw [if_pos h2, if_pos h2]; rfl
        · rw [if_neg h2, if_neg h2]; rfl
    rw [hs]
    simp only [List.append_assoc]

theorem specRow {A B : Nat} {l : List Int} (hA : 1 ≤ A ∧ A ≤ 12) (hB : 1 ≤ B ∧ B ≤ 12) (hl : l.length = A * B) (y : Nat) (hy : y < B) (R : Option ByteArray) (K : Nat)
    (hR : ∀ k', K < k' → spec_l19Text.l0 k' (UI A l y A) ((y + 1 : Nat) : Int) [(⟨(A : Int), (B : Int), l⟩ : S27)] = R) : ∀ (d x k : Nat), x + d = A → K + d + 1 < k →
    spec_l19Text.l1 k (UI A l y x) (y : Int) (x : Int) [(⟨(A : Int), (B : Int), l⟩ : S27)] = R := by
  have r : rd_T27 [(⟨(A : Int), (B : Int), l⟩ : S27)] 0 = ⟨(A : Int), (B : Int), l⟩ := rfl
  have h1 : (y + 1) * A ≤ B * A := Nat.mul_le_mul_right A hy
  have h2 : B * A ≤ 12 * 12 := Nat.mul_le_mul hB.2 hA.2
  have h3 : (y + 1) * A = y * A + A := Nat.succ_mul y A
  have h4 : l.length = B * A := by rw [hl, Nat.mul_comm]
  intro d
  induction d with
  | zero =>
    intro x k hx hk
    obtain ⟨k, rfl⟩ : ∃ m, k = m + 1 := ⟨k - 1, by omega⟩
    obtain rfl : x = A := by omega
    simp only [spec_l19Text.l1, r]
    rw [if_pos (by simp), if_neg (by omega), wnat (by omega)]
    exact hR k (by omega)
  | succ d ih =>
    intro x k hx hk
    obtain ⟨k, rfl⟩ : ∃ m, k = m + 1 := ⟨k - 1, by omega⟩
    have hidx0 : y * A + x < l.length := by clear ih hR; omega
    have hbnd : 2 * (y * A) + 1 + x < 140737488355328 := by clear ih hR; omega
    have e1 : wrap64 (wrap64 ((y : Int) * (A : Int)) + (x : Int)) = ((y * A + x : Nat) : Int) := by
      rw [← Int.natCast_mul, w64 (x := ((y * A : Nat) : Int)) (by omega) (by omega), w64 (by omega) (by omega)]; omega
    have hn := ih (x + 1) k (by omega) (by omega)
    have hidx : ((y * A + x : Nat) : Int) < (l.length : Int) := Int.ofNat_lt.mpr hidx0
    have hwx : wrap64 ((x : Int) + 1) = ((x + 1 : Nat) : Int) := wnat (by omega)
    have hul : (UI A l y x).length < 140737488355328 := Nat.lt_of_le_of_lt (UI_len A l y x) hbnd
    have hs : UI A l y (x + 1) = UI A l y x ++ [chI (rd l ((y * A + x : Nat) : Int))] := by unfold UI; rw [CI]; simp only [List.append_assoc]
    simp only [spec_l19Text.l1, r]
    have hxa : (x : Int) < (A : Int) := by omega
    rw [e1, if_pos (by simp), if_pos hxa, if_pos (Int.natCast_nonneg _), if_pos hidx, hwx]
    unfold chI at hs
    by_cases hc : rd l ((y * A + x : Nat) : Int) = 1
    · rw [if_pos hc] at hs ⊢
      rw [if_pos hul, ← hs]; exact hn
    · rw [if_neg hc] at hs ⊢
      rw [if_pos hul, ← hs]; exact hn

theorem specST {A B : Nat} {l : List Int} (hA : 1 ≤ A ∧ A ≤ 12) (hB : 1 ≤ B ∧ B ≤ 12) (hl : l.length = A * B) (k : Nat) (hk : 1000 < k) : spec_l19Text.f k [(⟨(A : Int), (B : Int), l⟩ : S27)] = some ⟨(textFrom (A : Int) 0 l).toArray⟩ := by
  have r : rd_T27 [(⟨(A : Int), (B : Int), l⟩ : S27)] 0 = ⟨(A : Int), (B : Int), l⟩ := rfl
  have h2 : B * A ≤ 12 * 12 := Nat.mul_le_mul hB.2 hA.2
  have h4 : l.length = B * A := by rw [hl, Nat.mul_comm]
  unfold spec_l19Text.f
  have ht := text_TI A l l.length 0 (by omega)
  rw [List.drop_zero, show toB (TI A l 0) = [] from rfl, List.nil_append] at ht
  rw [ht, ← strOf_eq]
  have key : ∀ (d y k : Nat), y + d = B → 20 + 20 * d < k → spec_l19Text.l0 k (TI A l (y * A)) (y : Int) [(⟨(A : Int), (B : Int), l⟩ : S27)] = some (strOfNums (TI A l l.length)) := by
    intro d
    induction d with
    | zero =>
      intro y k hy hk
      obtain ⟨k, rfl⟩ : ∃ m, k = m + 1 := ⟨k - 1, by omega⟩
      obtain rfl : y = B := by omega
      simp only [spec_l19Text.l0, r]
      rw [if_pos (by simp), if_neg (by omega), h4]
    | succ d ih =>
      intro y k hy hk
      obtain ⟨k, rfl⟩ : ∃ m, k = m + 2 := ⟨k - 2, by omega⟩
      have h1 : (y + 1) * A ≤ B * A := Nat.mul_le_mul_right A (by omega)
      have h3 : (y + 1) * A = y * A + A := Nat.succ_mul y A
      have hbnd : 2 * (y * A) < 140737488355328 := by omega
      have hT := Nat.lt_of_le_of_lt (TI_len A l (y * A)) hbnd
      have hrow := specRow hA hB hl y (by omega) (some (strOfNums (TI A l l.length))) (20 + 20 * d) (by
        intro k' hk'
        have := ih (y + 1) k' (by omega) hk'
        have hU := TU A l y (by omega) (A - 1) (by omega)
        rw [show A - 1 + 1 = A by omega] at hU
        rw [h3, hU] at this
        exact this) A 0 k (by omega) (by omega)
      rw [show ((0 : Nat) : Int) = 0 from rfl] at hrow
      simp only [spec_l19Text.l0, r]
      rw [if_pos (by simp), if_pos (by omega)]
      by_cases h0 : y = 0
      · subst h0
        rw [if_neg (by omega)]
        simp only [spec_l19Text.j1]
        have e : UI A l 0 0 = TI A l (0 * A) := by unfold UI; simp [CI]
        rw [← e]; exact hrow
      · rw [if_pos (by omega), if_pos hT]
        simp only [spec_l19Text.j1]
        have e : UI A l y 0 = TI A l (y * A) ++ [47] := by unfold UI; rw [if_pos (by omega)]; simp [CI]
        rw [← e]; exact hrow
  have := key B 0 k (by omega) (by omega)
  rw [Nat.zero_mul] at this
  exact this

theorem FnExactShapeText : laws_FnExactShapeText.Pure := by
  intro a b l ⟨_, _, hl, _⟩
  obtain ⟨k, hk⟩ : ∃ k : Nat, k = 1049200 := ⟨_, rfl⟩
  refine ⟨k, ?_⟩
  unfold laws_FnExactShapeText.f
  rw [szShape_eq a b l hl]
  simp only [Option.bind_some]
  by_cases h : (1048576 : Int) < l.length
  · rw [if_pos h, if_pos (by omega)]
  rw [if_neg h, if_neg (by omega), toShape_eq a b l (by omega) k (by omega)]
  simp only [Option.bind_some]
  have hw : ∃ t, spec_ShapeText.f k a b l = some t ∧ Go.Proofs.YtakagkflgkoiiaaX.impl_ShapeText.f k a b l = some t := by
    unfold spec_ShapeText.f Go.Proofs.YtakagkflgkoiiaaX.impl_ShapeText.f
    rw [specShape a b l (by omega) k (by omega), implShape a b l (by omega) k (by omega)]
    simp only [Option.bind_some]
    cases ho : okSh a b l with
    | false => exact ⟨⟨#[]⟩, by simp, by simp⟩
    | true =>
      obtain ⟨ha, hb, hm, _⟩ := okSh_spec ho
      obtain ⟨A, rfl⟩ := Int.eq_ofNat_of_zero_le (show 0 ≤ a by omega)
      obtain ⟨B, rfl⟩ := Int.eq_ofNat_of_zero_le (show 0 ≤ b by omega)
      have hm2 : l.length = A * B := by exact_mod_cast hm
      have m12 := mul12 ha hb
      refine ⟨⟨(textFrom (A : Int) 0 l).toArray⟩, ?_, ?_⟩
      · rw [if_pos rfl, specST (by omega) (by omega) hm2 k (by omega)]; rfl
      · rw [if_pos rfl, if_pos ⟨ha.1, by omega⟩]
  obtain ⟨t, h1, h2⟩ := hw
  rw [h1, h2]
  simp only [Option.bind_some]
  rw [eqShape_eq a b l (by omega) k (by omega)]
  simp

end Go.Proofs.Ytakagkflgkoiiaa.Pure

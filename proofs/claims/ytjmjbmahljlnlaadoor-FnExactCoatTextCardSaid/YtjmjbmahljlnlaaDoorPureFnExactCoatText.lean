/- FnExactCoatText: the program's CoatText returns what the reference's returns, for all arguments; no condition but that the listed tables read as the card ties them. -/
import Derived.Test.YtjmjbmahljlnlaaDoorGFnExactCoatTextx
import Derived.Lib.ItoaLen
import Derived.Lib.Join
namespace Go.Proofs.YtjmjbmahljlnlaaDoor.Pure
open Go.RowKit Go.Proofs.YtjmjbmahljlnlaaDoor.GFnExactCoatText Go.Proofs.YtjmjbmahljlnlaaDoorW.PrintWords Go.Proofs.YtjmjbmahljlnlaaDoorW.PrintLast
set_option linter.unusedSimpArgs false
set_option linter.unusedVariables false

theorem w64 {x : Int} (h0 : -9223372036854775808 ≤ x) (h1 : x ≤ 9223372036854775807) : wrap64 x = x := by
  unfold wrap64; omega

theorem within_eq (a b c : Int) : impl_within.f a b c = some (decide (b ≤ a ∧ a ≤ c)) := by
  unfold impl_within.f
  by_cases h : a ≥ b
  · rw [if_pos h]; simp [h]
  · rw [if_neg h]; simp; omega

theorem l00In_eq (a b c : Int) : spec_l00In.f a b c = some (decide (b ≤ a ∧ a ≤ c)) := by
  unfold spec_l00In.f
  by_cases h : a ≥ b
  · rw [if_pos h]; simp [h]
  · rw [if_neg h]; simp; omega

/-- a loop over a list: from one state to the next, or out of it -/
def run {α σ β : Type} (st : σ → α → Nat → σ ⊕ β) (en : σ → β) : List α → σ → Nat → β
  | [], s, _ => en s
  | x :: xs, s, i => match st s x i with
    | .inl s' => run st en xs s' (i + 1)
    | .inr r => r

theorem loop_run {α σ β : Type} (xs : List α) (K0 : Nat) (Inv : σ → Nat → Prop) (L : Nat → σ → Int → Option β) (st : σ → α → Nat → σ ⊕ β) (en : σ → β)
    (hs : ∀ (k : Nat) (s : σ) (i : Nat) (h : i < xs.length), K0 ≤ k → Inv s i →
      (∃ s', st s xs[i] i = .inl s' ∧ Inv s' (i + 1) ∧ L (k + 1) s (i : Int) = L k s' ((i + 1 : Nat) : Int)) ∨ (∃ r, st s xs[i] i = .inr r ∧ L (k + 1) s (i : Int) = some r))
    (he : ∀ (k : Nat) (s : σ), K0 ≤ k → Inv s xs.length → L (k + 1) s (xs.length : Int) = some (en s)) :
    ∀ (n i k : Nat) (s : σ), i + n = xs.length → K0 + n < k → Inv s i → L k s (i : Int) = some (run st en (xs.drop i) s i) := by
  intro n
  induction n with
  | zero =>
    intro i k s hi hk hI
    obtain ⟨k, rfl⟩ : ∃ m, k = m + 1 := ⟨k - 1, by omega⟩
    obtain rfl : i = xs.length := by omega
    rw [he k s (by omega) hI, List.drop_length]; rfl
  | succ n ih =>
    intro i k s hi hk hI
    obtain ⟨k, rfl⟩ : ∃ m, k = m + 1 := ⟨k - 1, by omega⟩
    have hlt : i < xs.length := by omega
    rw [List.drop_eq_getElem_cons hlt]
    rcases hs k s i hlt (by omega) hI with ⟨s', h1, h2, h3⟩ | ⟨r, h1, h3⟩
    · rw [h3, ih (i + 1) k s' (by omega) (by omega) h2]
      simp only [run, h1]
    · rw [h3]
      simp only [run, h1]

theorem loop_run0 {α σ β : Type} (xs : List α) (K0 : Nat) (Inv : σ → Nat → Prop) (L : Nat → σ → Int → Option β) (st : σ → α → Nat → σ ⊕ β) (en : σ → β)
    (hs : ∀ (k : Nat) (s : σ) (i : Nat) (h : i < xs.length), K0 ≤ k → Inv s i →
      (∃ s', st s xs[i] i = .inl s' ∧ Inv s' (i + 1) ∧ L (k + 1) s (i : Int) = L k s' ((i + 1 : Nat) : Int)) ∨ (∃ r, st s xs[i] i = .inr r ∧ L (k + 1) s (i : Int) = some r))
    (he : ∀ (k : Nat) (s : σ), K0 ≤ k → Inv s xs.length → L (k + 1) s (xs.length : Int) = some (en s)) (k : Nat) (s : σ) (hk : K0 + xs.length < k) (hI : Inv s 0) :
    L k s 0 = some (run st en xs s 0) := by
  have := loop_run xs K0 Inv L st en hs he xs.length 0 k s (by omega) hk hI
  simpa using this

/-- a row that is made and then filled, element by element -/
theorem loop_map {α β : Type} (xs : List α) (z : β) (c : α → β) (L : Nat → List β → Int → Option (List β))
    (hs : ∀ (k : Nat) (s : List β) (i : Nat) (h : i < xs.length), s.length = xs.length → L (k + 1) s (i : Int) = L k (s.set i (c xs[i])) ((i + 1 : Nat) : Int))
    (he : ∀ (k : Nat) (s : List β), L (k + 1) s (xs.length : Int) = some s) (k : Nat) (hk : xs.length < k) :
    L k (List.replicate xs.length z) 0 = some (xs.map c) := by
  have key : ∀ (n i k : Nat) (s : List β), i + n = xs.length → n < k → s.length = xs.length → s.take i = (xs.map c).take i → L k s (i : Int) = some (xs.map c) := by
    intro n
    induction n with
    | zero =>
      intro i k s hi hk hl ht
      obtain ⟨k, rfl⟩ : ∃ m, k = m + 1 := ⟨k - 1, by omega⟩
      obtain rfl : i = xs.length := by omega
      have h1 : s.take xs.length = s := List.take_of_length_le (by omega)
      rw [he, ← h1, ht, List.take_of_length_le (by simp)]
    | succ n ih =>
      intro i k s hi hk hl ht
      obtain ⟨k, rfl⟩ : ∃ m, k = m + 1 := ⟨k - 1, by omega⟩
      have hlt : i < xs.length := by omega
      rw [hs k s i hlt hl]
      refine ih (i + 1) k _ (by omega) (by omega) (by rw [List.length_set]; exact hl) ?_
      rw [List.take_succ_eq_append_getElem (by rw [List.length_set]; omega), List.take_succ_eq_append_getElem (by rw [List.length_map]; omega), List.take_set_of_le (by omega), ht]
      simp
  have := key xs.length 0 k (List.replicate xs.length z) (by omega) hk (by simp) (by simp)
  simpa using this

theorem wnat {n : Nat} (h : n < 9223372036854775807) : wrap64 ((n : Int) + 1) = ((n + 1 : Nat) : Int) := by
  unfold wrap64; omega

theorem loop_all {β : Type} (n K0 : Nat) (L : Nat → Int → Option β) (r : β) (hs : ∀ (k i : Nat), K0 ≤ k → i < n → L (k + 1) (i : Int) = L k ((i + 1 : Nat) : Int)) (he : ∀ k : Nat, L (k + 1) (n : Int) = some r)
    (k : Nat) (hk : K0 + n < k) : L k 0 = some r := by
  have key : ∀ (m i k : Nat), i + m = n → K0 + m < k → L k (i : Int) = some r := by
    intro m
    induction m with
    | zero =>
      intro i k hi hk
      obtain ⟨k, rfl⟩ : ∃ m, k = m + 1 := ⟨k - 1, by omega⟩
      obtain rfl : i = n := by omega
      exact he k
    | succ m ih =>
      intro i k hi hk
      obtain ⟨k, rfl⟩ : ∃ m, k = m + 1 := ⟨k - 1, by omega⟩
      rw [hs k i (by omega) (by omega)]
      exact ih (i + 1) k (by omega) (by omega)
  simpa using key n 0 k (by omega) hk

theorem rdi (xs : List Int) (i : Nat) (h : i < xs.length) : rd xs (i : Int) = xs[i] := by
  unfold rd; simp [List.getD, h]

theorem bt_byte (s : ByteArray) (i : Int) : 0 ≤ bt s i ∧ bt s i ≤ 255 := by
  unfold bt
  split
  · have := (s[i.toNat]'(by assumption)).toNat_lt; omega
  · omega

/-- a letter or a digit of a name -/
def nmC (c : Int) : Bool := decide (97 ≤ c ∧ c ≤ 122 ∨ 48 ≤ c ∧ c ≤ 57)

theorem nil_iff (s : ByteArray) : s.toList = [] ↔ s.size = 0 := by
  rw [ByteArray.toList_eq]
  constructor
  · intro h
    have : s.data.toList.length = 0 := by rw [h]; rfl
    rw [Array.length_toList] at this; exact this
  · intro h
    apply List.eq_nil_of_length_eq_zero
    rw [Array.length_toList]; exact h

theorem small_eq (c : Int) : spec_l01Small.f c = some (decide (97 ≤ c ∧ c ≤ 122)) := by
  unfold spec_l01Small.f
  by_cases h : c ≥ 97
  · rw [if_pos h]; simp [h]
  · rw [if_neg h]; simp; omega
theorem digit_eq (c : Int) : spec_l01Digit.f c = some (decide (48 ≤ c ∧ c ≤ 57)) := by
  unfold spec_l01Digit.f
  by_cases h : c ≥ 48
  · rw [if_pos h]; simp [h]
  · rw [if_neg h]; simp; omega

theorem name_loop (s : ByteArray) (hs : s.size ≤ 10) : ∀ (n i k : Nat), i + n = s.size → n < k →
    ∃ b, spec_l01Name.l0 k s (i : Int) = some b ∧ impl_IsName.l0 k s (i : Int) = some b := by
  intro n
  induction n with
  | zero =>
    intro i k hi hk
    obtain ⟨k, rfl⟩ : ∃ m, k = m + 1 := ⟨k - 1, by omega⟩
    simp only [spec_l01Name.l0, impl_IsName.l0]
    exact ⟨true, by rw [if_neg (by omega)], by rw [if_neg (by omega)]⟩
  | succ n ih =>
    intro i k hi hk
    obtain ⟨k, rfl⟩ : ∃ m, k = m + 1 := ⟨k - 1, by omega⟩
    obtain ⟨b, e1, e2⟩ := ih (i + 1) k (by omega) (by omega)
    have hw : wrap64 ((i : Int) + 1) = ((i + 1 : Nat) : Int) := wnat (by omega)
    have a1 : (i : Int) < (s.size : Int) := by omega
    have a2 : (0 : Int) ≤ (i : Int) := by omega
    simp only [spec_l01Name.l0, impl_IsName.l0, small_eq, digit_eq, Option.bind_some, decide_eq_true_eq, a1, a2, if_true, hw, e1, e2]
    generalize bt s (i : Int) = c
    by_cases h1 : c < 97
    · by_cases h2 : c < 48
      · exact ⟨false, by simp [h1, h2, show ¬ (97 ≤ c ∧ c ≤ 122) by omega, show ¬ (48 ≤ c ∧ c ≤ 57) by omega], by simp [h1, h2]⟩
      · by_cases h3 : c > 57
        · exact ⟨false, by simp [show ¬ (97 ≤ c ∧ c ≤ 122) by omega, show ¬ (48 ≤ c ∧ c ≤ 57) by omega], by simp [h1, h2, h3]⟩
        · exact ⟨b, by simp [show ¬ (97 ≤ c ∧ c ≤ 122) by omega, show (48 ≤ c ∧ c ≤ 57) by omega], by simp [h1, h2, h3]⟩
    · by_cases h4 : c > 122
      · exact ⟨false, by simp [show ¬ (97 ≤ c ∧ c ≤ 122) by omega, show ¬ (48 ≤ c ∧ c ≤ 57) by omega], by simp [h1, h4, show ¬ (c < 48) by omega, show c > 57 by omega]⟩
      · exact ⟨b, by simp [show (97 ≤ c ∧ c ≤ 122) by omega], by simp [h1, h4]⟩

theorem name_eq (s : ByteArray) : ∃ b : Bool, (∀ k, 13 ≤ k → spec_l01Name.f k s = some b ∧ impl_IsName.f k s = some b) := by
  have fin : ∃ b : Bool, spec_l01Name.f 13 s = some b ∧ impl_IsName.f 13 s = some b := by
    unfold spec_l01Name.f impl_IsName.f
    by_cases h0 : s.size = 0
    · exact ⟨false, by simp [(nil_iff s).2 h0, spec_l01Name.j0], by simp [show (s.size : Int) < 1 by omega, impl_IsName.j0]⟩
    · have n0 : ¬ s.toList = [] := fun h => h0 ((nil_iff s).1 h)
      have n1 : ¬ (s.size : Int) < 1 := by omega
      by_cases h1 : (s.size : Int) > 10
      · exact ⟨false, by simp [n0, h1, spec_l01Name.j0], by simp [n1, h1, impl_IsName.j0]⟩
      · have n2 : (0 : Int) < (s.size : Int) := by omega
        simp only [n0, n1, h1, n2, if_true, if_false, small_eq, Option.bind_some]
        obtain ⟨b, e1, e2⟩ := name_loop s (by omega) s.size 0 12 (by omega) (by omega)
        have e1' : spec_l01Name.l0 12 s 0 = some b := e1
        have e2' : impl_IsName.l0 12 s 0 = some b := e2
        generalize bt s 0 = c
        by_cases h2 : c < 97
        · exact ⟨false, by simp [spec_l01Name.j0, show ¬ (97 ≤ c ∧ c ≤ 122) by omega], by simp [impl_IsName.j0, h2]⟩
        · by_cases h3 : c > 122
          · exact ⟨false, by simp [spec_l01Name.j0, show ¬ (97 ≤ c ∧ c ≤ 122) by omega], by simp [impl_IsName.j0, h2, h3]⟩
          · exact ⟨b, by simp [spec_l01Name.j0, show (97 ≤ c ∧ c ≤ 122) by omega, e1'], by simp [impl_IsName.j0, h2, show ¬ (c > 122) by omega, e2']⟩
  obtain ⟨b, e1, e2⟩ := fin
  exact ⟨b, fun k hk => ⟨at_rounds (g := fun k => spec_l01Name.f k s) (fun k => spec_l01Name.mono s k) hk e1, at_rounds (g := fun k => impl_IsName.f k s) (fun k => impl_IsName.mono s k) hk e2⟩⟩

/-- of a coat both say the same; and what a coat is that is valid -/
theorem coat_eq (s : ByteArray) (x y z : Int) : ∃ b : Bool, (∀ k, 13 ≤ k → spec_l22One.f k [(⟨s, x, y, z⟩ : S26)] = some b ∧ impl_ValidCoat.f k s x y z = some b) ∧ (b = true → 1 ≤ x ∧ x ≤ 32 ∧ 0 ≤ y ∧ y ≤ 400 ∧ y ≤ z ∧ z ≤ 800) := by
  obtain ⟨b, hb⟩ := name_eq s
  have r : rd_T26 [(⟨s, x, y, z⟩ : S26)] 0 = ⟨s, x, y, z⟩ := rfl
  refine ⟨b && decide (1 ≤ x ∧ x ≤ 32) && decide (0 ≤ y ∧ y ≤ 400) && decide (y ≤ z ∧ z ≤ 800), fun k hk => ?_, ?_⟩
  · obtain ⟨e1, e2⟩ := hb k hk
    unfold spec_l22One.f impl_ValidCoat.f
    rw [if_pos (by simp), r]
    simp only [e1, e2, within_eq, l00In_eq, Option.bind_some]
    by_cases g1 : 1 ≤ x ∧ x ≤ 32 <;> by_cases g2 : 0 ≤ y ∧ y ≤ 400 <;> by_cases g3 : y ≤ z ∧ z ≤ 800 <;> cases b <;> simp [g1, g2, g3]
  · simp only [Bool.and_eq_true, decide_eq_true_eq]
    intro h; omega

/-- digits, the last first -/
def digs (u : Nat) : List Int := if h : u = 0 then [] else (48 + (u % 10 : Nat) : Int) :: digs (u / 10)
termination_by u
decreasing_by omega

def toB (xs : List Int) : List UInt8 := xs.map fun x => UInt8.ofNat x.toNat

theorem strOf_eq (xs : List Int) : strOfNums xs = ⟨(toB xs).toArray⟩ := by
  unfold strOfNums toB
  simp

theorem digs_dec : ∀ (u : Nat), 0 < u → toB (digs u).reverse = Lib.decDigits u := by
  intro u
  induction u using Nat.strongRecOn with
  | ind u ih =>
    intro hu
    rw [digs, dif_neg (by omega), List.reverse_cons]
    by_cases h : u < 10
    · rw [Lib.decDigits_one h, show u / 10 = 0 by omega, digs, dif_pos rfl, show u % 10 = u by omega]
      simp only [toB, List.reverse_nil, List.nil_append, List.map_cons, List.map_nil]
      rw [show ((48 : Int) + (u : Nat)).toNat = 48 + u by omega]
    · have := ih (u / 10) (by omega) (by omega)
      unfold toB at this ⊢
      rw [List.map_append, this, show Lib.decDigits u = Lib.decDigits (u / 10) ++ [UInt8.ofNat (48 + u % 10)] by rw [Lib.decDigits, dif_neg h]]
      simp only [List.map_cons, List.map_nil]
      rw [show ((48 : Int) + ((u % 10 : Nat) : Int)).toNat = 48 + u % 10 by omega]

theorem dec_l1 (xs : List Int) (hx : xs.length ≤ 100) : ∀ (i : Nat) (k : Nat) (out : List Int), i ≤ xs.length → out.length + i ≤ 200 → i < k → spec_l01Dec.l1 k xs out ((i : Int) - 1) = some (strOfNums (out ++ (xs.take i).reverse)) := by
  intro i
  induction i with
  | zero =>
    intro k out _ _ hk
    obtain ⟨k, rfl⟩ : ∃ m, k = m + 1 := ⟨k - 1, by omega⟩
    simp only [spec_l01Dec.l1]
    rw [if_neg (by omega)]; simp
  | succ i ih =>
    intro k out hi ho hk
    obtain ⟨k, rfl⟩ : ∃ m, k = m + 1 := ⟨k - 1, by omega⟩
    have hlt : i < xs.length := by omega
    simp only [spec_l01Dec.l1]
    rw [show ((i + 1 : Nat) : Int) - 1 = (i : Int) by omega, if_pos (by omega), if_pos (by omega), if_pos (by omega), if_pos (by omega), rdi xs i hlt, w64 (by omega) (by omega),
      ih k _ (by omega) (by simp; omega) (by omega), List.take_succ_eq_append_getElem hlt, List.reverse_append]
    simp

theorem dec_j1 (xs : List Int) (hx : xs.length ≤ 100) (k : Nat) (hk : 200 < k) : spec_l01Dec.j1 k xs = some (strOfNums xs.reverse) := by
  obtain ⟨k, rfl⟩ : ∃ m, k = m + 1 := ⟨k - 1, by omega⟩
  simp only [spec_l01Dec.j1]
  rw [w64 (by omega) (by omega), dec_l1 xs hx xs.length k [] (Nat.le_refl _) (by simp; omega) (by omega)]
  simp

theorem dec_l0 (n : Int) : ∀ (d u : Nat) (k : Nat) (out : List Int) (m : Int), (m = u ∨ m = -(u : Int)) → u < 10 ^ d → u ≤ 9223372036854775808 → (m = u → u ≤ 9223372036854775807) → out.length + d ≤ 90 → 300 + d < k →
    spec_l01Dec.l0 k n out m = some (strOfNums (out ++ digs u ++ if n < 0 then [45] else []).reverse) := by
  intro d
  induction d with
  | zero =>
    intro u k out m hm hu _ _ ho hk
    obtain ⟨k, rfl⟩ : ∃ m, k = m + 1 := ⟨k - 1, by omega⟩
    obtain rfl : u = 0 := by simpa using hu
    simp only [spec_l01Dec.l0]
    rw [if_pos (by omega), digs, dif_pos rfl]
    by_cases hn : n < 0
    · rw [if_pos hn, if_pos hn, if_pos (by omega), dec_j1 _ (by simp; omega) k (by omega)]; simp
    · rw [if_neg hn, if_neg hn, dec_j1 _ (by omega) k (by omega)]; simp
  | succ d ih =>
    intro u k out m hm hu hb hp ho hk
    obtain ⟨k, rfl⟩ : ∃ m, k = m + 1 := ⟨k - 1, by omega⟩
    by_cases h0 : u = 0
    · subst h0
      simp only [spec_l01Dec.l0]
      rw [if_pos (by omega), digs, dif_pos rfl]
      by_cases hn : n < 0
      · rw [if_pos hn, if_pos hn, if_pos (by omega), dec_j1 _ (by simp; omega) k (by omega)]; simp
      · rw [if_neg hn, if_neg hn, dec_j1 _ (by omega) k (by omega)]; simp
    · have hq : u / 10 < 10 ^ d := by rw [Nat.pow_succ] at hu; omega
      have e1 : digs u = (48 + ((u % 10 : Nat) : Int)) :: digs (u / 10) := by rw [digs, dif_neg h0]
      have ht : Int.tdiv m 10 = (u / 10 : Nat) ∨ Int.tdiv m 10 = -((u / 10 : Nat) : Int) := by
        rcases hm with rfl | rfl
        · left; rw [Int.tdiv_eq_ediv_of_nonneg (by omega)]; omega
        · right; rw [Int.neg_tdiv, Int.tdiv_eq_ediv_of_nonneg (by omega)]; omega
      have hmod : Int.tmod m 10 = ((u % 10 : Nat) : Int) ∨ Int.tmod m 10 = -((u % 10 : Nat) : Int) := by
        rcases hm with rfl | rfl
        · left; rw [Int.tmod_eq_emod_of_nonneg (by omega)]; omega
        · right; rw [Int.neg_tmod, Int.tmod_eq_emod_of_nonneg (by omega)]; omega
      have hw : wrap64 (Int.tdiv m 10) = Int.tdiv m 10 := w64 (by omega) (by omega)
      have hn := ih (u / 10) k (out ++ [48 + ((u % 10 : Nat) : Int)]) (Int.tdiv m 10) ht hq (by omega) (by omega) (by simp; omega) (by omega)
      simp only [spec_l01Dec.l0]
      rw [if_neg (by omega)]
      by_cases hs : Int.tmod m 10 < 0
      · rw [if_pos hs, if_pos (by omega)]
        have e2 : (wrap64 (48 + wrap64 (-Int.tmod m 10))) % 256 = 48 + ((u % 10 : Nat) : Int) := by
          rw [w64 (x := -Int.tmod m 10) (by omega) (by omega), w64 (by omega) (by omega)]; omega
        rw [e2, hw, hn, e1]; simp
      · rw [if_neg hs, if_pos (by omega)]
        have e2 : (wrap64 (48 + Int.tmod m 10)) % 256 = 48 + ((u % 10 : Nat) : Int) := by
          rw [w64 (by omega) (by omega)]; omega
        rw [e2, hw, hn, e1]; simp

/-- the reference's decimal form is the library's -/
theorem dec_eq (n : Int) (h0 : -9223372036854775808 ≤ n) (h1 : n ≤ 9223372036854775807) (k : Nat) (hk : 400 < k) : spec_l01Dec.f k n = some ⟨(Lib.itoa n).toArray⟩ := by
  unfold spec_l01Dec.f
  by_cases hz : n = 0
  · subst hz
    rw [if_pos rfl]
    have : Lib.itoa 0 = [48] := by unfold Lib.itoa; rw [if_neg (by omega)]; exact Lib.decDigits_one (by omega)
    rw [this]
  · rw [if_neg hz, dec_l0 n 20 n.natAbs k [] n (by omega) (by omega) (by omega) (by omega) (by simp) (by omega), strOf_eq]
    congr 2
    have hd := digs_dec n.natAbs (by omega)
    unfold Lib.itoa
    by_cases hn : n < 0
    · rw [if_pos hn, if_pos hn, ← hd]; simp [toB]
    · rw [if_neg hn, if_neg hn, show n.toNat = n.natAbs by omega, ← hd]; simp

theorem itoa_len (n : Int) (h0 : -9223372036854775808 ≤ n) (h1 : n ≤ 9223372036854775807) : (Lib.itoa n).length ≤ 21 := Lib.itoa_length_le n h0 h1

theorem fmt_eq (n : Int) (h0 : -9223372036854775808 ≤ n) (h1 : n ≤ 9223372036854775807) : impl_Decimal.f n [()] = some ⟨(Lib.itoa n).toArray⟩ := by
  unfold impl_Decimal.f Go.Proofs.YtjmjbmahljlnlaaDoorX.strconv_FormatInt.f
  rw [if_pos ⟨rfl, rfl, h0, h1⟩]; rfl

theorem bcat (a b : List UInt8) : (⟨a.toArray⟩ : ByteArray) ++ (⟨b.toArray⟩ : ByteArray) = ⟨(a ++ b).toArray⟩ := by
  apply ByteArray.ext
  simp
theorem bsize (a : List UInt8) : (⟨a.toArray⟩ : ByteArray).size = a.length := by simp [ByteArray.size]
theorem beta_ (s : ByteArray) : s = ⟨s.data.toList.toArray⟩ := by
  apply ByteArray.ext; simp

/-- the text of a list of numbers -/
def ltext (xs : List Int) : List UInt8 := if xs.length = 0 then [45] else Lib.join (xs.map Lib.itoa) [44]
def i64 (n : Int) : Prop := -9223372036854775808 ≤ n ∧ n ≤ 9223372036854775807

theorem joinTail_len (xs : List Int) (hx : ∀ n ∈ xs, i64 n) : (Lib.joinTail [44] (xs.map Lib.itoa)).length ≤ 22 * xs.length := by
  induction xs with
  | nil => simp [Lib.joinTail]
  | cons n xs ih =>
    have h := hx n List.mem_cons_self
    have hl := itoa_len n h.1 h.2
    have hi := ih (fun m hm => hx m (List.mem_cons_of_mem _ hm))
    unfold Lib.joinTail at hi ⊢
    simp only [List.map_cons, List.flatten_cons, List.length_append, List.length_cons, List.length_nil] at hi ⊢
    omega

theorem joinTail_snoc (sep : List UInt8) (r : List (List UInt8)) (x : List UInt8) : Lib.joinTail sep (r ++ [x]) = Lib.joinTail sep r ++ (sep ++ x) := by
  unfold Lib.joinTail; simp

theorem ltext_len (xs : List Int) (hx : ∀ n ∈ xs, i64 n) : (ltext xs).length ≤ 22 * xs.length + 1 := by
  unfold ltext
  cases xs with
  | nil => simp
  | cons n xs =>
    rw [if_neg (by simp), List.map_cons, Lib.join_cons, List.length_append]
    have := joinTail_len xs (fun m hm => hx m (List.mem_cons_of_mem _ hm))
    have h := hx n List.mem_cons_self
    have hl := itoa_len n h.1 h.2
    simp only [List.length_cons]; omega

theorem specList_eq (xs : List Int) (hl : xs.length ≤ 200) (hx : ∀ n ∈ xs, i64 n) (k : Nat) (hk : 700 < k) : spec_l01List.f k xs = some ⟨(ltext xs).toArray⟩ := by
  unfold spec_l01List.f
  cases xs with
  | nil => rfl
  | cons n ys =>
    have hn := hx n List.mem_cons_self
    rw [if_neg (by simp only [List.length_cons]; omega), show ltext (n :: ys) = Lib.itoa n ++ Lib.joinTail [44] (ys.map Lib.itoa) by unfold ltext; rw [if_neg (by simp), List.map_cons, Lib.join_cons]]
    have key : ∀ (d i k : Nat), i + d = ys.length → 450 + d < k → spec_l01List.l0 k (n :: ys) ⟨(Lib.itoa n ++ Lib.joinTail [44] ((ys.take i).map Lib.itoa)).toArray⟩ ((i + 1 : Nat) : Int) = some ⟨(Lib.itoa n ++ Lib.joinTail [44] (ys.map Lib.itoa)).toArray⟩ := by
      intro d
      induction d with
      | zero =>
        intro i k hi hk
        obtain ⟨k, rfl⟩ : ∃ m, k = m + 1 := ⟨k - 1, by omega⟩
        simp only [spec_l01List.l0]
        rw [if_neg (by simp only [List.length_cons]; omega), List.take_of_length_le (by omega)]
      | succ d ih =>
        intro i k hi hk
        obtain ⟨k, rfl⟩ : ∃ m, k = m + 1 := ⟨k - 1, by omega⟩
        have hlt : i < ys.length := by omega
        have hm := hx _ (List.mem_cons_of_mem _ (List.getElem_mem hlt))
        have hml := itoa_len ys[i] hm.1 hm.2
        have hnl := itoa_len n hn.1 hn.2
        have hj := joinTail_len (ys.take i) (fun m h => hx m (List.mem_cons_of_mem _ (List.mem_of_mem_take h)))
        have ht : (ys.take i).length ≤ 200 := by simp only [List.length_cons] at hl; simp; omega
        have hr : rd (n :: ys) ((i + 1 : Nat) : Int) = ys[i] := by rw [rdi (n :: ys) (i + 1) (by simp; omega)]; rfl
        simp only [spec_l01List.l0]
        rw [if_pos (by simp only [List.length_cons]; omega), if_pos (by omega), if_pos (by rw [bsize, List.length_append]; omega), if_pos (by omega), hr, dec_eq _ hm.1 hm.2 k (by omega)]
        simp only [Option.bind_some]
        rw [if_pos (by rw [bsize, bsize, List.length_append]; omega), wnat (by simp only [List.length_cons] at hl; omega)]
        have := ih (i + 1) k (by omega) (by omega)
        rw [List.take_succ_eq_append_getElem hlt, List.map_append, List.map_cons, List.map_nil, joinTail_snoc] at this
        rw [show (⟨#[44]⟩ : ByteArray) = ⟨[44].toArray⟩ from rfl, bcat, bcat]
        rw [show Lib.itoa n ++ Lib.joinTail [44] (List.map Lib.itoa (List.take i ys)) ++ [44] ++ Lib.itoa ys[i] = Lib.itoa n ++ (Lib.joinTail [44] (List.map Lib.itoa (List.take i ys)) ++ ([44] ++ Lib.itoa ys[i])) by simp only [List.append_assoc]]
        exact this
    obtain ⟨k, rfl⟩ : ∃ m, k = m + 1 := ⟨k - 1, by omega⟩
    have hnl := itoa_len n hn.1 hn.2
    simp only [spec_l01List.l0]
    rw [if_pos (by simp only [List.length_cons]; omega), if_neg (by omega), if_pos (by omega), show rd (n :: ys) 0 = n from rfl, dec_eq n hn.1 hn.2 k (by omega)]
    simp only [Option.bind_some]
    rw [if_pos (by rw [bsize, bsize, List.length_nil]; omega)]
    have := key ys.length 0 k (by omega) (by simp only [List.length_cons] at hl; omega)
    rw [List.take_zero, List.map_nil, show Lib.joinTail [44] [] = [] from rfl, List.append_nil] at this
    rw [show (⟨#[]⟩ : ByteArray) = ⟨([] : List UInt8).toArray⟩ from rfl, bcat, List.nil_append, show wrap64 (0 + 1) = ((0 + 1 : Nat) : Int) by unfold wrap64; omega]
    exact this

/-- within the bounds of a list's numbers -/
def fits (xs : List Int) : Bool := decide (xs.length ≤ 64) && xs.all fun n => decide (-1000000000000 ≤ n ∧ n ≤ 1000000000000)

theorem fits_i64 {xs : List Int} (h : fits xs = true) : xs.length ≤ 64 ∧ ∀ n ∈ xs, -1000000000000 ≤ n ∧ n ≤ 1000000000000 := by
  unfold fits at h
  rw [Bool.and_eq_true, decide_eq_true_eq, List.all_eq_true] at h
  exact ⟨h.1, fun n hn => by simpa using h.2 n hn⟩

theorem implList_l1 (xs : List Int) (hl : xs.length ≤ 64) (hx : ∀ n ∈ xs, i64 n) (hp : 1 ≤ xs.length) : ∀ (d i k : Nat), i + d = xs.length → 10 + d < k → impl_ListText.l1 k ((xs.take i).map fun n => ⟨(Lib.itoa n).toArray⟩) xs (xs.length : Int) (i : Int) [()] = some ⟨(Lib.join (xs.map Lib.itoa) [44]).toArray⟩ := by
  intro d
  induction d with
  | zero =>
    intro i k hi hk
    obtain ⟨k, rfl⟩ : ∃ m, k = m + 1 := ⟨k - 1, by omega⟩
    simp only [impl_ListText.l1]
    rw [if_neg (by omega), List.take_of_length_le (by omega)]
    unfold Go.Proofs.YtjmjbmahljlnlaaDoorX.strings_Join.f
    have e : (xs.map fun n => (⟨(Lib.itoa n).toArray⟩ : ByteArray)).map (·.data.toList) = xs.map Lib.itoa := by rw [List.map_map]; rfl
    rw [e, show (⟨#[44]⟩ : ByteArray).data.toList = [44] from rfl]
    have hj : (Lib.join (xs.map Lib.itoa) [44]).length ≤ 22 * xs.length + 1 := by
      have := ltext_len xs hx
      unfold ltext at this
      rwa [if_neg (by omega)] at this
    rw [if_pos ⟨by simpa using hp, by simp; omega, by omega⟩]; rfl
  | succ d ih =>
    intro i k hi hk
    obtain ⟨k, rfl⟩ : ∃ m, k = m + 1 := ⟨k - 1, by omega⟩
    have hlt : i < xs.length := by omega
    have hm := hx _ (List.getElem_mem hlt)
    simp only [impl_ListText.l1]
    rw [if_pos (by omega), if_pos (by omega), if_pos (by omega), rdi xs i hlt, fmt_eq _ hm.1 hm.2]
    simp only [Option.bind_some]
    rw [if_pos (by simp; omega), wnat (by omega)]
    have := ih (i + 1) k (by omega) (by omega)
    rw [List.take_succ_eq_append_getElem hlt, List.map_append, List.map_cons, List.map_nil] at this
    exact this

theorem implList_eq (xs : List Int) (k : Nat) (hk : 300 < k) : impl_ListText.f k xs [()] = some (if fits xs = true then ⟨(ltext xs).toArray⟩ else ⟨#[]⟩) := by
  unfold impl_ListText.f
  by_cases hl : xs.length ≤ 64
  · rw [if_neg (by omega)]
    have key : ∀ (d i k : Nat), i + d = xs.length → 100 + d < k → (∀ (j : Nat) (h : j < xs.length), j < i → -1000000000000 ≤ xs[j] ∧ xs[j] ≤ 1000000000000) → impl_ListText.l0 k xs xs (xs.length : Int) (i : Int) [()] = some (if fits xs = true then ⟨(ltext xs).toArray⟩ else ⟨#[]⟩) := by
      intro d
      induction d with
      | zero =>
        intro i k hi hk ha
        obtain ⟨k, rfl⟩ : ∃ m, k = m + 1 := ⟨k - 1, by omega⟩
        have hall : ∀ n ∈ xs, -1000000000000 ≤ n ∧ n ≤ 1000000000000 := by
          intro n hn
          obtain ⟨j, hj, rfl⟩ := List.mem_iff_getElem.1 hn
          exact ha j hj (by omega)
        have hf : fits xs = true := by
          unfold fits
          rw [Bool.and_eq_true, decide_eq_true_eq, List.all_eq_true]
          exact ⟨hl, fun n hn => by simpa using hall n hn⟩
        simp only [impl_ListText.l0]
        rw [if_neg (by omega), if_pos hf]
        by_cases h0 : xs.length = 0
        · rw [if_pos (by omega)]
          unfold ltext; rw [if_pos h0]
        · rw [if_neg (by omega)]
          have := implList_l1 xs hl (fun n hn => by have := hall n hn; unfold i64; omega) (by omega) xs.length 0 k (by omega) (by omega)
          unfold ltext; rw [if_neg h0]
          simpa using this
      | succ d ih =>
        intro i k hi hk ha
        obtain ⟨k, rfl⟩ : ∃ m, k = m + 1 := ⟨k - 1, by omega⟩
        have hlt : i < xs.length := by omega
        simp only [impl_ListText.l0]
        rw [if_pos (by omega), if_pos (by omega), if_pos (by omega), rdi xs i hlt, within_eq]
        simp only [Option.bind_some]
        by_cases hw : -1000000000000 ≤ xs[i] ∧ xs[i] ≤ 1000000000000
        · rw [if_pos (decide_eq_true hw), wnat (by omega)]
          refine ih (i + 1) k (by omega) (by omega) (fun j hj hji => ?_)
          by_cases e : j = i
          · subst e; exact hw
          · exact ha j hj (by omega)
        · rw [if_neg (by simpa using hw), if_neg (fun hf => hw ((fits_i64 hf).2 _ (List.getElem_mem hlt)))]
    simpa using key xs.length 0 k (by omega) (by omega) (fun j _ h => absurd h (by omega))
  · rw [if_pos (by omega), if_neg (fun hf => hl (fits_i64 hf).1)]

theorem FnExactCoatText : laws_FnExactCoatText.Pure := by
  intro s x y z ⟨hs, _⟩
  obtain ⟨k, hk⟩ : ∃ k : Nat, k = 1000 := ⟨_, rfl⟩
  refine ⟨k, ?_⟩
  unfold laws_FnExactCoatText.f
  have hsz : ∃ v, laws_szCoat.f s x y z 1048576 = some v ∧ (v < 0 ∨ s.size ≤ 1048576) := by
    unfold maxLen at hs
    simp only at hs
    unfold laws_szCoat.f
    rw [w64 (by omega) (by omega)]
    by_cases h : (1048576 : Int) - s.size < 0
    · exact ⟨-1, by rw [if_pos h], by omega⟩
    · exact ⟨_, by rw [if_neg h], by omega⟩
  obtain ⟨v, hv, hv2⟩ := hsz
  rw [hv]
  simp only [Option.bind_some]
  by_cases h : v < 0
  · rw [if_pos h]
  have hl : s.size ≤ 1048576 := by omega
  rw [if_neg h]
  unfold laws_toCoat.f spec_CoatText.f impl_CoatText.f
  simp only [Option.bind_some]
  obtain ⟨b, hb, hb2⟩ := coat_eq s x y z
  obtain ⟨e1, e2⟩ := hb k (by omega)
  rw [e1, e2]
  simp only [Option.bind_some]
  cases b with
  | false => simp
  | true =>
    have hr := hb2 rfl
    have hx : ∀ n ∈ [x, y, z], i64 n := by
      intro n hn
      simp only [List.mem_cons, List.not_mem_nil, or_false] at hn
      unfold i64
      rcases hn with rfl | rfl | rfl <;> omega
    have hf : fits [x, y, z] = true := by
      unfold fits
      simp; omega
    have hlen := ltext_len [x, y, z] hx
    simp only [List.length_cons, List.length_nil] at hlen
    have hbs : (⟨(ltext [x, y, z]).toArray⟩ : ByteArray).size ≤ 100 := by rw [bsize]; omega
    unfold spec_l22Text.f
    rw [if_pos rfl, show rd_T26 [(⟨s, x, y, z⟩ : S26)] 0 = ⟨s, x, y, z⟩ from rfl, if_pos (by simp), if_pos (by simp only; omega), specList_eq _ (by simp) hx k (by omega)]
    simp only [Option.bind_some, if_true]
    rw [if_pos (by omega), if_pos (by omega), implList_eq _ k (by omega), if_pos hf]
    simp only [Option.bind_some]
    rw [if_pos (by omega)]
    simp

end Go.Proofs.YtjmjbmahljlnlaaDoor.Pure

/- FnExactReadBlade: the program's ReadBlade returns what the reference's returns, for all arguments; no condition but that the listed tables read as the card ties them. -/
import Derived.Test.YtjmjbmahljlnlaaDoorGFnExactReadBladex
import Derived.Lib.ItoaLen
import Derived.Lib.Join
import Derived.Lib.SplitLaws
import Derived.Lib.IndexBytes
namespace Go.Proofs.YtjmjbmahljlnlaaDoor.Pure
open Go.RowKit Go.Proofs.YtjmjbmahljlnlaaDoor.GFnExactReadBlade Go.Proofs.YtjmjbmahljlnlaaDoorW.PrintWords Go.Proofs.YtjmjbmahljlnlaaDoorW.PrintLast
set_option linter.unusedSimpArgs false
set_option linter.unusedVariables false

theorem w64 {x : Int} (h0 : -9223372036854775808 ≤ x) (h1 : x ≤ 9223372036854775807) : wrap64 x = x := by
  unfold wrap64; omega

theorem within_eq (a b c : Int) : impl_within.f a b c = some (decide (b ≤ a ∧ a ≤ c)) := by
  unfold impl_within.f
  by_cases h : a ≥ b
  · rw [if_pos h]; simp [h]
  · rw [if_neg h]; simp; omega

theorem l00In_eq (a b c : Int) : spec_l00In.f a b c = some (decide (b ≤ a ∧ a ≤ c)) := by
  unfold spec_l00In.f
  by_cases h : a ≥ b
  · rw [if_pos h]; simp [h]
  · rw [if_neg h]; simp; omega

/-- a loop over a list: from one state to the next, or out of it -/
def run {α σ β : Type} (st : σ → α → Nat → σ ⊕ β) (en : σ → β) : List α → σ → Nat → β
  | [], s, _ => en s
  | x :: xs, s, i => match st s x i with
    | .inl s' => run st en xs s' (i + 1)
    | .inr r => r

theorem loop_run {α σ β : Type} (xs : List α) (K0 : Nat) (Inv : σ → Nat → Prop) (L : Nat → σ → Int → Option β) (st : σ → α → Nat → σ ⊕ β) (en : σ → β)
    (hs : ∀ (k : Nat) (s : σ) (i : Nat) (h : i < xs.length), K0 ≤ k → Inv s i →
      (∃ s', st s xs[i] i = .inl s' ∧ Inv s' (i + 1) ∧ L (k + 1) s (i : Int) = L k s' ((i + 1 : Nat) : Int)) ∨ (∃ r, st s xs[i] i = .inr r ∧ L (k + 1) s (i : Int) = some r))
    (he : ∀ (k : Nat) (s : σ), K0 ≤ k → Inv s xs.length → L (k + 1) s (xs.length : Int) = some (en s)) :
    ∀ (n i k : Nat) (s : σ), i + n = xs.length → K0 + n < k → Inv s i → L k s (i : Int) = some (run st en (xs.drop i) s i) := by
  intro n
  induction n with
  | zero =>
    intro i k s hi hk hI
    obtain ⟨k, rfl⟩ : ∃ m, k = m + 1 := ⟨k - 1, by omega⟩
    obtain rfl : i = xs.length := by omega
    rw [he k s (by omega) hI, List.drop_length]; rfl
  | succ n ih =>
    intro i k s hi hk hI
    obtain ⟨k, rfl⟩ : ∃ m, k = m + 1 := ⟨k - 1, by omega⟩
    have hlt : i < xs.length := by omega
    rw [List.drop_eq_getElem_cons hlt]
    rcases hs k s i hlt (by omega) hI with ⟨s', h1, h2, h3⟩ | ⟨r, h1, h3⟩
    · rw [h3, ih (i + 1) k s' (by omega) (by omega) h2]
      simp only [run, h1]
    · rw [h3]
      simp only [run, h1]

theorem loop_run0 {α σ β : Type} (xs : List α) (K0 : Nat) (Inv : σ → Nat → Prop) (L : Nat → σ → Int → Option β) (st : σ → α → Nat → σ ⊕ β) (en : σ → β)
    (hs : ∀ (k : Nat) (s : σ) (i : Nat) (h : i < xs.length), K0 ≤ k → Inv s i →
      (∃ s', st s xs[i] i = .inl s' ∧ Inv s' (i + 1) ∧ L (k + 1) s (i : Int) = L k s' ((i + 1 : Nat) : Int)) ∨ (∃ r, st s xs[i] i = .inr r ∧ L (k + 1) s (i : Int) = some r))
    (he : ∀ (k : Nat) (s : σ), K0 ≤ k → Inv s xs.length → L (k + 1) s (xs.length : Int) = some (en s)) (k : Nat) (s : σ) (hk : K0 + xs.length < k) (hI : Inv s 0) :
    L k s 0 = some (run st en xs s 0) := by
  have := loop_run xs K0 Inv L st en hs he xs.length 0 k s (by omega) hk hI
  simpa using this

/-- a row that is made and then filled, element by element -/
theorem loop_map {α β : Type} (xs : List α) (z : β) (c : α → β) (L : Nat → List β → Int → Option (List β))
    (hs : ∀ (k : Nat) (s : List β) (i : Nat) (h : i < xs.length), s.length = xs.length → L (k + 1) s (i : Int) = L k (s.set i (c xs[i])) ((i + 1 : Nat) : Int))
    (he : ∀ (k : Nat) (s : List β), L (k + 1) s (xs.length : Int) = some s) (k : Nat) (hk : xs.length < k) :
    L k (List.replicate xs.length z) 0 = some (xs.map c) := by
  have key : ∀ (n i k : Nat) (s : List β), i + n = xs.length → n < k → s.length = xs.length → s.take i = (xs.map c).take i → L k s (i : Int) = some (xs.map c) := by
    intro n
    induction n with
    | zero =>
      intro i k s hi hk hl ht
      obtain ⟨k, rfl⟩ : ∃ m, k = m + 1 := ⟨k - 1, by omega⟩
      obtain rfl : i = xs.length := by omega
      have h1 : s.take xs.length = s := List.take_of_length_le (by omega)
      rw [he, ← h1, ht, List.take_of_length_le (by simp)]
    | succ n ih =>
      intro i k s hi hk hl ht
      obtain ⟨k, rfl⟩ : ∃ m, k = m + 1 := ⟨k - 1, by omega⟩
      have hlt : i < xs.length := by omega
      rw [hs k s i hlt hl]
      refine ih (i + 1) k _ (by omega) (by omega) (by rw [List.length_set]; exact hl) ?_
      rw [List.take_succ_eq_append_getElem (by rw [List.length_set]; omega), List.take_succ_eq_append_getElem (by rw [List.length_map]; omega), List.take_set_of_le (by omega), ht]
      simp
  have := key xs.length 0 k (List.replicate xs.length z) (by omega) hk (by simp) (by simp)
  simpa using this

theorem wnat {n : Nat} (h : n < 9223372036854775807) : wrap64 ((n : Int) + 1) = ((n + 1 : Nat) : Int) := by
  unfold wrap64; omega

theorem loop_all {β : Type} (n K0 : Nat) (L : Nat → Int → Option β) (r : β) (hs : ∀ (k i : Nat), K0 ≤ k → i < n → L (k + 1) (i : Int) = L k ((i + 1 : Nat) : Int)) (he : ∀ k : Nat, L (k + 1) (n : Int) = some r)
    (k : Nat) (hk : K0 + n < k) : L k 0 = some r := by
  have key : ∀ (m i k : Nat), i + m = n → K0 + m < k → L k (i : Int) = some r := by
    intro m
    induction m with
    | zero =>
      intro i k hi hk
      obtain ⟨k, rfl⟩ : ∃ m, k = m + 1 := ⟨k - 1, by omega⟩
      obtain rfl : i = n := by omega
      exact he k
    | succ m ih =>
      intro i k hi hk
      obtain ⟨k, rfl⟩ : ∃ m, k = m + 1 := ⟨k - 1, by omega⟩
      rw [hs k i (by omega) (by omega)]
      exact ih (i + 1) k (by omega) (by omega)
  simpa using key n 0 k (by omega) hk

theorem rdi (xs : List Int) (i : Nat) (h : i < xs.length) : rd xs (i : Int) = xs[i] := by
  unfold rd; simp [List.getD, h]

theorem bt_byte (s : ByteArray) (i : Int) : 0 ≤ bt s i ∧ bt s i ≤ 255 := by
  unfold bt
  split
  · have := (s[i.toNat]'(by assumption)).toNat_lt; omega
  · omega

/-- a letter or a digit of a name -/
def nmC (c : Int) : Bool := decide (97 ≤ c ∧ c ≤ 122 ∨ 48 ≤ c ∧ c ≤ 57)

theorem nil_iff (s : ByteArray) : s.toList = [] ↔ s.size = 0 := by
  rw [ByteArray.toList_eq]
  constructor
  · intro h
    have : s.data.toList.length = 0 := by rw [h]; rfl
    rw [Array.length_toList] at this; exact this
  · intro h
    apply List.eq_nil_of_length_eq_zero
    rw [Array.length_toList]; exact h

theorem small_eq (c : Int) : spec_l01Small.f c = some (decide (97 ≤ c ∧ c ≤ 122)) := by
  unfold spec_l01Small.f
  by_cases h : c ≥ 97
  · rw [if_pos h]; simp [h]
  · rw [if_neg h]; simp; omega
theorem digit_eq (c : Int) : spec_l01Digit.f c = some (decide (48 ≤ c ∧ c ≤ 57)) := by
  unfold spec_l01Digit.f
  by_cases h : c ≥ 48
  · rw [if_pos h]; simp [h]
  · rw [if_neg h]; simp; omega

theorem name_loop (s : ByteArray) (hs : s.size ≤ 10) : ∀ (n i k : Nat), i + n = s.size → n < k →
    ∃ b, spec_l01Name.l0 k s (i : Int) = some b ∧ impl_IsName.l0 k s (i : Int) = some b := by
  intro n
  induction n with
  | zero =>
    intro i k hi hk
    obtain ⟨k, rfl⟩ : ∃ m, k = m + 1 := ⟨k - 1, by omega⟩
    simp only [spec_l01Name.l0, impl_IsName.l0]
    exact ⟨true, by rw [if_neg (by omega)], by rw [if_neg (by omega)]⟩
  | succ n ih =>
    intro i k hi hk
    obtain ⟨k, rfl⟩ : ∃ m, k = m + 1 := ⟨k - 1, by omega⟩
    obtain ⟨b, e1, e2⟩ := ih (i + 1) k (by omega) (by omega)
    have hw : wrap64 ((i : Int) + 1) = ((i + 1 : Nat) : Int) := wnat (by omega)
    have a1 : (i : Int) < (s.size : Int) := by omega
    have a2 : (0 : Int) ≤ (i : Int) := by omega
    simp only [spec_l01Name.l0, impl_IsName.l0, small_eq, digit_eq, Option.bind_some, decide_eq_true_eq, a1, a2, if_true, hw, e1, e2]
    generalize bt s (i : Int) = c
    by_cases h1 : c < 97
    · by_cases h2 : c < 48
      · exact ⟨false, by simp [h1, h2, show ¬ (97 ≤ c ∧ c ≤ 122) by omega, show ¬ (48 ≤ c ∧ c ≤ 57) by omega], by simp [h1, h2]⟩
      · by_cases h3 : c > 57
        · exact ⟨false, by simp [show ¬ (97 ≤ c ∧ c ≤ 122) by omega, show ¬ (48 ≤ c ∧ c ≤ 57) by omega], by simp [h1, h2, h3]⟩
        · exact ⟨b, by simp [show ¬ (97 ≤ c ∧ c ≤ 122) by omega, show (48 ≤ c ∧ c ≤ 57) by omega], by simp [h1, h2, h3]⟩
    · by_cases h4 : c > 122
      · exact ⟨false, by simp [show ¬ (97 ≤ c ∧ c ≤ 122) by omega, show ¬ (48 ≤ c ∧ c ≤ 57) by omega], by simp [h1, h4, show ¬ (c < 48) by omega, show c > 57 by omega]⟩
      · exact ⟨b, by simp [show (97 ≤ c ∧ c ≤ 122) by omega], by simp [h1, h4]⟩

theorem name_eq (s : ByteArray) : ∃ b : Bool, (∀ k, 13 ≤ k → spec_l01Name.f k s = some b ∧ impl_IsName.f k s = some b) := by
  have fin : ∃ b : Bool, spec_l01Name.f 13 s = some b ∧ impl_IsName.f 13 s = some b := by
    unfold spec_l01Name.f impl_IsName.f
    by_cases h0 : s.size = 0
    · exact ⟨false, by simp [(nil_iff s).2 h0, spec_l01Name.j0], by simp [show (s.size : Int) < 1 by omega, impl_IsName.j0]⟩
    · have n0 : ¬ s.toList = [] := fun h => h0 ((nil_iff s).1 h)
      have n1 : ¬ (s.size : Int) < 1 := by omega
      by_cases h1 : (s.size : Int) > 10
      · exact ⟨false, by simp [n0, h1, spec_l01Name.j0], by simp [n1, h1, impl_IsName.j0]⟩
      · have n2 : (0 : Int) < (s.size : Int) := by omega
        simp only [n0, n1, h1, n2, if_true, if_false, small_eq, Option.bind_some]
        obtain ⟨b, e1, e2⟩ := name_loop s (by omega) s.size 0 12 (by omega) (by omega)
        have e1' : spec_l01Name.l0 12 s 0 = some b := e1
        have e2' : impl_IsName.l0 12 s 0 = some b := e2
        generalize bt s 0 = c
        by_cases h2 : c < 97
        · exact ⟨false, by simp [spec_l01Name.j0, show ¬ (97 ≤ c ∧ c ≤ 122) by omega], by simp [impl_IsName.j0, h2]⟩
        · by_cases h3 : c > 122
          · exact ⟨false, by simp [spec_l01Name.j0, show ¬ (97 ≤ c ∧ c ≤ 122) by omega], by simp [impl_IsName.j0, h2, h3]⟩
          · exact ⟨b, by simp [spec_l01Name.j0, show (97 ≤ c ∧ c ≤ 122) by omega, e1'], by simp [impl_IsName.j0, h2, show ¬ (c > 122) by omega, e2']⟩
  obtain ⟨b, e1, e2⟩ := fin
  exact ⟨b, fun k hk => ⟨at_rounds (g := fun k => spec_l01Name.f k s) (fun k => spec_l01Name.mono s k) hk e1, at_rounds (g := fun k => impl_IsName.f k s) (fun k => impl_IsName.mono s k) hk e2⟩⟩

/-- a blade is valid on both sides alike -/
theorem blade_eq (s : ByteArray) (x y z : Int) : ∃ b : Bool, (∀ k, 13 ≤ k → spec_l16Ok.f k [(⟨s, x, y, z⟩ : S34)] = some b ∧ impl_ValidBlade.f k s x y z = some b) ∧ (b = true → 1 ≤ x ∧ x ≤ 1000000) := by
  obtain ⟨b, hb⟩ := name_eq s
  have r : rd_T34 [(⟨s, x, y, z⟩ : S34)] 0 = ⟨s, x, y, z⟩ := rfl
  refine ⟨b && decide (1 ≤ x ∧ x ≤ 1000000) && decide (0 ≤ y ∧ y ≤ 1000000) && decide (1 ≤ z ∧ z ≤ 10000), fun k hk => ?_, ?_⟩
  · obtain ⟨e1, e2⟩ := hb k hk
    unfold spec_l16Ok.f impl_ValidBlade.f
    rw [if_pos (by simp), r]
    simp only [e1, e2, within_eq, l00In_eq, Option.bind_some]
    by_cases g1 : 1 ≤ x ∧ x ≤ 1000000 <;> by_cases g2 : 0 ≤ y ∧ y ≤ 1000000 <;> by_cases g3 : 1 ≤ z ∧ z ≤ 10000 <;> cases b <;> simp [g1, g2, g3]
  · simp only [Bool.and_eq_true, decide_eq_true_eq]
    intro h; omega

theorem itoa_len (n : Int) (h0 : -9223372036854775808 ≤ n) (h1 : n ≤ 9223372036854775807) : (Lib.itoa n).length ≤ 21 := Lib.itoa_length_le n h0 h1

theorem fmt_eq (n : Int) (h0 : -9223372036854775808 ≤ n) (h1 : n ≤ 9223372036854775807) : impl_Decimal.f n [()] = some ⟨(Lib.itoa n).toArray⟩ := by
  unfold impl_Decimal.f Go.Proofs.YtjmjbmahljlnlaaDoorX.strconv_FormatInt.f
  rw [if_pos ⟨rfl, rfl, h0, h1⟩]; rfl

def bs (l : List UInt8) : ByteArray := ⟨l.toArray⟩
theorem bs_list (l : List UInt8) : (bs l).data.toList = l := rfl
theorem bs_of (s : ByteArray) : bs s.data.toList = s := by apply ByteArray.ext; simp [bs]
theorem bs_size (l : List UInt8) : (bs l).size = l.length := by simp [bs, ByteArray.size]
theorem bs_toList (l : List UInt8) : (bs l).toList = l := by rw [ByteArray.toList_eq]; rfl
theorem bs_inj {a b : List UInt8} (h : bs a = bs b) : a = b := by have := congrArg (fun s => s.data.toList) h; simpa [bs] using this
theorem size_list (s : ByteArray) : s.size = s.data.toList.length := by rw [Array.length_toList]; rfl
theorem extract_bs (l : List UInt8) (a b : Nat) : (bs l).extract a b = bs ((l.drop a).take (b - a)) := by
  rw [← bs_of ((bs l).extract a b), Lib.extract_data, bs_list]
theorem bt_bs (l : List UInt8) (i : Nat) (h : i < l.length) : bt (bs l) (i : Int) = (l[i].toNat : Int) := by
  unfold bt
  rw [dif_pos (by rw [bs_size]; simpa using h)]
  simp [bs, ByteArray.getElem_eq_getElem_data]

/-- a text divided at each byte c -/
def splitL (c : UInt8) : List UInt8 → List (List UInt8)
  | [] => [[]]
  | b :: l => if b = c then [] :: splitL c l else match splitL c l with
    | [] => [[b]]
    | x :: r => (b :: x) :: r

def hd (cur : List UInt8) : List (List UInt8) → List (List UInt8)
  | [] => [cur]
  | x :: r => (cur ++ x) :: r

theorem splitL_ne (c : UInt8) (l : List UInt8) : splitL c l ≠ [] := by
  cases l with
  | nil => simp [splitL]
  | cons b l =>
    rw [splitL]
    split
    · simp
    · split <;> simp

theorem splitL_cons_ne {c b : UInt8} (h : b ≠ c) (l : List UInt8) : splitL c (b :: l) = hd [b] (splitL c l) := by
  rw [splitL, if_neg h]
  cases splitL c l <;> rfl

theorem hd_hd (a b : List UInt8) (x : List (List UInt8)) : hd a (hd b x) = hd (a ++ b) x := by
  cases x <;> simp [hd]

theorem hd_nil (c : UInt8) (l : List UInt8) : hd [] (splitL c l) = splitL c l := by
  have := splitL_ne c l
  cases h : splitL c l with
  | nil => exact absurd h this
  | cons x r => rfl

theorem specSplit (l : List UInt8) (c : UInt8) (hl : l.length ≤ 1048576) (k : Nat) (hk : l.length < k) : spec_l01Split.f k (bs l) (c.toNat : Int) = some ((splitL c l).map bs) := by
  unfold spec_l01Split.f
  have key : ∀ (d i k fr : Nat) (out : List (List UInt8)), i + d = l.length → d < k → fr ≤ i → out.length ≤ i →
      spec_l01Split.l0 k (bs l) (c.toNat : Int) (out.map bs) (fr : Int) (i : Int) = some ((out ++ hd ((l.drop fr).take (i - fr)) (splitL c (l.drop i))).map bs) := by
    intro d
    induction d with
    | zero =>
      intro i k fr out hi hk hf ho
      obtain ⟨k, rfl⟩ : ∃ m, k = m + 1 := ⟨k - 1, by omega⟩
      simp only [spec_l01Split.l0]
      rw [bs_size, if_neg (by omega), if_pos (by omega), if_pos (by omega), if_pos (by rw [List.length_map]; omega), List.drop_of_length_le (by omega : l.length ≤ i), extract_bs]
      simp only [splitL, hd, Int.toNat_natCast, List.append_nil, List.map_append, List.map_cons, List.map_nil]
      rw [show i = l.length by omega]
    | succ d ih =>
      intro i k fr out hi hk hf ho
      obtain ⟨k, rfl⟩ : ∃ m, k = m + 1 := ⟨k - 1, by omega⟩
      have hlt : i < l.length := by omega
      simp only [spec_l01Split.l0]
      rw [bs_size, if_pos (by omega), if_pos (by omega), bt_bs l i hlt, List.drop_eq_getElem_cons hlt]
      by_cases hc : l[i] = c
      · rw [if_pos (by rw [hc]), if_pos (by omega), if_pos (by omega), if_pos (by omega), if_pos (by rw [List.length_map]; omega), wnat (by omega), extract_bs]
        have := ih (i + 1) k (i + 1) (out ++ [(l.drop fr).take (i - fr)]) (by omega) (by omega) (by omega) (by simp; omega)
        rw [List.map_append, List.map_cons, List.map_nil] at this
        simp only [Int.toNat_natCast]
        rw [this, splitL, if_pos hc, Nat.sub_self, List.take_zero, hd_nil]
        simp [hd]
      · rw [if_neg (fun h => hc (UInt8.toNat_inj.1 (by omega))), wnat (by omega), ih (i + 1) k fr out (by omega) (by omega) (by omega) (by omega), splitL_cons_ne hc, hd_hd]
        have e : (l.drop fr).take (i + 1 - fr) = (l.drop fr).take (i - fr) ++ [l[i]] := by
          rw [show i + 1 - fr = (i - fr) + 1 by omega, List.take_succ_eq_append_getElem (by simp; omega), List.getElem_drop]
          congr 2
          simp only [show fr + (i - fr) = i by omega]
        rw [e]
  have := key l.length 0 k 0 [] (by omega) hk (by omega) (by simp)
  simp only [List.map_nil, Nat.sub_self, List.take_zero, List.drop_zero, List.nil_append, hd_nil] at this
  exact this

theorem index_one (c : UInt8) : ∀ l : List UInt8, (c ∉ l ∧ Lib.index l [c] = -1) ∨ (∃ a r, l = a ++ c :: r ∧ c ∉ a ∧ Lib.index l [c] = (a.length : Int))
  | [] => .inl ⟨by simp, rfl⟩
  | b :: l => by
    by_cases h : b = c
    · subst h
      exact .inr ⟨[], l, rfl, by simp, by rw [Lib.index]; simp [List.isPrefixOf]⟩
    · have hp : ([c] : List UInt8).isPrefixOf (b :: l) = false := by simp [List.isPrefixOf, Ne.symm h]
      rcases index_one c l with ⟨h1, h2⟩ | ⟨a, r, h1, h2, h3⟩
      · exact .inl ⟨by simp [h1, Ne.symm h], by rw [Lib.index, hp, h2]; rfl⟩
      · refine .inr ⟨b :: a, r, by rw [h1]; rfl, by simp [h2, Ne.symm h], ?_⟩
        rw [Lib.index, hp, h3]
        rw [if_neg (by simp), if_neg (by rw [beq_iff_eq]; omega)]
        simp

theorem splitL_none (c : UInt8) : ∀ l : List UInt8, c ∉ l → splitL c l = [l]
  | [], _ => rfl
  | b :: l, h => by
    simp only [List.mem_cons, not_or] at h
    rw [splitL_cons_ne (Ne.symm h.1), splitL_none c l h.2]; rfl

theorem splitL_app (c : UInt8) (r : List UInt8) : ∀ a : List UInt8, c ∉ a → splitL c (a ++ c :: r) = a :: splitL c r
  | [], _ => by rw [List.nil_append, splitL, if_pos rfl]
  | b :: a, h => by
    simp only [List.mem_cons, not_or] at h
    rw [List.cons_append, splitL_cons_ne (Ne.symm h.1), splitL_app c r a h.2]; rfl

theorem count_app (c : UInt8) (a r : List UInt8) (h : c ∉ a) : (a ++ c :: r).count c = r.count c + 1 := by
  rw [List.count_append, List.count_eq_zero.2 h, List.count_cons_self]; omega

theorem splitK_eq (c : UInt8) : ∀ (n : Nat) (l : List UInt8), l.count c = n → Lib.splitK [c] 0 n l = splitL c l
  | 0, l, h => by rw [splitL_none c l (List.count_eq_zero.1 h)]; rfl
  | n + 1, l, h => by
    rcases index_one c l with ⟨h1, _⟩ | ⟨a, r, h1, h2, h3⟩
    · rw [List.count_eq_zero.2 h1] at h; omega
    · subst h1
      rw [count_app c a r h2] at h
      rw [Lib.splitK, if_neg (by rw [h3, beq_iff_eq]; omega), h3, splitL_app c r a h2]
      have := splitK_eq c n r (by omega)
      simp only [Int.toNat_natCast, Nat.add_zero, List.length_singleton]
      rw [List.take_left' rfl, show List.drop (a.length + 1) (a ++ c :: r) = r by rw [← List.drop_drop, List.drop_left' rfl]; rfl, this]

theorem map_data_inj : ∀ {x y : List ByteArray}, x.map (·.data.toList) = y.map (·.data.toList) → x = y
  | [], [], _ => rfl
  | [], _ :: _, h => by simp at h
  | _ :: _, [], h => by simp at h
  | a :: x, b :: y, h => by
    simp only [List.map_cons, List.cons.injEq] at h
    rw [map_data_inj h.2, ← bs_of a, ← bs_of b, h.1]

theorem splitB_eq (l : List UInt8) (c : UInt8) : Lib.splitB (bs [c]) 0 (Lib.countB (bs l) (bs [c])) (bs l) = (splitL c l).map bs := by
  apply map_data_inj
  rw [Lib.splitB_data, bs_list, bs_list, List.map_map]
  have e : ((fun x : ByteArray => x.data.toList) ∘ bs) = id := by funext x; rfl
  rw [e, List.map_id]
  have hc : Lib.countB (bs l) (bs [c]) = l.count c := by
    rw [show Lib.countB (bs l) (bs [c]) = Lib.count (bs l).data.toList (bs [c]).data.toList from rfl, bs_list, bs_list, Lib.count_one]
  rw [hc]
  exact splitK_eq c _ l rfl

theorem splitL_len (c : UInt8) : ∀ l : List UInt8, (splitL c l).length ≤ l.length + 1
  | [] => by simp [splitL]
  | b :: l => by
    have := splitL_len c l
    by_cases h : b = c
    · rw [splitL, if_pos h]; simp; omega
    · rw [splitL_cons_ne h]
      cases hs : splitL c l with
      | nil => simp [hd]
      | cons x r => rw [hs] at this; simp [hd] at this ⊢; omega

theorem implSplit (l : List UInt8) (c : UInt8) (hl : l.length ≤ 1048576) : Go.Proofs.YtjmjbmahljlnlaaDoorX.strings_Split.f (bs l) (bs [c]) [()] = some ((splitL c l).map bs) := by
  unfold Go.Proofs.YtjmjbmahljlnlaaDoorX.strings_Split.f
  rw [if_pos ⟨rfl, by rw [bs_size]; omega, by rw [bs_size]; simp⟩, splitB_eq]

theorem splitL_mem {c b : UInt8} (hb : b ≠ c) : ∀ {l : List UInt8}, b ∈ l → ∃ p ∈ splitL c l, b ∈ p
  | x :: l, h => by
    by_cases hx : x = c
    · rw [splitL, if_pos hx]
      rcases List.mem_cons.1 h with rfl | h
      · exact absurd hx hb
      · obtain ⟨p, hp, h2⟩ := splitL_mem hb h
        exact ⟨p, List.mem_cons_of_mem _ hp, h2⟩
    · rw [splitL_cons_ne hx]
      have hne := splitL_ne c l
      cases hs : splitL c l with
      | nil => exact absurd hs hne
      | cons y r =>
        rcases List.mem_cons.1 h with rfl | h
        · exact ⟨[b] ++ y, by simp [hd], by simp⟩
        · obtain ⟨p, hp, h2⟩ := splitL_mem hb h
          rw [hs] at hp
          rcases List.mem_cons.1 hp with rfl | hp
          · exact ⟨[x] ++ p, by simp [hd], by simp [h2]⟩
          · exact ⟨p, by simp [hd, hp], h2⟩

theorem splitL_part {c : UInt8} : ∀ {l p : List UInt8}, p ∈ splitL c l → p.length ≤ l.length ∧ ∀ b ∈ p, b ∈ l
  | [], p, h => by simp [splitL] at h; subst h; simp
  | x :: l, p, h => by
    by_cases hx : x = c
    · rw [splitL, if_pos hx] at h
      rcases List.mem_cons.1 h with rfl | h
      · simp
      · have := splitL_part h
        exact ⟨by simp; omega, fun b hb => List.mem_cons_of_mem _ (this.2 b hb)⟩
    · rw [splitL_cons_ne hx] at h
      have hne := splitL_ne c l
      cases hs : splitL c l with
      | nil => exact absurd hs hne
      | cons y r =>
        rw [hs] at h
        rcases List.mem_cons.1 h with rfl | h
        · have := splitL_part (show y ∈ splitL c l by rw [hs]; exact List.mem_cons_self)
          refine ⟨by simp; omega, fun b hb => ?_⟩
          rcases List.mem_cons.1 hb with rfl | hb
          · exact List.mem_cons_self
          · exact List.mem_cons_of_mem _ (this.2 b hb)
        · have := splitL_part (show p ∈ splitL c l by rw [hs]; exact List.mem_cons_of_mem _ h)
          exact ⟨by simp; omega, fun b hb => List.mem_cons_of_mem _ (this.2 b hb)⟩

def dgt (c : UInt8) : Bool := decide (48 ≤ c.toNat ∧ c.toNat ≤ 57)
def valf : List UInt8 → Int → Int
  | [], n => n
  | c :: l, n => valf l (10 * n + ((c.toNat : Int) - 48))

theorem valf_snoc (c : UInt8) : ∀ (l : List UInt8) (n : Int), valf (l ++ [c]) n = 10 * valf l n + ((c.toNat : Int) - 48)
  | [], n => rfl
  | b :: l, n => valf_snoc c l _

theorem valf_bound : ∀ (l : List UInt8) (n : Int) (d : Nat), l.all dgt = true → 0 ≤ n → n < 10 ^ d → 0 ≤ valf l n ∧ valf l n < 10 ^ (d + l.length)
  | [], n, d, _, h0, h1 => ⟨h0, h1⟩
  | c :: l, n, d, h, h0, h1 => by
    rw [List.all_cons, Bool.and_eq_true] at h
    have hc : 48 ≤ c.toNat ∧ c.toNat ≤ 57 := by simpa [dgt] using h.1
    have := valf_bound l (10 * n + ((c.toNat : Int) - 48)) (d + 1) h.2 (by omega) (by rw [Int.pow_succ]; omega)
    rw [List.length_cons, show d + (l.length + 1) = d + 1 + l.length by omega]
    exact this

/-- the number with a decimal form, if there is one -/
def num (l : List UInt8) : Int × Bool :=
  let D := if l.head? = some 45 then l.drop 1 else l
  if 1 ≤ D.length ∧ D.length ≤ 18 ∧ ¬ (D.head? = some 48 ∧ 1 < l.length) ∧ D.all dgt = true then (if l.head? = some 45 then -valf D 0 else valf D 0, true) else (0, false)

theorem dgt_eq (c : UInt8) : spec_l01Digit.f (c.toNat : Int) = some (dgt c) := by
  unfold spec_l01Digit.f dgt
  by_cases h : (c.toNat : Int) ≥ 48
  · rw [if_pos h]
    have : 48 ≤ c.toNat := by omega
    simp [this]; omega
  · rw [if_neg h]
    have : ¬ (48 ≤ c.toNat ∧ c.toNat ≤ 57) := by omega
    simp [this]

theorem wstep (n : Int) (c : UInt8) (hc : dgt c = true) (h0 : 0 ≤ n) (h1 : n < 10 ^ 17) : wrap64 (wrap64 (10 * n) + ((c.toNat : Int) - 48) % 256) = 10 * n + ((c.toNat : Int) - 48) := by
  have hc : 48 ≤ c.toNat ∧ c.toNat ≤ 57 := by simpa [dgt] using hc
  rw [w64 (x := 10 * n) (by omega) (by omega), w64 (by omega) (by omega)]; omega
theorem wstep' (n : Int) (c : UInt8) (hc : dgt c = true) (h0 : 0 ≤ n) (h1 : n < 10 ^ 17) : wrap64 (wrap64 (n * 10) + ((c.toNat : Int) - 48) % 256) = 10 * n + ((c.toNat : Int) - 48) := by
  rw [Int.mul_comm]; exact wstep n c hc h0 h1

theorem specNum_l0 (l : List UInt8) (hl : l.length ≤ 19) (at_ : Nat) (ha : at_ ≤ 1) (hD : l.length - at_ ≤ 18) : ∀ (d i k : Nat) (n : Int), i + d = l.length → at_ ≤ i → d < k → 0 ≤ n → n < 10 ^ (i - at_) →
    spec_l01Number.l0 k (bs l) (at_ : Int) n (i : Int) = some (if (l.drop i).all dgt = true then (if at_ = 1 then -valf (l.drop i) n else valf (l.drop i) n, true) else (0, false)) := by
  intro d
  induction d with
  | zero =>
    intro i k n hi hai hk h0 h1
    obtain ⟨k, rfl⟩ : ∃ m, k = m + 1 := ⟨k - 1, by omega⟩
    have hb : n < 10 ^ 18 := Int.lt_of_lt_of_le h1 (by
      have := Nat.pow_le_pow_right (show 0 < 10 by omega) (show i - at_ ≤ 18 by omega)
      exact_mod_cast this)
    simp only [spec_l01Number.l0]
    rw [bs_size, if_neg (by omega), List.drop_of_length_le (by omega)]
    by_cases h : at_ = 1
    · rw [if_pos (by omega), w64 (by omega) (by omega)]; simp [h, valf]
    · rw [if_neg (by omega)]; simp [h, valf]
  | succ d ih =>
    intro i k n hi hai hk h0 h1
    obtain ⟨k, rfl⟩ : ∃ m, k = m + 1 := ⟨k - 1, by omega⟩
    have hlt : i < l.length := by omega
    have hb : n < 10 ^ 17 := Int.lt_of_lt_of_le h1 (by
      have := Nat.pow_le_pow_right (show 0 < 10 by omega) (show i - at_ ≤ 17 by omega)
      exact_mod_cast this)
    simp only [spec_l01Number.l0]
    rw [bs_size, if_pos (by omega), if_pos (by omega), bt_bs l i hlt, dgt_eq, List.drop_eq_getElem_cons hlt, List.all_cons]
    simp only [Option.bind_some]
    cases hc : dgt l[i] with
    | false => simp
    | true =>
      have hc' : 48 ≤ (l[i]).toNat ∧ (l[i]).toNat ≤ 57 := by simpa [dgt] using hc
      rw [if_pos rfl, wstep n _ hc h0 hb, wnat (by omega), ih (i + 1) k _ (by omega) (by omega) (by omega) (by omega) (by
        rw [show i + 1 - at_ = (i - at_) + 1 by omega, Int.pow_succ]; omega)]
      simp [valf]

theorem head_at (l : List UInt8) (c : UInt8) (h : 0 < l.length) : (bt (bs l) 0 == (c.toNat : Int)) = decide (l.head? = some c) := by
  have := bt_bs l 0 h
  rw [show ((0 : Nat) : Int) = 0 from rfl] at this
  rw [this]
  cases l with
  | nil => simp at h
  | cons b r =>
    simp only [List.getElem_cons_zero, List.head?_cons, Option.some.injEq]
    by_cases e : b = c
    · subst e; simp
    · have : ¬ ((b.toNat : Int) = c.toNat) := fun h => e (UInt8.toNat_inj.1 (by omega))
      simp [e, this]

theorem specNum_j1 (l : List UInt8) (hl : l.length ≤ 1048576) (at_ : Nat) (ha : (at_ = 1 ∧ l.head? = some 45) ∨ (at_ = 0 ∧ ¬ l.head? = some 45)) (k : Nat) (hk : 100 < k) : spec_l01Number.j1 k (bs l) (at_ : Int) = some (num l) := by
  obtain ⟨k, rfl⟩ : ∃ m, k = m + 2 := ⟨k - 2, by omega⟩
  have hD : (if l.head? = some 45 then l.drop 1 else l) = l.drop at_ := by
    rcases ha with ⟨h1, h2⟩ | ⟨h1, h2⟩
    · rw [if_pos h2, h1]
    · rw [if_neg h2, h1]; rfl
  have hat : at_ ≤ 1 := by omega
  have hal : at_ ≤ l.length := by
    rcases ha with ⟨h1, h2⟩ | ⟨h1, h2⟩
    · cases l with
      | nil => simp at h2
      | cons b r => simp; omega
    · omega
  have hneg : (if l.head? = some 45 then -valf (l.drop at_) 0 else valf (l.drop at_) 0) = (if at_ = 1 then -valf (l.drop at_) 0 else valf (l.drop at_) 0) := by
    rcases ha with ⟨h1, h2⟩ | ⟨h1, h2⟩
    · rw [if_pos h2, if_pos h1]
    · rw [if_neg h2, if_neg (by omega)]
  unfold num
  simp only [hD, List.length_drop, hneg]
  simp only [spec_l01Number.j1]
  rw [bs_size]
  by_cases h1 : l.length = at_
  · rw [if_pos (by omega), if_neg (by omega)]
    simp [spec_l01Number.j2]
  · rw [if_neg (by omega), w64 (by omega) (by omega)]
    by_cases h2 : (l.length : Int) - at_ > 18
    · rw [if_pos h2, if_neg (by omega)]
      simp [spec_l01Number.j2]
    · have hlt : at_ < l.length := by omega
      rw [if_neg h2, if_pos (by omega), if_pos (by omega), bt_bs l at_ hlt]
      have hh : (l.drop at_).head? = some l[at_] := by rw [List.drop_eq_getElem_cons hlt]; rfl
      have hl0 := specNum_l0 l (by omega) at_ hat (by omega) (l.length - at_) at_ k 0 (by omega) (Nat.le_refl _) (by omega) (by omega) (by simp)
      by_cases h3 : l[at_] = 48
      · rw [if_pos (by rw [h3]; rfl)]
        by_cases h4 : (l.length : Int) > 1
        · rw [show decide ((l.length : Int) > 1) = true from decide_eq_true h4, if_neg (by rw [hh, h3]; rintro ⟨_, _, h, _⟩; exact h ⟨rfl, by omega⟩)]
          simp [spec_l01Number.j2]
        · rw [show decide ((l.length : Int) > 1) = false from decide_eq_false h4]
          simp only [spec_l01Number.j2, Bool.false_eq_true, if_false]
          rw [hl0]
          by_cases h5 : (l.drop at_).all dgt = true
          · have hc : 1 ≤ l.length - at_ ∧ l.length - at_ ≤ 18 ∧ ¬ ((l.drop at_).head? = some 48 ∧ 1 < l.length) ∧ (l.drop at_).all dgt = true := ⟨by omega, by omega, fun h => by omega, h5⟩
            rw [if_pos h5, if_pos hc]
          · rw [if_neg h5, if_neg (fun h => h5 h.2.2.2)]
      · rw [if_neg (fun h => h3 (UInt8.toNat_inj.1 (by rw [show (48 : UInt8).toNat = 48 from rfl]; omega)))]
        simp only [spec_l01Number.j2, Bool.false_eq_true, if_false]
        rw [hl0]
        by_cases h5 : (l.drop at_).all dgt = true
        · have hc : 1 ≤ l.length - at_ ∧ l.length - at_ ≤ 18 ∧ ¬ ((l.drop at_).head? = some 48 ∧ 1 < l.length) ∧ (l.drop at_).all dgt = true := ⟨by omega, by omega, fun h => h3 (by rw [hh] at h; exact Option.some.inj h.1), h5⟩
          rw [if_pos h5, if_pos hc]
        · rw [if_neg h5, if_neg (fun h => h5 h.2.2.2)]

theorem specNum (l : List UInt8) (hl : l.length ≤ 1048576) (k : Nat) (hk : 200 < k) : spec_l01Number.f k (bs l) = some (num l) := by
  unfold spec_l01Number.f
  obtain ⟨k, rfl⟩ : ∃ m, k = m + 1 := ⟨k - 1, by omega⟩
  rw [bs_size]
  by_cases h : l.length = 0
  · have : l = [] := List.eq_nil_of_length_eq_zero h
    rw [if_neg (by omega)]
    simp only [spec_l01Number.j0, Bool.false_eq_true, if_false]
    exact specNum_j1 l hl 0 (.inr ⟨rfl, by rw [this]; simp⟩) k (by omega)
  · rw [if_pos (by omega), if_pos (by omega), show (45 : Int) = ((45 : UInt8).toNat : Int) from rfl, head_at l 45 (by omega)]
    simp only [spec_l01Number.j0, decide_eq_true_eq]
    by_cases h2 : l.head? = some 45
    · rw [if_pos h2]; exact specNum_j1 l hl 1 (.inl ⟨rfl, h2⟩) k (by omega)
    · rw [if_neg h2]; exact specNum_j1 l hl 0 (.inr ⟨rfl, h2⟩) k (by omega)

theorem head_app (a b : List UInt8) (h : a ≠ []) : (a ++ b).head? = a.head? := by
  cases a with
  | nil => exact absurd rfl h
  | cons x r => rfl

theorem decDigits_head : ∀ u : Nat, 0 < u → ∀ c, (Lib.decDigits u).head? = some c → c ≠ 48 := by
  intro u
  induction u using Nat.strongRecOn with
  | ind u ih =>
    intro hu c hc
    by_cases h : u < 10
    · rw [Lib.decDigits_one h] at hc
      simp only [List.head?_cons, Option.some.injEq] at hc
      subst hc
      intro h2
      have := congrArg UInt8.toNat h2
      rw [UInt8.toNat_ofNat', show (48 : UInt8).toNat = 48 from rfl] at this
      omega
    · rw [show Lib.decDigits u = Lib.decDigits (u / 10) ++ [UInt8.ofNat (48 + u % 10)] by rw [Lib.decDigits, dif_neg h]] at hc
      have hne : Lib.decDigits (u / 10) ≠ [] := by
        intro h2
        have := Lib.decDigits_length (u / 10)
        rw [h2] at this
        have := Lib.nDigits_pos (u / 10)
        simp at *; omega
      rw [head_app _ _ hne] at hc
      exact ih (u / 10) (by omega) (by omega) c hc

theorem ofNat_dgt (c : UInt8) (h : 48 ≤ c.toNat ∧ c.toNat ≤ 57) : UInt8.ofNat (48 + (c.toNat - 48)) = c := by
  apply UInt8.toNat_inj.1
  rw [UInt8.toNat_ofNat']
  omega

/-- digits without a leading zero are the digits of their value -/
theorem decDigits_valf : ∀ (n : Nat) (l : List UInt8), l.length = n + 1 → l.all dgt = true → ((l.head? = some 48) → n = 0) → 0 ≤ valf l 0 ∧ Lib.decDigits (valf l 0).toNat = l ∧ (l.head? ≠ some 48 → 0 < valf l 0) := by
  intro n
  induction n with
  | zero =>
    intro l hl ha _
    match l, hl with
    | [c], _ =>
      have hc : 48 ≤ c.toNat ∧ c.toNat ≤ 57 := by simpa [dgt] using ha
      have e : valf [c] 0 = ((c.toNat - 48 : Nat) : Int) := by simp only [valf]; omega
      refine ⟨by rw [e]; omega, ?_, fun h => ?_⟩
      · rw [e, Int.toNat_natCast, Lib.decDigits_one (by omega), ofNat_dgt c hc]
      · rw [e]
        have : c ≠ 48 := fun h2 => h (by rw [h2]; rfl)
        have : c.toNat ≠ 48 := fun h2 => this (UInt8.toNat_inj.1 h2)
        omega
  | succ n ih =>
    intro l hl ha hz
    have hne : l ≠ [] := by intro h; rw [h] at hl; simp at hl
    obtain ⟨m, c, rfl⟩ : ∃ m c, l = m ++ [c] := ⟨l.dropLast, l.getLast hne, (List.dropLast_concat_getLast hne).symm⟩
    rw [List.all_append, Bool.and_eq_true] at ha
    have hc : 48 ≤ c.toNat ∧ c.toNat ≤ 57 := by simpa [dgt] using ha.2
    have hm : m.length = n + 1 := by simpa using hl
    have hmn : m ≠ [] := by intro h; rw [h] at hm; simp at hm
    rw [head_app _ _ hmn] at hz ⊢
    have h48 : m.head? ≠ some 48 := fun h => by have := hz h; omega
    obtain ⟨h1, h2, h3⟩ := ih m hm ha.1 (fun h => absurd h h48)
    have h4 := h3 h48
    have e : valf (m ++ [c]) 0 = ((10 * (valf m 0).toNat + (c.toNat - 48) : Nat) : Int) := by rw [valf_snoc]; omega
    refine ⟨by rw [e]; omega, ?_, fun _ => by rw [e]; omega⟩
    rw [e, Int.toNat_natCast, Lib.decDigits, dif_neg (by omega), show (10 * (valf m 0).toNat + (c.toNat - 48)) / 10 = (valf m 0).toNat by omega, h2, show (10 * (valf m 0).toNat + (c.toNat - 48)) % 10 = c.toNat - 48 by omega, ofNat_dgt c hc]

theorem decDigits_no (l : List UInt8) (u : Nat) (h : l.head? = some 48) (hl : 1 < l.length) : Lib.decDigits u ≠ l := by
  intro e
  by_cases hu : u = 0
  · subst hu
    rw [Lib.decDigits_one (by omega)] at e
    rw [← e] at hl; simp at hl
  · exact decDigits_head u (by omega) 48 (by rw [e]; exact h) rfl

theorem hasPrefix_neg (l : List UInt8) : Lib.hasPrefix l [45] = decide (l.head? = some 45) := by
  unfold Lib.hasPrefix
  cases l with
  | nil => rfl
  | cons b r =>
    simp only [List.isPrefixOf, List.head?_cons, Option.some.injEq, Bool.and_true]
    by_cases h : b = 45
    · subst h; rfl
    · have : ((45 : UInt8) == b) = false := by simpa using Ne.symm h
      rw [this]; simp [h]

theorem bs_eq_toList (a b : List UInt8) : ((bs a).toList = (bs b).toList) = (a = b) := by rw [bs_toList, bs_toList]

theorem implNum_l0 (l D : List UInt8) (neg : Bool) (hN : (neg = true ∧ l = 45 :: D) ∨ (neg = false ∧ l = D)) (hD : D.length ≤ 18) (h1 : 1 ≤ D.length) : ∀ (d i k : Nat) (n : Int), i + d = D.length → d < k → (D.take i).all dgt = true → n = valf (D.take i) 0 →
    impl_ReadDecimal.l0 k (bs l) (bs D) n (i : Int) [()] = some (if ¬ (D.head? = some 48 ∧ 1 < l.length) ∧ D.all dgt = true then (if neg = true then -valf D 0 else valf D 0, true) else (0, false)) := by
  intro d
  induction d with
  | zero =>
    intro i k n hi hk hp hn
    obtain ⟨k, rfl⟩ : ∃ m, k = m + 1 := ⟨k - 1, by omega⟩
    have ht : D.take i = D := List.take_of_length_le (by omega)
    rw [ht] at hp hn
    obtain ⟨b0, b1⟩ := valf_bound D 0 0 hp (by omega) (by simp)
    have hb : valf D 0 < 10 ^ 18 := Int.lt_of_lt_of_le b1 (by
      have := Nat.pow_le_pow_right (show 0 < 10 by omega) (show 0 + D.length ≤ 18 by omega)
      exact_mod_cast this)
    subst hn
    simp only [impl_ReadDecimal.l0]
    rw [bs_size, bs_size, if_neg (by omega)]
    rcases hN with ⟨rfl, rfl⟩ | ⟨rfl, rfl⟩
    · rw [if_pos (by simp only [List.length_cons]; omega), w64 (by omega) (by omega), fmt_eq _ (by omega) (by omega)]
      simp only [Option.bind_some]
      rw [show (⟨(Lib.itoa (-valf D 0)).toArray⟩ : ByteArray) = bs (Lib.itoa (-valf D 0)) from rfl]
      simp only [bs_eq_toList]
      by_cases h48 : D.head? = some 48
      · have hcn : ¬ (¬ (D.head? = some 48 ∧ 1 < (45 :: D).length) ∧ D.all dgt = true) := fun h => h.1 ⟨h48, by simp only [List.length_cons]; omega⟩
        have hne : ¬ (Lib.itoa (-valf D 0) = 45 :: D) := by
          intro e
          by_cases hv : valf D 0 = 0
          · rw [hv] at e
            have : Lib.itoa (-0) = [48] := by unfold Lib.itoa; rw [if_neg (by omega)]; exact Lib.decDigits_one (by omega)
            rw [this] at e
            simp at e
          · unfold Lib.itoa at e
            rw [if_pos (by omega), List.cons.injEq] at e
            exact decDigits_head (-valf D 0).natAbs (by omega) 48 (by rw [e.2]; exact h48) rfl
        rw [if_neg hne, if_neg hcn]
      · obtain ⟨_, e2, e3⟩ := decDigits_valf (D.length - 1) D (by omega) hp (fun h => absurd h h48)
        have hv := e3 h48
        have hcp : ¬ (D.head? = some 48 ∧ 1 < (45 :: D).length) ∧ D.all dgt = true := ⟨fun h => h48 h.1, hp⟩
        have heq : Lib.itoa (-valf D 0) = 45 :: D := by
          unfold Lib.itoa
          rw [if_pos (by omega), show (-valf D 0).natAbs = (valf D 0).toNat by omega, e2]
        rw [if_pos heq, if_pos hcp]; simp
    · rw [if_neg (by omega), fmt_eq _ (by omega) (by omega)]
      simp only [Option.bind_some]
      rw [show (⟨(Lib.itoa (valf l 0)).toArray⟩ : ByteArray) = bs (Lib.itoa (valf l 0)) from rfl]
      simp only [bs_eq_toList]
      have hit : Lib.itoa (valf l 0) = Lib.decDigits (valf l 0).toNat := by unfold Lib.itoa; rw [if_neg (by omega)]
      rw [hit]
      by_cases h48 : l.head? = some 48 ∧ 1 < l.length
      · have hcn : ¬ (¬ (l.head? = some 48 ∧ 1 < l.length) ∧ l.all dgt = true) := fun h => h.1 h48
        rw [if_neg (decDigits_no l _ h48.1 h48.2), if_neg hcn]
      · obtain ⟨_, e2, _⟩ := decDigits_valf (l.length - 1) l (by omega) hp (fun h => by
          have : ¬ 1 < l.length := fun h2 => h48 ⟨h, h2⟩
          omega)
        have hcp : ¬ (l.head? = some 48 ∧ 1 < l.length) ∧ l.all dgt = true := ⟨h48, hp⟩
        rw [if_pos e2, if_pos hcp]; simp
  | succ d ih =>
    intro i k n hi hk hp hn
    obtain ⟨k, rfl⟩ : ∃ m, k = m + 1 := ⟨k - 1, by omega⟩
    have hlt : i < D.length := by omega
    obtain ⟨b0, b1⟩ := valf_bound (D.take i) 0 0 hp (by omega) (by simp)
    have hb : valf (D.take i) 0 < 10 ^ 17 := Int.lt_of_lt_of_le b1 (by
      have := Nat.pow_le_pow_right (show 0 < 10 by omega) (show 0 + (D.take i).length ≤ 17 by simp; omega)
      exact_mod_cast this)
    have ht : D.take (i + 1) = D.take i ++ [D[i]] := List.take_succ_eq_append_getElem hlt
    simp only [impl_ReadDecimal.l0]
    rw [bs_size, if_pos (by omega), if_pos (by omega), bt_bs D i hlt]
    cases hc : dgt D[i] with
    | false =>
      have hall : ¬ D.all dgt = true := by
        intro h
        rw [List.all_eq_true] at h
        rw [h _ (List.getElem_mem hlt)] at hc
        cases hc
      have hcn : ¬ (¬ (D.head? = some 48 ∧ 1 < l.length) ∧ D.all dgt = true) := fun h => hall h.2
      have hc' : ¬ (48 ≤ (D[i]).toNat ∧ (D[i]).toNat ≤ 57) := by
        intro h2
        have : dgt D[i] = true := decide_eq_true h2
        rw [this] at hc; cases hc
      rw [if_neg hcn]
      by_cases h2 : ((D[i]).toNat : Int) < 48
      · rw [if_pos h2]
      · rw [if_neg h2, if_pos (by omega)]
    | true =>
      have hc' : 48 ≤ (D[i]).toNat ∧ (D[i]).toNat ≤ 57 := by simpa [dgt] using hc
      rw [if_neg (by omega), if_neg (by omega), wnat (by omega), hn, wstep' _ _ hc b0 hb]
      exact ih (i + 1) k _ (by omega) (by omega) (by rw [ht, List.all_append, hp]; simp [hc]) (by rw [ht, valf_snoc])

theorem implNum (l : List UInt8) (hl : l.length ≤ 1048576) (k : Nat) (hk : 200 < k) : impl_ReadDecimal.f k (bs l) [()] = some (num l) := by
  obtain ⟨k, rfl⟩ : ∃ m, k = m + 2 := ⟨k - 2, by omega⟩
  unfold impl_ReadDecimal.f Go.Proofs.YtjmjbmahljlnlaaDoorX.strings_HasPrefix.f
  rw [show (⟨#[45]⟩ : ByteArray) = bs [45] from rfl, bs_list, bs_list, hasPrefix_neg]
  simp only [Option.bind_some, decide_eq_true_eq]
  have fin : ∀ (D : List UInt8) (neg : Bool), ((neg = true ∧ l = 45 :: D) ∨ (neg = false ∧ l = D)) → (neg = true ↔ l.head? = some 45) → impl_ReadDecimal.j0 (k + 2) (bs l) (bs D) [()] = some (num l) := by
    intro D neg hN hneg
    have hD : (if l.head? = some 45 then l.drop 1 else l) = D := by
      rcases hN with ⟨h1, h2⟩ | ⟨h1, h2⟩
      · rw [if_pos (hneg.1 h1), h2]; rfl
      · rw [if_neg (fun h => by rw [hneg.2 h] at h1; cases h1), h2]
    have hv : (if l.head? = some 45 then -valf D 0 else valf D 0) = (if neg = true then -valf D 0 else valf D 0) := by
      cases neg with
      | true => rw [if_pos (hneg.1 rfl), if_pos rfl]
      | false => rw [if_neg (fun h => by have := hneg.2 h; cases this), if_neg (by simp)]
    have hDl : D.length ≤ l.length := by rcases hN with ⟨_, h2⟩ | ⟨_, h2⟩ <;> rw [h2] <;> simp
    unfold num
    simp only [hD, hv]
    simp only [impl_ReadDecimal.j0]
    rw [bs_size]
    by_cases h1 : (D.length : Int) < 1
    · rw [if_pos h1, if_neg (by omega)]
      simp [impl_ReadDecimal.j1]
    · rw [if_neg h1]
      by_cases h2 : (D.length : Int) > 18
      · rw [decide_eq_true h2, if_neg (by omega)]
        simp [impl_ReadDecimal.j1]
      · rw [decide_eq_false h2]
        simp only [impl_ReadDecimal.j1, Bool.false_eq_true, if_false]
        have := implNum_l0 l D neg hN (by omega) (by omega) D.length 0 k 0 (by omega) (by omega) (by simp) (by simp [valf])
        rw [show ((0 : Nat) : Int) = 0 from rfl] at this
        rw [this]
        by_cases h3 : ¬ (D.head? = some 48 ∧ 1 < l.length) ∧ D.all dgt = true
        · have hc : 1 ≤ D.length ∧ D.length ≤ 18 ∧ ¬ (D.head? = some 48 ∧ 1 < l.length) ∧ D.all dgt = true := ⟨by omega, by omega, h3.1, h3.2⟩
          rw [if_pos h3, if_pos hc]
        · have hc : ¬ (1 ≤ D.length ∧ D.length ≤ 18 ∧ ¬ (D.head? = some 48 ∧ 1 < l.length) ∧ D.all dgt = true) := fun h => h3 ⟨h.2.2.1, h.2.2.2⟩
          rw [if_neg h3, if_neg hc]
  by_cases h : l.head? = some 45
  · cases l with
    | nil => simp at h
    | cons b r =>
      simp only [List.head?_cons, Option.some.injEq] at h
      subst h
      rw [if_pos (show (45 :: r).head? = some 45 from rfl), bs_size, if_pos (by simp only [List.length_cons]; omega), extract_bs]
      have := fin r true (.inl ⟨rfl, rfl⟩) (by simp)
      simpa using this
  · rw [if_neg h]
    exact fin l false (.inr ⟨rfl, rfl⟩) (by simp [h])

theorem num_bytes {l : List UInt8} (h : (num l).2 = true) : ∀ b ∈ l, b = 45 ∨ dgt b = true := by
  unfold num at h
  simp only at h
  generalize hD : (if l.head? = some 45 then l.drop 1 else l) = D at h
  by_cases hc : 1 ≤ D.length ∧ D.length ≤ 18 ∧ ¬ (D.head? = some 48 ∧ 1 < l.length) ∧ D.all dgt = true
  · have hall := hc.2.2.2
    rw [List.all_eq_true] at hall
    intro b hb
    by_cases h45 : l.head? = some 45
    · rw [if_pos h45] at hD
      cases l with
      | nil => simp at hb
      | cons x r =>
        rcases List.mem_cons.1 hb with rfl | hb
        · left; simpa using h45
        · right; exact hall b (by rw [← hD]; simpa using hb)
    · rw [if_neg h45] at hD
      right; exact hall b (by rw [← hD]; exact hb)
  · rw [if_neg hc] at h; cases h

/-- within the bounds of a list's numbers -/
def inB (n : Int) : Bool := decide (-1000000000000 ≤ n ∧ n ≤ 1000000000000)
def okP (p : List UInt8) : Bool := (num p).2 && inB (num p).1

/-- the list with a text -/
def rl (l : List UInt8) : List Int × Bool :=
  if l = [45] then ([], true) else if (splitL 44 l).all okP = true ∧ (splitL 44 l).length ≤ 64 then ((splitL 44 l).map fun p => (num p).1, true) else ([], false)

theorem rdS (xs : List (List UInt8)) (i : Nat) (h : i < xs.length) : rdOf ByteArray.empty (xs.map bs) (i : Int) = bs xs[i] := by
  unfold rdOf; simp [List.getD, h]

theorem toList45 (l : List UInt8) : ((bs l).toList = ([45] : List UInt8)) = (l = [45]) := by rw [bs_toList]

theorem specRL (l : List UInt8) (hl : l.length ≤ 1048576) (k : Nat) (hk : 1100000 < k) : spec_ReadList.f k (bs l) = some (rl l) := by
  unfold spec_ReadList.f rl
  simp only [toList45]
  by_cases h : l = [45]
  · rw [if_pos h, if_pos h]
  rw [if_neg h, if_neg h, show (44 : Int) = ((44 : UInt8).toNat : Int) from rfl, specSplit l 44 hl k (by omega)]
  simp only [Option.bind_some, List.length_map]
  by_cases h64 : (splitL 44 l).length ≤ 64
  · rw [if_neg (by omega)]
    have hp : ∀ p ∈ splitL 44 l, p.length ≤ 1048576 := fun p hp => by have := (splitL_part hp).1; omega
    generalize splitL 44 l = ps at h64 hp
    have key : ∀ (d i k : Nat), i + d = ps.length → 300 + d < k → (ps.take i).all okP = true → spec_ReadList.l0 k (ps.map bs) ((ps.take i).map fun p => (num p).1) (i : Int) = some (if ps.all okP = true then (ps.map fun p => (num p).1, true) else ([], false)) := by
      intro d
      induction d with
      | zero =>
        intro i k hi hk ha
        obtain ⟨k, rfl⟩ : ∃ m, k = m + 1 := ⟨k - 1, by omega⟩
        rw [List.take_of_length_le (by omega)] at ha ⊢
        simp only [spec_ReadList.l0]
        rw [List.length_map, if_neg (by omega), if_pos ha]
      | succ d ih =>
        intro i k hi hk ha
        obtain ⟨k, rfl⟩ : ∃ m, k = m + 1 := ⟨k - 1, by omega⟩
        have hlt : i < ps.length := by omega
        have ht : ps.take (i + 1) = ps.take i ++ [ps[i]] := List.take_succ_eq_append_getElem hlt
        simp only [spec_ReadList.l0]
        rw [List.length_map, if_pos (by omega), if_pos (by omega), rdS ps i hlt, specNum _ (hp _ (List.getElem_mem hlt)) k (by omega)]
        simp only [Option.bind_some, l00In_eq]
        cases h1 : (num ps[i]).2 with
        | false =>
          have hn : ¬ ps.all okP = true := by
            intro h2; rw [List.all_eq_true] at h2
            have := h2 _ (List.getElem_mem hlt)
            unfold okP at this; rw [h1] at this; cases this
          rw [if_neg (by simp), if_neg hn]
        | true =>
          rw [if_pos rfl]
          cases h2 : inB (num ps[i]).1 with
          | false =>
            have hn : ¬ ps.all okP = true := by
              intro h3; rw [List.all_eq_true] at h3
              have := h3 _ (List.getElem_mem hlt)
              unfold okP at this; rw [h2, Bool.and_false] at this; cases this
            unfold inB at h2
            rw [h2, if_neg (by simp), if_neg hn]
          | true =>
            have h2' := h2
            unfold inB at h2
            rw [h2, if_pos rfl, if_pos (by rw [List.length_map, List.length_take]; omega), wnat (by omega)]
            have := ih (i + 1) k (by omega) (by omega) (by rw [ht, List.all_append, ha]; simp [okP, h1, h2'])
            rw [ht, List.map_append, List.map_cons, List.map_nil] at this
            exact this
    have := key ps.length 0 k (by omega) (by omega) (by simp)
    simp only [List.take_zero, List.map_nil] at this
    rw [show ((0 : Nat) : Int) = 0 from rfl] at this
    rw [this]
    by_cases ha : ps.all okP = true
    · rw [if_pos ha, if_pos ⟨ha, h64⟩]
    · rw [if_neg ha, if_neg (fun h => ha h.1)]
  · rw [if_pos (by omega), if_neg (fun h => h64 h.2)]

theorem implRL (l : List UInt8) (hl : l.length ≤ 1048576) (k : Nat) (hk : 1100000 < k) : impl_ReadList.f k (bs l) [()] = some (rl l) := by
  unfold impl_ReadList.f rl
  simp only [toList45]
  by_cases h : l = [45]
  · rw [if_pos h, if_pos h]
  rw [if_neg h, if_neg h, show (⟨#[44]⟩ : ByteArray) = bs [44] from rfl, implSplit l 44 hl]
  simp only [Option.bind_some, List.length_map]
  have hlen := splitL_len 44 l
  have hp : ∀ p ∈ splitL 44 l, p.length ≤ 1048576 := fun p hp => by have := (splitL_part hp).1; omega
  generalize splitL 44 l = ps at hlen hp
  have key : ∀ (d i k : Nat), i + d = ps.length → 300 + d < k → (ps.take i).all okP = true → impl_ReadList.l0 k ((ps.take i).map fun p => (num p).1) (ps.map bs) (ps.length : Int) (i : Int) [()] = some (if ps.all okP = true ∧ ps.length ≤ 64 then (ps.map fun p => (num p).1, true) else ([], false)) := by
    intro d
    induction d with
    | zero =>
      intro i k hi hk ha
      obtain ⟨k, rfl⟩ : ∃ m, k = m + 1 := ⟨k - 1, by omega⟩
      rw [List.take_of_length_le (by omega)] at ha ⊢
      simp only [impl_ReadList.l0]
      rw [if_neg (by omega), List.length_map]
      by_cases h64 : ps.length ≤ 64
      · rw [if_neg (by omega), if_pos ⟨ha, h64⟩]
      · rw [if_pos (by omega), if_neg (fun h => h64 h.2)]
    | succ d ih =>
      intro i k hi hk ha
      obtain ⟨k, rfl⟩ : ∃ m, k = m + 1 := ⟨k - 1, by omega⟩
      have hlt : i < ps.length := by omega
      have ht : ps.take (i + 1) = ps.take i ++ [ps[i]] := List.take_succ_eq_append_getElem hlt
      simp only [impl_ReadList.l0]
      rw [if_pos (by omega), if_pos (by omega), List.length_map, if_pos (by omega), rdS ps i hlt, implNum _ (hp _ (List.getElem_mem hlt)) k (by omega)]
      simp only [Option.bind_some, within_eq]
      cases h1 : (num ps[i]).2 with
      | false =>
        have hn : ¬ (ps.all okP = true ∧ ps.length ≤ 64) := by
          intro h2; have h2 := h2.1; rw [List.all_eq_true] at h2
          have := h2 _ (List.getElem_mem hlt)
          unfold okP at this; rw [h1] at this; cases this
        rw [if_neg (by simp), if_neg hn]
      | true =>
        rw [if_pos rfl]
        cases h2 : inB (num ps[i]).1 with
        | false =>
          have hn : ¬ (ps.all okP = true ∧ ps.length ≤ 64) := by
            intro h3; have h3 := h3.1; rw [List.all_eq_true] at h3
            have := h3 _ (List.getElem_mem hlt)
            unfold okP at this; rw [h2, Bool.and_false] at this; cases this
          unfold inB at h2
          rw [h2, if_neg (by simp), if_neg hn]
        | true =>
          have h2' := h2
          unfold inB at h2
          rw [h2, if_pos rfl, if_pos (by rw [List.length_map, List.length_take]; omega), wnat (by omega)]
          have := ih (i + 1) k (by omega) (by omega) (by rw [ht, List.all_append, ha]; simp [okP, h1, h2'])
          rw [ht, List.map_append, List.map_cons, List.map_nil] at this
          exact this
  have := key ps.length 0 k (by omega) (by omega) (by simp)
  simp only [List.take_zero, List.map_nil] at this
  exact this

theorem rl_bytes {l : List UInt8} (b : UInt8) (hb : b ∈ l) (h44 : b ≠ 44) (h45 : b ≠ 45) (hd : dgt b = false) : rl l = ([], false) := by
  unfold rl
  rw [if_neg (fun h => by rw [h, List.mem_singleton] at hb; exact h45 hb), if_neg]
  intro h
  obtain ⟨p, hp, hbp⟩ := splitL_mem h44 hb
  have h1 := h.1
  rw [List.all_eq_true] at h1
  have h2 := h1 p hp
  unfold okP at h2
  rw [Bool.and_eq_true] at h2
  rcases num_bytes h2.1 b hbp with h3 | h3
  · exact h45 h3
  · rw [hd] at h3; cases h3

theorem num_nil : num [] = (0, false) := by unfold num; simp
theorem rl_nil : rl [] = ([], false) := by
  unfold rl
  rw [if_neg (by simp), if_neg]
  intro h
  have h1 := h.1
  simp only [splitL, List.all_cons, List.all_nil, okP, num_nil] at h1
  cases h1

theorem rl_bound {l : List UInt8} : ∀ n ∈ (rl l).1, -1000000000000 ≤ n ∧ n ≤ 1000000000000 := by
  unfold rl
  split
  · simp
  · split
    · rename_i h
      intro n hn
      obtain ⟨p, hp, rfl⟩ := List.mem_map.1 hn
      have h1 := h.1
      rw [List.all_eq_true] at h1
      have := h1 p hp
      unfold okP inB at this
      rw [Bool.and_eq_true, decide_eq_true_eq] at this
      exact this.2
    · simp

theorem cut_none {l : List UInt8} (h : (32 : UInt8) ∉ l) : Lib.cut l [32] = (l, [], false) := by
  rcases index_one 32 l with ⟨_, h2⟩ | ⟨a, r, h1, _, _⟩
  · unfold Lib.cut; rw [h2]; rfl
  · exact absurd (by rw [h1]; simp) h
theorem cut_app (a r : List UInt8) (h : (32 : UInt8) ∉ a) : Lib.cut (a ++ 32 :: r) [32] = (a, r, true) := by
  rcases index_one 32 (a ++ 32 :: r) with ⟨h1, _⟩ | ⟨b, s, h1, h2, h3⟩
  · exact absurd (by simp) h1
  · have e : b = a ∧ s = r := by
      have hs := congrArg (splitL 32) h1
      rw [splitL_app 32 r a h, splitL_app 32 s b h2, List.cons.injEq] at hs
      have e1 := hs.1.symm
      subst e1
      have := List.append_cancel_left h1
      exact ⟨rfl, (List.cons.inj this).2.symm⟩
    obtain ⟨rfl, rfl⟩ := e
    unfold Lib.cut
    rw [h3, if_pos (by omega)]
    simp only [Int.toNat_natCast, List.length_singleton]
    rw [List.take_left' rfl, show List.drop (b.length + 1) (b ++ 32 :: s) = s by rw [← List.drop_drop, List.drop_left' rfl]; rfl]

/-- the name and the numbers of a text -/
def named (l : List UInt8) : Option (List UInt8 × List Int) :=
  match splitL 32 l with
  | [a, r] => if (rl r).2 = true ∧ (rl r).1.length = 3 then some (a, (rl r).1) else none
  | _ => none

theorem implNamed (l : List UInt8) (hl : l.length ≤ 1048576) (k : Nat) (hk : 1100000 < k) : impl_readNamed.f k (bs l) [()] = some (match named l with
    | some (a, xs) => (bs a, rd xs 0, rd xs 1, rd xs 2, true)
    | none => ((⟨#[]⟩ : ByteArray), 0, 0, 0, false)) := by
  unfold impl_readNamed.f Go.Proofs.YtjmjbmahljlnlaaDoorX.strings_Cut.f
  rw [if_pos ⟨rfl, by rw [bs_size]; omega⟩, show (⟨#[32]⟩ : ByteArray) = bs [32] from rfl, bs_list, bs_list]
  simp only [Option.bind_some]
  have fin : ∀ (a r : List UInt8), r.length ≤ 1048576 → named l = (if (rl r).2 = true ∧ (rl r).1.length = 3 then some (a, (rl r).1) else none) →
      (impl_ReadList.f k (bs r) [()]).bind (fun bt180 => (if bt180.2 = true then (if (bt180.1.length : Int) = 3 then (if 0 < (bt180.1.length : Int) then (if 1 < (bt180.1.length : Int) then (if 2 < (bt180.1.length : Int) then (some (bs a, rd bt180.1 0, rd bt180.1 1, rd bt180.1 2, true)) else (none)) else (none)) else (none)) else (some ((⟨#[]⟩ : ByteArray), 0, 0, 0, false))) else (some ((⟨#[]⟩ : ByteArray), 0, 0, 0, false)))) = some (match named l with
    | some (a, xs) => (bs a, rd xs 0, rd xs 1, rd xs 2, true)
    | none => ((⟨#[]⟩ : ByteArray), 0, 0, 0, false)) := by
    intro a r hr hn
    rw [implRL r hr k hk, hn]
    simp only [Option.bind_some]
    by_cases h1 : (rl r).2 = true
    · rw [if_pos h1]
      by_cases h2 : (rl r).1.length = 3
      · rw [if_pos (by omega), if_pos (by omega), if_pos (by omega), if_pos (by omega), if_pos ⟨h1, h2⟩]
      · rw [if_neg (by omega), if_neg (fun h => h2 h.2)]
    · rw [if_neg h1, if_neg (fun h => h1 h.1)]
  rcases index_one 32 l with ⟨h1, _⟩ | ⟨a, r, rfl, h2, _⟩
  · rw [cut_none h1]
    have := fin l [] (by simp) (by
      unfold named; rw [splitL_none 32 l h1, rl_nil]; simp)
    exact this
  · rw [cut_app a r h2]
    have hrl : r.length ≤ 1048576 := by simp only [List.length_append, List.length_cons] at hl; omega
    have := fin a r hrl (by
      unfold named
      rw [splitL_app 32 r a h2]
      by_cases h32 : (32 : UInt8) ∈ r
      · rw [rl_bytes 32 h32 (by decide) (by decide) (by decide), if_neg (by simp)]
        obtain ⟨b, s, e, hb⟩ : ∃ b s, r = b ++ 32 :: s ∧ (32 : UInt8) ∉ b := by
          rcases index_one 32 r with ⟨h3, _⟩ | ⟨b, s, h3, h4, _⟩
          · exact absurd h32 h3
          · exact ⟨b, s, h3, h4⟩
        rw [e, splitL_app 32 s b hb]
        have := splitL_ne 32 s
        cases hs : splitL 32 s with
        | nil => exact absurd hs this
        | cons x y => rfl
      · rw [splitL_none 32 r h32])
    exact this

theorem specNamed_len (l : List UInt8) (hl : l.length ≤ 1048576) : ((splitL 32 l).length ≠ 2 → named l = none) ∧ ∀ a r, splitL 32 l = [a, r] → r.length ≤ 1048576 ∧ named l = if (rl r).2 = true ∧ (rl r).1.length = 3 then some (a, (rl r).1) else none := by
  refine ⟨fun h => ?_, fun a r h => ⟨?_, by unfold named; rw [h]⟩⟩
  · unfold named
    cases hs : splitL 32 l with
    | nil => rfl
    | cons x y =>
      rw [hs] at h
      cases y with
      | nil => rfl
      | cons u v =>
        cases v with
        | nil => simp at h
        | cons _ _ => rfl
  · have := (splitL_part (show r ∈ splitL 32 l by rw [h]; simp)).1
    omega

theorem FnExactReadBlade : laws_FnExactReadBlade.Pure := by
  intro s hs
  refine ⟨1100100, ?_⟩
  obtain ⟨k, hk⟩ : ∃ k : Nat, k = 1100099 := ⟨_, rfl⟩
  rw [show 1100100 = k + 1 by omega]
  unfold laws_FnExactReadBlade.f
  by_cases hz : (s.size : Int) > 1048576
  · rw [if_pos hz]
  rw [if_neg hz]
  obtain ⟨l, rfl⟩ : ∃ l, s = bs l := ⟨_, (bs_of s).symm⟩
  rw [bs_size] at hz
  have hl : l.length ≤ 1048576 := by omega
  have key : ∃ r : ByteArray × Int × Int × Int × Bool, spec_ReadBlade.f (k + 1) (bs l) = some r ∧ impl_ReadBlade.f (k + 1) (bs l) [()] = some r := by
    unfold spec_ReadBlade.f impl_ReadBlade.f
    rw [show (32 : Int) = ((32 : UInt8).toNat : Int) from rfl, specSplit l 32 hl (k + 1) (by omega), implNamed l hl (k + 1) (by omega)]
    simp only [Option.bind_some, List.length_map]
    obtain ⟨hn2, hn⟩ := specNamed_len l hl
    by_cases h2 : (splitL 32 l).length = 2
    · obtain ⟨a, r, hs2⟩ : ∃ a r, splitL 32 l = [a, r] := by
        cases hs : splitL 32 l with
        | nil => rw [hs] at h2; simp at h2
        | cons x y =>
          rw [hs] at h2
          cases y with
          | nil => simp at h2
          | cons u v =>
            cases v with
            | nil => exact ⟨x, u, rfl⟩
            | cons _ _ => simp at h2
      obtain ⟨hr, hnm⟩ := hn a r hs2
      rw [hs2, hnm]
      rw [if_pos (by rfl), if_pos (by simp), show rdOf ByteArray.empty (List.map bs [a, r]) 1 = bs r from rfl, specRL r hr (k + 1) (by omega)]
      simp only [Option.bind_some]
      have hb := @rl_bound r
      generalize rl r = q at hb
      obtain ⟨xs, ok⟩ := q
      cases ok with
      | false => exact ⟨((⟨#[]⟩ : ByteArray), 0, 0, 0, false), by rw [if_neg (by simp)]; simp only [spec_ReadBlade.j0, if_true], by simp⟩
      | true =>
        rw [if_pos rfl]
        simp only [spec_ReadBlade.j0]
        by_cases h3 : xs.length = 3
        · obtain ⟨b, hv, _⟩ := blade_eq (bs a) (rd xs 0) (rd xs 1) (rd xs 2)
          rw [if_neg (show ¬ (((xs.length : Int) != 3) = true) by simp; omega), if_pos (by simp), if_pos (by omega), if_pos (by omega), if_pos (by omega), show rdOf ByteArray.empty (List.map bs [a, r]) 0 = bs a from rfl, (hv k (by omega)).1]
          simp only [h3, and_self, if_true, (hv (k + 1) (by omega)).2, Option.bind_some]
          cases b <;> simp
        · rw [if_pos (show (((xs.length : Int) != 3) = true) by simp; omega)]
          simp only [h3, and_false, if_false]
          exact ⟨_, rfl, rfl⟩
    · rw [if_neg (by omega), hn2 h2]
      exact ⟨_, rfl, rfl⟩
  obtain ⟨r, h1, h2⟩ := key
  rw [h1, h2]
  simp only [Option.bind_some]
  unfold laws_eqBlade.f
  simp

end Go.Proofs.YtjmjbmahljlnlaaDoor.Pure

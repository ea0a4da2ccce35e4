/- FnExactTurnsOfPiece: the program's TurnsOfPiece returns what the reference's returns, for all arguments; no condition. -/
import Derived.Test.YtakagkflgkoiiaaGFnExactTurnsOfPiecex
namespace Go.Proofs.Ytakagkflgkoiiaa.Pure
open Go.RowKit Go.Proofs.Ytakagkflgkoiiaa.GFnExactTurnsOfPiece Go.Proofs.YtakagkflgkoiiaaW.PrintWords Go.Proofs.YtakagkflgkoiiaaW.PrintLast
set_option linter.unusedSimpArgs false
set_option linter.unusedVariables false
theorem w64 {x : Int} (h0 : -9223372036854775808 ≤ x) (h1 : x ≤ 9223372036854775807) : wrap64 x = x := by
 unfold wrap64; omega
theorem within_eq (a b c : Int) : impl_within.f a b c = some (decide (b ≤ a ∧ a ≤ c)) := by
 unfold impl_within.f
 by_cases h : a ≥ b
 · rw [if_pos h]; simp [h]
 · rw [if_neg h]; simp; omega
theorem l00In_eq (a b c : Int) : spec_l00In.f a b c = some (decide (b ≤ a ∧ a ≤ c)) := by
 unfold spec_l00In.f
 by_cases h : a ≥ b
 · rw [if_pos h]; simp [h]
 · rw [if_neg h]; simp; omega
/-- a row that is made and then filled, element by element -/
theorem loop_map {α β : Type} (xs : List α) (z : β) (c : α → β) (L : Nat → List β → Int → Option (List β))
 (hs : ∀ (k : Nat) (s : List β) (i : Nat) (h : i < xs.length), s.length = xs.length → L (k + 1) s (i : Int) = L k (s.set i (c xs[i])) ((i + 1 : Nat) : Int))
 (he : ∀ (k : Nat) (s : List β), L (k + 1) s (xs.length : Int) = some s) (k : Nat) (hk : xs.length < k) :
 L k (List.replicate xs.length z) 0 = some (xs.map c) := by
 have key : ∀ (n i k : Nat) (s : List β), i + n = xs.length → n < k → s.length = xs.length → s.take i = (xs.map c).take i → L k s (i : Int) = some (xs.map c) := by
  intro n
  induction n with
  | zero =>
   intro i k s hi hk hl ht
   obtain ⟨k, rfl⟩ : ∃ m, k = m + 1 := ⟨k - 1, by omega⟩
   obtain rfl : i = xs.length := by omega
   have h1 : s.take xs.length = s := List.take_of_length_le (by omega)
   rw [he, ← h1, ht, List.take_of_length_le (by simp)]
  | succ n ih =>
   intro i k s hi hk hl ht
   obtain ⟨k, rfl⟩ : ∃ m, k = m + 1 := ⟨k - 1, by omega⟩
   have hlt : i < xs.length := by omega
   rw [hs k s i hlt hl]
   refine ih (i + 1) k _ (by omega) (by omega) (by rw [List.length_set]; exact hl) ?_
   rw [List.take_succ_eq_append_getElem (by rw [List.length_set]; omega), List.take_succ_eq_append_getElem (by rw [List.length_map]; omega), List.take_set_of_le (by omega), ht]
   simp
 have := key xs.length 0 k (List.replicate xs.length z) (by omega) hk (by simp) (by simp)
 simpa using this
theorem wnat {n : Nat} (h : n < 9223372036854775807) : wrap64 ((n : Int) + 1) = ((n + 1 : Nat) : Int) := by
 unfold wrap64; omega
theorem loop_all {β : Type} (n K0 : Nat) (L : Nat → Int → Option β) (r : β) (hs : ∀ (k i : Nat), K0 ≤ k → i < n → L (k + 1) (i : Int) = L k ((i + 1 : Nat) : Int)) (he : ∀ k : Nat, L (k + 1) (n : Int) = some r)
 (k : Nat) (hk : K0 + n < k) : L k 0 = some r := by
 have key : ∀ (m i k : Nat), i + m = n → K0 + m < k → L k (i : Int) = some r := by
  intro m
  induction m with
  | zero =>
   intro i k hi hk
   obtain ⟨k, rfl⟩ : ∃ m, k = m + 1 := ⟨k - 1, by omega⟩
   obtain rfl : i = n := by omega
   exact he k
  | succ m ih =>
   intro i k hi hk
   obtain ⟨k, rfl⟩ : ∃ m, k = m + 1 := ⟨k - 1, by omega⟩
   rw [hs k i (by omega) (by omega)]
   exact ih (i + 1) k (by omega) (by omega)
 simpa using key n 0 k (by omega) hk
theorem idx_from {α : Type} (xs : List α) (K0 : Nat) (q : α → Bool) (L : Nat → Int → Option Int)
 (hs : ∀ (k i : Nat) (h : i < xs.length), K0 ≤ k → L (k + 1) (i : Int) = if q xs[i] = true then some (i : Int) else L k ((i + 1 : Nat) : Int))
 (he : ∀ k : Nat, K0 ≤ k → L (k + 1) (xs.length : Int) = some (-1)) : ∀ (n i k : Nat), i + n = xs.length → K0 + n < k → ∃ r, L k (i : Int) = some r ∧ decide (r ≥ 0) = (xs.drop i).any q := by
 intro n
 induction n with
 | zero =>
  intro i k hi hk
  obtain ⟨k, rfl⟩ : ∃ m, k = m + 1 := ⟨k - 1, by omega⟩
  obtain rfl : i = xs.length := by omega
  exact ⟨-1, he k (by omega), by rw [List.drop_length]; rfl⟩
 | succ n ih =>
  intro i k hi hk
  obtain ⟨k, rfl⟩ : ∃ m, k = m + 1 := ⟨k - 1, by omega⟩
  have hlt : i < xs.length := by omega
  rw [hs k i hlt (by omega), List.drop_eq_getElem_cons hlt, List.any_cons]
  cases hp : q xs[i] with
  | true => exact ⟨i, by rw [if_pos rfl], by simp⟩
  | false =>
   obtain ⟨r, h1, h2⟩ := ih (i + 1) k (by omega) (by omega)
   exact ⟨r, by rw [if_neg (by simp)]; exact h1, by rw [h2]; simp⟩
theorem idx_loop {α : Type} (xs : List α) (K0 : Nat) (q : α → Bool) (L : Nat → Int → Option Int)
 (hs : ∀ (k i : Nat) (h : i < xs.length), K0 ≤ k → L (k + 1) (i : Int) = if q xs[i] = true then some (i : Int) else L k ((i + 1 : Nat) : Int))
 (he : ∀ k : Nat, K0 ≤ k → L (k + 1) (xs.length : Int) = some (-1)) (k : Nat) (hk : K0 + xs.length < k) : ∃ r, L k 0 = some r ∧ decide (r ≥ 0) = xs.any q := by
 simpa using idx_from xs K0 q L hs he xs.length 0 k (by omega) hk
theorem rdi (xs : List Int) (i : Nat) (h : i < xs.length) : rd xs (i : Int) = xs[i] := by
 unfold rd; simp [List.getD, h]
theorem eqInt64S_eq (l : List Int) (hl : l.length ≤ 1048576) (k : Nat) (hk : l.length < k) : laws_eqInt64S.f k l l = some true := by
 unfold laws_eqInt64S.f
 rw [if_pos rfl]
 refine loop_all l.length 0 (fun k i => laws_eqInt64S.l0 k l l i) true ?_ ?_ k (by omega)
 · intro k i _ h
   simp only [laws_eqInt64S.l0]
   rw [if_pos (by omega), if_pos (by omega), if_pos (by omega), wnat (by omega)]; simp
 · intro k
   simp only [laws_eqInt64S.l0]
   rw [if_neg (by omega)]
def upTo : Nat → Int → List Int
 | 0, _ => []
 | n + 1, m => m :: upTo n (m + 1)
theorem upTo_len : ∀ (n : Nat) (m : Int), (upTo n m).length = n
 | 0, _ => rfl
 | n + 1, m => by simp [upTo, upTo_len n]
theorem upTo_get : ∀ (n : Nat) (m : Int) (i : Nat) (h : i < (upTo n m).length), (upTo n m)[i] = m + i
 | 0, m, i, h => by simp [upTo] at h
 | n + 1, m, 0, h => by simp [upTo]
 | n + 1, m, i + 1, h => by
  have h' : i < (upTo n (m + 1)).length := by simpa [upTo] using h
  have := upTo_get n (m + 1) i h'
  simp only [upTo, List.getElem_cons_succ, this]; omega
theorem markInts_eq (l : List Int) (hl : l.length ≤ 1048576) (m : Int) (h0 : 0 ≤ m) (h1 : m ≤ 100000000) (k : Nat) (hk : l.length < k) : laws_markInt64S.f k l m = some (m + l.length, upTo l.length m) := by
 have key : ∀ (n i k : Nat) (s : List Int), i + n = l.length → n < k → s.length = l.length → s.take i = (upTo l.length m).take i →
  laws_markInt64S.l0 k s (m + i) (i : Int) = some (m + l.length, upTo l.length m) := by
  intro n
  induction n with
  | zero =>
   intro i k s hi hk hs ht
   obtain ⟨k, rfl⟩ : ∃ m, k = m + 1 := ⟨k - 1, by omega⟩
   obtain rfl : i = l.length := by omega
   simp only [laws_markInt64S.l0]
   have e : s = upTo l.length m := by
    rw [List.take_of_length_le (by omega), List.take_of_length_le (by rw [upTo_len]; omega)] at ht; exact ht
   rw [if_neg (by omega), e]
  | succ n ih =>
   intro i k s hi hk hs ht
   obtain ⟨k, rfl⟩ : ∃ m, k = m + 1 := ⟨k - 1, by omega⟩
   simp only [laws_markInt64S.l0]
   rw [if_pos (by omega), if_pos (by omega), w64 (x := m + i + 1) (by omega) (by omega), wnat (by omega)]
   have hh := ih (i + 1) k (s.set (i : Int).toNat (m + i)) (by omega) (by omega) (by rw [List.length_set]; exact hs) (by
    have hlt : i < (upTo l.length m).length := by rw [upTo_len]; omega
    rw [List.take_succ_eq_append_getElem (by rw [List.length_set]; omega), List.take_succ_eq_append_getElem hlt, List.take_set_of_le (by omega), ht, upTo_get _ _ _ hlt]
    simp)
   rw [show m + ((i + 1 : Nat) : Int) = m + i + 1 by omega] at hh
   exact hh
 have := key l.length 0 k l (by omega) hk rfl (by simp)
 unfold laws_markInt64S.f
 simpa using this
theorem heldInts_eq (n : Nat) (hn : n ≤ 1048576) (m : Int) (h0 : 0 ≤ m) (h1 : m ≤ 100000000) (k : Nat) (hk : n < k) : laws_heldInt64S.f k (upTo n m) m = some (m + n) := by
 have key : ∀ (d i k : Nat), i + d = n → d < k → laws_heldInt64S.l0 k (upTo n m) (m + i) (i : Int) = some (m + n) := by
  intro d
  induction d with
  | zero =>
   intro i k hi hk
   obtain ⟨k, rfl⟩ : ∃ m, k = m + 1 := ⟨k - 1, by omega⟩
   obtain rfl : i = n := by omega
   simp only [laws_heldInt64S.l0]
   rw [if_neg (by rw [upTo_len]; omega)]
  | succ d ih =>
   intro i k hi hk
   obtain ⟨k, rfl⟩ : ∃ m, k = m + 1 := ⟨k - 1, by omega⟩
   simp only [laws_heldInt64S.l0]
   have hlt : i < (upTo n m).length := by rw [upTo_len]; omega
   rw [if_pos (by omega), if_pos (by omega), rdi _ i hlt, upTo_get _ _ _ hlt, if_pos rfl, w64 (x := m + i + 1) (by omega) (by omega), wnat (by omega)]
   have hh := ih (i + 1) k (by omega) (by omega)
   rw [show m + ((i + 1 : Nat) : Int) = m + i + 1 by omega] at hh
   exact hh
 have := key n 0 k (by omega) hk
 unfold laws_heldInt64S.f
 simpa using this
theorem nil_iff (s : ByteArray) : s.toList = [] ↔ s.size = 0 := by
 rw [ByteArray.toList_eq]
 constructor
 · intro h
   have : s.data.toList.length = 0 := by rw [h]; rfl
   rw [Array.length_toList] at this; exact this
 · intro h
   apply List.eq_nil_of_length_eq_zero
   rw [Array.length_toList]; exact h
theorem small_eq (c : Int) : spec_l01Small.f c = some (decide (97 ≤ c ∧ c ≤ 122)) := by
 unfold spec_l01Small.f
 by_cases h : c ≥ 97
 · rw [if_pos h]; simp [h]
 · rw [if_neg h]; simp; omega
theorem digit_eq (c : Int) : spec_l01Digit.f c = some (decide (48 ≤ c ∧ c ≤ 57)) := by
 unfold spec_l01Digit.f
 by_cases h : c ≥ 48
 · rw [if_pos h]; simp [h]
 · rw [if_neg h]; simp; omega
theorem name_loop (s : ByteArray) (hs : s.size ≤ 10) : ∀ (n i k : Nat), i + n = s.size → n < k →
 ∃ b, spec_l01Name.l0 k s (i : Int) = some b ∧ impl_IsName.l0 k s (i : Int) = some b := by
 intro n
 induction n with
 | zero =>
  intro i k hi hk
  obtain ⟨k, rfl⟩ : ∃ m, k = m + 1 := ⟨k - 1, by omega⟩
  simp only [spec_l01Name.l0, impl_IsName.l0]
  exact ⟨true, by rw [if_neg (by omega)], by rw [if_neg (by omega)]⟩
 | succ n ih =>
  intro i k hi hk
  obtain ⟨k, rfl⟩ : ∃ m, k = m + 1 := ⟨k - 1, by omega⟩
  obtain ⟨b, e1, e2⟩ := ih (i + 1) k (by omega) (by omega)
  have hw : wrap64 ((i : Int) + 1) = ((i + 1 : Nat) : Int) := wnat (by omega)
  have a1 : (i : Int) < (s.size : Int) := by omega
  have a2 : (0 : Int) ≤ (i : Int) := by omega
  simp only [spec_l01Name.l0, impl_IsName.l0, small_eq, digit_eq, Option.bind_some, decide_eq_true_eq, a1, a2, if_true, hw, e1, e2]
  generalize bt s (i : Int) = c
  by_cases h1 : c < 97
  · by_cases h2 : c < 48
    · exact ⟨false, by simp [h1, h2, show ¬ (97 ≤ c ∧ c ≤ 122) by omega, show ¬ (48 ≤ c ∧ c ≤ 57) by omega], by simp [h1, h2]⟩
    · by_cases h3 : c > 57
      · exact ⟨false, by simp [show ¬ (97 ≤ c ∧ c ≤ 122) by omega, show ¬ (48 ≤ c ∧ c ≤ 57) by omega], by simp [h1, h2, h3]⟩
      · exact ⟨b, by simp [show ¬ (97 ≤ c ∧ c ≤ 122) by omega, show (48 ≤ c ∧ c ≤ 57) by omega], by simp [h1, h2, h3]⟩
  · by_cases h4 : c > 122
    · exact ⟨false, by simp [show ¬ (97 ≤ c ∧ c ≤ 122) by omega, show ¬ (48 ≤ c ∧ c ≤ 57) by omega], by simp [h1, h4, show ¬ (c < 48) by omega, show c > 57 by omega]⟩
    · exact ⟨b, by simp [show (97 ≤ c ∧ c ≤ 122) by omega], by simp [h1, h4]⟩
theorem name_eq (s : ByteArray) : ∃ b : Bool, (∀ k, 13 ≤ k → spec_l01Name.f k s = some b ∧ impl_IsName.f k s = some b) := by
 have fin : ∃ b : Bool, spec_l01Name.f 13 s = some b ∧ impl_IsName.f 13 s = some b := by
  unfold spec_l01Name.f impl_IsName.f
  by_cases h0 : s.size = 0
  · exact ⟨false, by simp [(nil_iff s).2 h0, spec_l01Name.j0], by simp [show (s.size : Int) < 1 by omega, impl_IsName.j0]⟩
  · have n0 : ¬ s.toList = [] := fun h => h0 ((nil_iff s).1 h)
    have n1 : ¬ (s.size : Int) < 1 := by omega
    by_cases h1 : (s.size : Int) > 10
    · exact ⟨false, by simp [n0, h1, spec_l01Name.j0], by simp [n1, h1, impl_IsName.j0]⟩
    · have n2 : (0 : Int) < (s.size : Int) := by omega
      simp only [n0, n1, h1, n2, if_true, if_false, small_eq, Option.bind_some]
      obtain ⟨b, e1, e2⟩ := name_loop s (by omega) s.size 0 12 (by omega) (by omega)
      have e1' : spec_l01Name.l0 12 s 0 = some b := e1
      have e2' : impl_IsName.l0 12 s 0 = some b := e2
      generalize bt s 0 = c
      by_cases h2 : c < 97
      · exact ⟨false, by simp [spec_l01Name.j0, show ¬ (97 ≤ c ∧ c ≤ 122) by omega], by simp [impl_IsName.j0, h2]⟩
      · by_cases h3 : c > 122
        · exact ⟨false, by simp [spec_l01Name.j0, show ¬ (97 ≤ c ∧ c ≤ 122) by omega], by simp [impl_IsName.j0, h2, h3]⟩
        · exact ⟨b, by simp [spec_l01Name.j0, show (97 ≤ c ∧ c ≤ 122) by omega, e1'], by simp [impl_IsName.j0, h2, show ¬ (c > 122) by omega, e2']⟩
 obtain ⟨b, e1, e2⟩ := fin
 exact ⟨b, fun k hk => ⟨at_rounds (g := fun k => spec_l01Name.f k s) (fun k => spec_l01Name.mono s k) hk e1, at_rounds (g := fun k => impl_IsName.f k s) (fun k => impl_IsName.mono s k) hk e2⟩⟩
theorem rd105 (xs : List S105) (i : Nat) (h : i < xs.length) : rd_T105 xs (i : Int) = xs[i] := by
 unfold rd_T105; simp [List.getD, h]
theorem rd123 (xs : List S123) (i : Nat) (h : i < xs.length) : rd_T123 xs (i : Int) = xs[i] := by
 unfold rd_T123; simp [List.getD, h]
def toPt (x : S123) : S105 := ⟨x.f0, x.f1⟩
theorem toPointS_eq (l : List S123) (hl : l.length ≤ 1048576) (k : Nat) (hk : l.length < k) : laws_toPointS.f k l = some (l.map toPt) := by
 unfold laws_toPointS.f
 rw [if_pos (by omega), if_pos (by omega), show ((l.length : Int)).toNat = l.length by omega]
 refine loop_map l z105 toPt (fun k s i => laws_toPointS.l0 k l s i) ?_ ?_ k hk
 · intro k s i h hs
   simp only [laws_toPointS.l0]
   rw [if_pos (by omega), if_pos (by omega), rd123 l i h]
   unfold laws_toPoint.f
   simp only [Option.bind_some]
   rw [if_pos (by omega), wnat (by omega)]
   rfl
 · intro k s
   simp only [laws_toPointS.l0]
   rw [if_neg (by omega)]
theorem eqPointS_eq (l : List S105) (hl : l.length ≤ 1048576) (k : Nat) (hk : l.length < k) : laws_eqPointS.f k l l = some true := by
 unfold laws_eqPointS.f
 rw [if_pos rfl]
 refine loop_all l.length 0 (fun k i => laws_eqPointS.l0 k l l i) true ?_ ?_ k (by omega)
 · intro k i _ h
   simp only [laws_eqPointS.l0]
   rw [if_pos (by omega), if_pos (by omega), if_pos (by omega)]
   unfold laws_eqPoint.f
   simp only [if_true, Option.bind_some]
   rw [wnat (by omega)]
 · intro k
   simp only [laws_eqPointS.l0]
   rw [if_neg (by omega)]
theorem szPointS_eq (l : List S123) (a : Int) (ha : 0 ≤ a) (ha2 : a ≤ 1048576) (hl : l.length ≤ maxLen) : laws_szPointS.f l a = some (if a < l.length then -1 else a - l.length) := by
 unfold maxLen at hl
 unfold laws_szPointS.f
 rw [w64 (x := a - l.length) (by omega) (by omega)]
 by_cases h : a < l.length
 · rw [if_pos (by omega), if_pos h]
 · rw [if_neg (by omega), if_neg h]
theorem szPiece_eq (s : ByteArray) (l : List S123) (c : Int) (d : Bool) (a : Int) (ha : 0 ≤ a) (ha2 : a ≤ 1048576) (hs : s.size ≤ maxLen) (hl : l.length ≤ maxLen) :
 ∃ v, laws_szPiece.f s l c d a = some v ∧ (v < 0 ∨ 0 ≤ v ∧ v ≤ a ∧ l.length ≤ 1048576) := by
 unfold maxLen at hs
 unfold laws_szPiece.f
 rw [w64 (x := a - s.size) (by omega) (by omega)]
 by_cases h : a - s.size < 0
 · rw [if_pos h]; exact ⟨_, rfl, .inl (by omega)⟩
 · rw [if_neg h, szPointS_eq l _ (by omega) (by omega) hl]
   simp only [Option.bind_some]
   by_cases h2 : a - s.size < l.length
   · rw [if_pos h2, if_pos (by omega)]; exact ⟨_, rfl, .inl (by omega)⟩
   · rw [if_neg h2, if_neg (by omega)]; exact ⟨_, rfl, .inr ⟨by omega, by omega, by omega⟩⟩
def mnf (t x : Int) : Int := if t < x then t else x
theorem mn_eq (t x : Int) : mn t x = mnf t x := by
 unfold mn mnf
 by_cases h : t < x
 · rw [if_neg (by omega), if_pos h]
 · rw [if_neg h]
   by_cases h2 : x < t
   · rw [if_pos h2]
   · rw [if_neg h2]; omega
def lowX (l : List S105) (t : Int) : Int := l.foldl (fun t p => mnf t p.f0) t
def lowY (l : List S105) (t : Int) : Int := l.foldl (fun t p => mnf t p.f1) t
theorem specBounds (l : List S105) (hl : l.length ≤ 100) : ∀ (n i : Nat) (a b c d : Int), i + n = l.length → ∃ u v, ∀ k, n < k → spec_l03Bounds.l0 k l (i : Int) a b c d = some (lowX (l.drop i) a, lowY (l.drop i) b, u, v) := by
 intro n
 induction n with
 | zero =>
  intro i a b c d hi
  refine ⟨c, d, fun k hk => ?_⟩
  obtain ⟨k, rfl⟩ : ∃ m, k = m + 1 := ⟨k - 1, by omega⟩
  obtain rfl : i = l.length := by omega
  simp only [spec_l03Bounds.l0]
  rw [if_neg (by omega), List.drop_length]; rfl
 | succ n ih =>
  intro i a b c d hi
  have hlt : i < l.length := by omega
  obtain ⟨u, v, e⟩ := ih (i + 1) (mnf a l[i].f0) (mnf b l[i].f1) (if c > l[i].f0 then c else l[i].f0) (if d > l[i].f1 then d else l[i].f1) (by omega)
  refine ⟨u, v, fun k hk => ?_⟩
  obtain ⟨k, rfl⟩ : ∃ m, k = m + 1 := ⟨k - 1, by omega⟩
  have m1 : ∀ x y : Int, spec_l00Min.f x y = some (mnf x y) := fun x y => by
   unfold spec_l00Min.f mnf; split <;> rfl
  have m2 : ∀ x y : Int, spec_l00Max.f x y = some (if x > y then x else y) := fun x y => by
   unfold spec_l00Max.f; split <;> rfl
  simp only [spec_l03Bounds.l0]
  rw [if_pos (by omega), if_pos (by omega), rd105 l i hlt, m1, m1, m2, m2, wnat (by omega)]
  simp only [Option.bind_some]
  rw [e k (by omega), List.drop_eq_getElem_cons hlt]
  rfl
theorem implBounds (l : List S105) (hl : l.length ≤ 100) : ∀ (n i : Nat) (a b c d : Int), i + n = l.length → ∃ u v, ∀ k, n < k → impl_bounds.l0 k l (l.length : Int) (i : Int) a b c d = some (lowX (l.drop i) a, lowY (l.drop i) b, u, v) := by
 intro n
 induction n with
 | zero =>
  intro i a b c d hi
  refine ⟨c, d, fun k hk => ?_⟩
  obtain ⟨k, rfl⟩ : ∃ m, k = m + 1 := ⟨k - 1, by omega⟩
  obtain rfl : i = l.length := by omega
  simp only [impl_bounds.l0]
  rw [if_neg (by omega), List.drop_length]; rfl
 | succ n ih =>
  intro i a b c d hi
  have hlt : i < l.length := by omega
  obtain ⟨u, v, e⟩ := ih (i + 1) (mnf a l[i].f0) (mnf b l[i].f1) (mx c l[i].f0) (mx d l[i].f1) (by omega)
  refine ⟨u, v, fun k hk => ?_⟩
  obtain ⟨k, rfl⟩ : ∃ m, k = m + 1 := ⟨k - 1, by omega⟩
  simp only [impl_bounds.l0]
  rw [if_pos (by omega), if_pos (by omega), if_pos (by omega), rd105 l i hlt, mn_eq, mn_eq, wnat (by omega), e k (by omega), List.drop_eq_getElem_cons hlt]
  rfl
theorem bounds_eq (l : List S105) (hl : l.length ≤ 100) (hp : 0 < l.length) : ∃ x y u v u' v', ∀ k, 101 < k → spec_l03Bounds.f k l = some (x, y, u, v) ∧ impl_bounds.f k l = some (x, y, u', v') := by
 have hc := List.drop_eq_getElem_cons hp
 rw [List.drop_zero] at hc
 obtain ⟨u, v, e⟩ := specBounds l hl (l.length - 1) 1 l[0].f0 l[0].f1 l[0].f0 l[0].f1 (by omega)
 obtain ⟨u', v', e'⟩ := implBounds l hl l.length 0 l[0].f0 l[0].f1 l[0].f0 l[0].f1 (by omega)
 refine ⟨lowX (l.drop 1) l[0].f0, lowY (l.drop 1) l[0].f1, u, v, u', v', fun k hk => ⟨?_, ?_⟩⟩
 · unfold spec_l03Bounds.f
   rw [if_pos (by omega), show rd_T105 l 0 = l[0] from rd105 l 0 hp]
   exact e k (by omega)
 · unfold impl_bounds.f
   rw [if_pos (by omega), show rd_T105 l 0 = l[0] from rd105 l 0 hp]
   have := e' k (by omega)
   rw [show ((0 : Nat) : Int) = 0 from rfl] at this
   rw [this, List.drop_zero]
   have f1 : lowX l l[0].f0 = lowX (l.drop 1) l[0].f0 := by
    have h : lowX (l[0] :: l.drop (0 + 1)) l[0].f0 = lowX (l.drop 1) l[0].f0 := by
     show lowX (l.drop (0 + 1)) (mnf l[0].f0 l[0].f0) = _
     simp [mnf]
    rwa [← hc] at h
   have f2 : lowY l l[0].f1 = lowY (l.drop 1) l[0].f1 := by
    have h : lowY (l[0] :: l.drop (0 + 1)) l[0].f1 = lowY (l.drop 1) l[0].f1 := by
     show lowY (l.drop (0 + 1)) (mnf l[0].f1 l[0].f1) = _
     simp [mnf]
    rwa [← hc] at h
   rw [f1, f2]
def in5 (p : S105) : Prop := (0 ≤ p.f0 ∧ p.f0 ≤ 5) ∧ (0 ≤ p.f1 ∧ p.f1 ≤ 5)
def before (p q : S105) : Prop := p.f1 < q.f1 ∨ (p.f1 = q.f1 ∧ p.f0 < q.f0)
theorem before_spec (p q : S105) : ∃ b : Bool, spec_l19Before.f p.f0 p.f1 q.f0 q.f1 = some b ∧ (b = true ↔ before p q) := by
 unfold spec_l19Before.f before
 by_cases h1 : p.f1 < q.f1
 · exact ⟨true, by rw [if_pos h1], by simp [h1]⟩
 · by_cases h2 : p.f1 = q.f1
   · exact ⟨decide (p.f0 < q.f0), by rw [if_neg h1, if_pos h2], by simp [h2]⟩
   · exact ⟨false, by rw [if_neg h1, if_neg h2], by simp [h1, h2]⟩
theorem before_impl (p q : S105) (hp : in5 p) (hq : in5 q) : ∃ c : Int, impl_compareCells.f p.f0 p.f1 q.f0 q.f1 = some c ∧ (c < 0 ↔ before p q) := by
 obtain ⟨⟨a0, a1⟩, b0, b1⟩ := hp
 obtain ⟨⟨c0, c1⟩, d0, d1⟩ := hq
 unfold impl_compareCells.f before
 by_cases h2 : p.f1 = q.f1
 · exact ⟨p.f0 - q.f0, by rw [if_pos h2, w64 (by omega) (by omega)], by omega⟩
 · exact ⟨p.f1 - q.f1, by rw [if_neg h2, w64 (by omega) (by omega)], by omega⟩
theorem piece_loop (p : S53) (hn : p.f1.length ≤ 6) (hp : 1 ≤ p.f1.length) : ∀ (n i : Nat), i + n = p.f1.length → (∀ (j : Nat) (h : j < p.f1.length), j < i → in5 p.f1[j]) → ∃ b : Bool, (b = true → ∀ (j : Nat) (h : j < p.f1.length), in5 p.f1[j]) ∧ ∀ k, 200 + n < k → spec_l19Piece.l0 k (i : Int) [p] = some b ∧ impl_validPiece.l0 k p.f1 (p.f1.length : Int) (i : Int) p.f0 p.f1 p.f2 p.f3 = some b := by
 have r : rd_T53 [p] 0 = p := rfl
 intro n
 induction n with
 | zero =>
  intro i hi hj
  obtain ⟨x, y, u, v, u', v', e⟩ := bounds_eq p.f1 (by omega) (by omega)
  refine ⟨x == 0 && y == 0, fun _ j h => hj j h (by omega), fun k hk => ?_⟩
  obtain ⟨k, rfl⟩ : ∃ m, k = m + 1 := ⟨k - 1, by omega⟩
  obtain ⟨e1, e2⟩ := e k (by omega)
  constructor
  · simp only [spec_l19Piece.l0, r, e1, Option.bind_some]
    rw [if_pos (by simp), if_neg (by omega)]
    by_cases hx : x = 0
    · rw [if_pos hx]; simp [hx]
    · rw [if_neg hx]; simp [hx]
  · simp only [impl_validPiece.l0, e2, Option.bind_some]
    rw [if_neg (by omega)]
 | succ n ih =>
  intro i hi hj
  have hlt : i < p.f1.length := by omega
  have step : ∀ k, 200 + n < k → spec_l19Piece.l0 (k + 1) (i : Int) [p] = (if 0 ≤ p.f1[i].f0 ∧ p.f1[i].f0 ≤ 5 then (if 0 ≤ p.f1[i].f1 ∧ p.f1[i].f1 ≤ 5 then (if (i : Int) > 0 then (spec_l19Before.f (rd_T105 p.f1 ((i : Int) - 1)).f0 (rd_T105 p.f1 ((i : Int) - 1)).f1 p.f1[i].f0 p.f1[i].f1).bind fun t => if t = true then spec_l19Piece.l0 k ((i + 1 : Nat) : Int) [p] else some false else spec_l19Piece.l0 k ((i + 1 : Nat) : Int) [p]) else some false) else some false) ∧
   impl_validPiece.l0 (k + 1) p.f1 (p.f1.length : Int) (i : Int) p.f0 p.f1 p.f2 p.f3 = (if 0 ≤ p.f1[i].f0 ∧ p.f1[i].f0 ≤ 5 then (if 0 ≤ p.f1[i].f1 ∧ p.f1[i].f1 ≤ 5 then (if (i : Int) > 0 then (impl_compareCells.f (rd_T105 p.f1 ((i : Int) - 1)).f0 (rd_T105 p.f1 ((i : Int) - 1)).f1 p.f1[i].f0 p.f1[i].f1).bind fun t => if t ≥ 0 then some false else impl_validPiece.l0 k p.f1 (p.f1.length : Int) ((i + 1 : Nat) : Int) p.f0 p.f1 p.f2 p.f3 else impl_validPiece.l0 k p.f1 (p.f1.length : Int) ((i + 1 : Nat) : Int) p.f0 p.f1 p.f2 p.f3) else some false) else some false) := by
   intro k hk
   have a0 : (i : Int) < (p.f1.length : Int) := by omega
   have a1 : (0 : Int) ≤ (i : Int) := by omega
   have a2 : (0 : Int) < (([p] : List S53).length : Int) := by simp
   have a3 : wrap64 ((i : Int) + 1) = ((i + 1 : Nat) : Int) := wnat (by omega)
   have a4 : wrap64 ((i : Int) - 1) = (i : Int) - 1 := w64 (by omega) (by omega)
   constructor
   · simp only [spec_l19Piece.l0, r, l00In_eq, Option.bind_some, decide_eq_true_eq, a0, a1, a2, a3, a4, if_true, rd105 p.f1 i hlt]
     by_cases h0 : (i : Int) > 0
     · simp only [h0, if_true, show (0 : Int) ≤ (i : Int) - 1 by omega, show (i : Int) - 1 < (p.f1.length : Int) by omega]
     · simp only [h0, if_false]
   · simp only [impl_validPiece.l0, within_eq, Option.bind_some, decide_eq_true_eq, a0, a1, a3, a4, if_true, rd105 p.f1 i hlt]
     by_cases h0 : (i : Int) > 0
     · simp only [h0, if_true, show (0 : Int) ≤ (i : Int) - 1 by omega, show (i : Int) - 1 < (p.f1.length : Int) by omega]
     · simp only [h0, if_false]
  by_cases h1 : 0 ≤ p.f1[i].f0 ∧ p.f1[i].f0 ≤ 5
  · by_cases h2 : 0 ≤ p.f1[i].f1 ∧ p.f1[i].f1 ≤ 5
    · obtain ⟨b, hb0, hb⟩ := ih (i + 1) (by omega) (fun j h hji => by
       by_cases e : j = i
       · subst e; exact ⟨h1, h2⟩
       · exact hj j h (by omega))
      by_cases h0 : (i : Int) > 0
      · obtain ⟨m, rfl⟩ : ∃ m, i = m + 1 := ⟨i - 1, by omega⟩
        have hm : m < p.f1.length := by omega
        have er : rd_T105 p.f1 (((m + 1 : Nat) : Int) - 1) = p.f1[m] := by rw [show ((m + 1 : Nat) : Int) - 1 = (m : Int) by omega]; exact rd105 p.f1 m hm
        obtain ⟨b1, f1, g1⟩ := before_spec p.f1[m] p.f1[m + 1]
        obtain ⟨c, f2, g2⟩ := before_impl p.f1[m] p.f1[m + 1] (hj m hm (by omega)) ⟨h1, h2⟩
        refine ⟨b1 && b, fun hbb => hb0 (by revert hbb; cases b1 <;> simp), fun k hk => ?_⟩
        obtain ⟨k, rfl⟩ : ∃ m, k = m + 1 := ⟨k - 1, by omega⟩
        obtain ⟨s1, s2⟩ := step k (by omega)
        obtain ⟨q1, q2⟩ := hb k (by omega)
        rw [s1, s2, if_pos h1, if_pos h2, if_pos h0, if_pos h1, if_pos h2, if_pos h0, er, f1, f2]
        simp only [Option.bind_some, q1, q2]
        by_cases hb1 : b1 = true
        · rw [if_pos hb1, if_neg (by have := g2.2 (g1.1 hb1); omega)]; simp [hb1]
        · have : ¬ c < 0 := fun h => hb1 (g1.2 (g2.1 h))
          rw [if_neg hb1, if_pos (by omega)]; simp [hb1]
      · refine ⟨b, hb0, fun k hk => ?_⟩
        obtain ⟨k, rfl⟩ : ∃ m, k = m + 1 := ⟨k - 1, by omega⟩
        obtain ⟨s1, s2⟩ := step k (by omega)
        obtain ⟨q1, q2⟩ := hb k (by omega)
        rw [s1, s2, if_pos h1, if_pos h2, if_neg h0, if_pos h1, if_pos h2, if_neg h0]
        exact ⟨q1, q2⟩
    · refine ⟨false, (by intro h; cases h), fun k hk => ?_⟩
      obtain ⟨k, rfl⟩ : ∃ m, k = m + 1 := ⟨k - 1, by omega⟩
      obtain ⟨s1, s2⟩ := step k (by omega)
      rw [s1, s2, if_pos h1, if_neg h2, if_pos h1, if_neg h2]
      exact ⟨rfl, rfl⟩
  · refine ⟨false, (by intro h; cases h), fun k hk => ?_⟩
    obtain ⟨k, rfl⟩ : ∃ m, k = m + 1 := ⟨k - 1, by omega⟩
    obtain ⟨s1, s2⟩ := step k (by omega)
    rw [s1, s2, if_neg h1, if_neg h1]
    exact ⟨rfl, rfl⟩
theorem piece_eq (p : S53) : ∃ b : Bool, (b = true → (1 ≤ p.f1.length ∧ p.f1.length ≤ 6) ∧ ∀ q ∈ p.f1, in5 q) ∧ ∀ k, 300 < k → spec_l19Piece.f k [p] = some b ∧ impl_validPiece.f k p.f0 p.f1 p.f2 p.f3 = some b := by
 have r : rd_T53 [p] 0 = p := rfl
 obtain ⟨nb, hnb⟩ := name_eq p.f0
 by_cases hok : nb = true ∧ (1 ≤ (p.f1.length : Int) ∧ (p.f1.length : Int) ≤ 6) ∧ (0 ≤ p.f2 ∧ p.f2 ≤ 24)
 · obtain ⟨h1, h2, h3⟩ := hok
   obtain ⟨b, hb0, hb⟩ := piece_loop p (by omega) (by omega) p.f1.length 0 (by omega) (fun j h hj => by omega)
   refine ⟨b, fun h => ⟨by omega, fun q hq => by
    obtain ⟨j, hj, rfl⟩ := List.getElem_of_mem hq
    exact hb0 h j hj⟩, fun k hk => ?_⟩
   obtain ⟨k, rfl⟩ : ∃ m, k = m + 1 := ⟨k - 1, by omega⟩
   obtain ⟨e1, e2⟩ := hnb (k + 1) (by omega)
   obtain ⟨q1, q2⟩ := hb k (by omega)
   rw [show ((0 : Nat) : Int) = 0 from rfl] at q1 q2
   unfold spec_l19Piece.f impl_validPiece.f
   rw [if_pos (by simp), r, e1, e2]
   simp only [Option.bind_some, h1, if_true, l00In_eq, within_eq, decide_eq_true h2, decide_eq_true h3, Bool.not_true, spec_l19Piece.j0, impl_validPiece.j0, Bool.false_eq_true, if_false, q1, q2]
   rw [if_neg (by omega), if_neg (by omega)]
   simp
 · refine ⟨false, (by intro h; cases h), fun k hk => ?_⟩
   obtain ⟨k, rfl⟩ : ∃ m, k = m + 1 := ⟨k - 1, by omega⟩
   obtain ⟨e1, e2⟩ := hnb (k + 1) (by omega)
   unfold spec_l19Piece.f impl_validPiece.f
   rw [if_pos (by simp), r, e1, e2]
   simp only [Option.bind_some, l00In_eq, within_eq, spec_l19Piece.j0, impl_validPiece.j0, if_true]
   cases nb with
   | false => simp
   | true =>
    by_cases h2 : 1 ≤ (p.f1.length : Int) ∧ (p.f1.length : Int) ≤ 6
    · by_cases h3 : 0 ≤ p.f2 ∧ p.f2 ≤ 24
      · exact absurd ⟨rfl, h2, h3⟩ hok
      · rw [if_pos rfl, if_neg (by omega), if_neg (by omega)]
        simp [h2, h3]
    · by_cases h4 : (p.f1.length : Int) < 1
      · rw [if_pos rfl, if_pos h4]; simp [h2]
      · rw [if_pos rfl, if_neg h4, if_pos (by omega)]; simp [h2]
def rotP : Nat → Int → Int → Int × Int
 | 0, x, y => (x, y)
 | n + 1, x, y => rotP n (-y) x
theorem rotP_loop (L : Nat → Int → Int → Int → Option (Int × Int))
 (h1 : ∀ (k : Nat) (x y n : Int), 0 < n → n ≤ 4 → -10000 ≤ x → x ≤ 10000 → -10000 ≤ y → y ≤ 10000 → L (k + 1) n x y = L k (n - 1) (-y) x)
 (h0 : ∀ (k : Nat) (x y : Int), L (k + 1) 0 x y = some (x, y)) : ∀ (n : Nat) (x y : Int) (k : Nat), n ≤ 4 → n < k → -10000 ≤ x → x ≤ 10000 → -10000 ≤ y → y ≤ 10000 → L k (n : Int) x y = some (rotP n x y) := by
 intro n
 induction n with
 | zero =>
  intro x y k hn hk x0 x1 y0 y1
  obtain ⟨k, rfl⟩ : ∃ m, k = m + 1 := ⟨k - 1, by omega⟩
  exact h0 k x y
 | succ n ih =>
  intro x y k hn hk x0 x1 y0 y1
  obtain ⟨k, rfl⟩ : ∃ m, k = m + 1 := ⟨k - 1, by omega⟩
  rw [h1 k x y _ (by omega) (by omega) x0 x1 y0 y1, show ((n + 1 : Nat) : Int) - 1 = (n : Int) by omega]
  exact ih (-y) x k (by omega) (by omega) (by omega) (by omega) (by omega) (by omega)
def tp (t x y : Int) : Int × Int := rotP (t % 4).toNat (if t > 3 then -x else x) y
theorem rotP_in : ∀ (n : Nat) (x y B : Int), -B ≤ x → x ≤ B → -B ≤ y → y ≤ B → (-B ≤ (rotP n x y).1 ∧ (rotP n x y).1 ≤ B) ∧ (-B ≤ (rotP n x y).2 ∧ (rotP n x y).2 ≤ B)
 | 0, x, y, B, a, b, c, d => ⟨⟨a, b⟩, c, d⟩
 | n + 1, x, y, B, a, b, c, d => rotP_in n (-y) x B (by omega) (by omega) (by omega) (by omega)
theorem tp_in (t x y B : Int) (a : -B ≤ x) (b : x ≤ B) (c : -B ≤ y) (d : y ≤ B) : (-B ≤ (tp t x y).1 ∧ (tp t x y).1 ≤ B) ∧ (-B ≤ (tp t x y).2 ∧ (tp t x y).2 ≤ B) := by
 unfold tp
 by_cases h : t > 3
 · rw [if_pos h]; exact rotP_in _ _ _ B (by omega) (by omega) c d
 · rw [if_neg h]; exact rotP_in _ _ _ B a b c d
theorem specTp {t x y : Int} (ht : 0 ≤ t ∧ t ≤ 7) (hx : -1000 ≤ x ∧ x ≤ 1000) (hy : -1000 ≤ y ∧ y ≤ 1000) (k : Nat) (hk : 100 < k) : spec_l02Turned.f k x y t = some (tp t x y) := by
 obtain ⟨k, rfl⟩ : ∃ m, k = m + 1 := ⟨k - 1, by omega⟩
 have key : ∀ x' : Int, -1000 ≤ x' → x' ≤ 1000 → spec_l02Turned.j0 (k + 1) t x' y = some (rotP (t % 4).toNat x' y) := by
  intro x' x0 x1
  simp only [spec_l02Turned.j0]
  rw [Int.tmod_eq_emod_of_nonneg ht.1]
  have hl := rotP_loop (fun k n x y => spec_l02Turned.l0 k n x y) (by
   intro k x y n n0 n4 x0 x1 y0 y1
   simp only [spec_l02Turned.l0]
   rw [if_pos (by omega), w64 (x := -y) (by omega) (by omega), w64 (x := n - 1) (by omega) (by omega)]) (by
   intro k x y
   simp only [spec_l02Turned.l0]
   rw [if_neg (by omega)]) (t % 4).toNat x' y k (by omega) (by omega) (by omega) (by omega) (by omega) (by omega)
  rw [show (((t % 4).toNat : Nat) : Int) = t % 4 by omega] at hl
  exact hl
 unfold spec_l02Turned.f tp
 by_cases h : t ≥ 4
 · rw [if_pos h, if_pos (by omega), w64 (x := -x) (by omega) (by omega)]
   exact key _ (by omega) (by omega)
 · rw [if_neg h, if_neg (by omega)]
   exact key _ (by omega) (by omega)
theorem implTp {t x y : Int} (ht : 0 ≤ t ∧ t ≤ 7) (hx : -1000 ≤ x ∧ x ≤ 1000) (hy : -1000 ≤ y ∧ y ≤ 1000) (k : Nat) (hk : 100 < k) : impl_Turned.f k x y t = some (tp t x y) := by
 obtain ⟨k, rfl⟩ : ∃ m, k = m + 2 := ⟨k - 2, by omega⟩
 have key : ∀ x' : Int, -1000 ≤ x' → x' ≤ 1000 → impl_Turned.j1 (k + 1) t x' y = some (rotP (t % 4).toNat x' y) := by
  intro x' x0 x1
  simp only [impl_Turned.j1]
  rw [Int.tmod_eq_emod_of_nonneg ht.1]
  have hl := rotP_loop (fun k n x y => impl_Turned.l0 k n x y) (by
   intro k x y n n0 n4 x0 x1 y0 y1
   simp only [impl_Turned.l0]
   rw [if_pos (by omega), w64 (x := -y) (by omega) (by omega), w64 (x := n - 1) (by omega) (by omega)]) (by
   intro k x y
   simp only [impl_Turned.l0]
   rw [if_neg (by omega)]) (t % 4).toNat x' y k (by omega) (by omega) (by omega) (by omega) (by omega) (by omega)
  rw [show (((t % 4).toNat : Nat) : Int) = t % 4 by omega] at hl
  exact hl
 unfold impl_Turned.f tp
 rw [within_eq, within_eq, within_eq, decide_eq_true ht, decide_eq_true (show -20000 ≤ x ∧ x ≤ 20000 by omega), decide_eq_true (show -20000 ≤ y ∧ y ≤ 20000 by omega)]
 simp only [Option.bind_some, if_true, Bool.not_true, impl_Turned.j0, Bool.false_eq_true, if_false]
 by_cases h : t > 3
 · rw [if_pos h, if_pos h, w64 (x := -x) (by omega) (by omega)]
   exact key _ (by omega) (by omega)
 · rw [if_neg h, if_neg h]
   exact key _ (by omega) (by omega)
/-- a list that is built by appending, element by element -/
theorem app_loop {α β γ : Type} (xs : List α) (g : α → β) (K0 : Nat) (L : Nat → List β → Int → Option γ) (R : Option γ)
 (hs : ∀ (k : Nat) (out : List β) (i : Nat) (h : i < xs.length), K0 ≤ k → out.length = i → L (k + 1) out (i : Int) = L k (out ++ [g xs[i]]) ((i + 1 : Nat) : Int))
 (he : ∀ (k : Nat), K0 ≤ k → L (k + 1) (xs.map g) (xs.length : Int) = R) (k : Nat) (hk : K0 + xs.length < k) : L k [] 0 = R := by
 have key : ∀ (n i k : Nat), i + n = xs.length → K0 + n < k → L k ((xs.take i).map g) (i : Int) = R := by
  intro n
  induction n with
  | zero =>
   intro i k hi hk
   obtain ⟨k, rfl⟩ : ∃ m, k = m + 1 := ⟨k - 1, by omega⟩
   obtain rfl : i = xs.length := by omega
   rw [List.take_length, he k (by omega)]
  | succ n ih =>
   intro i k hi hk
   obtain ⟨k, rfl⟩ : ∃ m, k = m + 1 := ⟨k - 1, by omega⟩
   have hlt : i < xs.length := by omega
   rw [hs k _ i hlt (by omega) (by rw [List.length_map, List.length_take]; omega)]
   have := ih (i + 1) k (by omega) (by omega)
   rw [List.take_succ_eq_append_getElem hlt, List.map_append] at this
   exact this
 exact key xs.length 0 k (by omega) hk
def small (p : S105) : Prop := (-1000 ≤ p.f0 ∧ p.f0 ≤ 1000) ∧ (-1000 ≤ p.f1 ∧ p.f1 ≤ 1000)
theorem before_impl2 (p q : S105) (hp : small p) (hq : small q) : ∃ c : Int, impl_compareCells.f p.f0 p.f1 q.f0 q.f1 = some c ∧ (c < 0 ↔ before p q) := by
 obtain ⟨⟨a0, a1⟩, b0, b1⟩ := hp
 obtain ⟨⟨c0, c1⟩, d0, d1⟩ := hq
 unfold impl_compareCells.f before
 by_cases h2 : p.f1 = q.f1
 · exact ⟨p.f0 - q.f0, by rw [if_pos h2, w64 (by omega) (by omega)], by omega⟩
 · exact ⟨p.f1 - q.f1, by rw [if_neg h2, w64 (by omega) (by omega)], by omega⟩
instance (p q : S105) : Decidable (before p q) := by unfold before; exact inferInstance
/-- the place of a cell among others: behind the last that it doesn't stand before -/
def pos (q : S105) (l : List S105) : Nat → Nat
 | 0 => 0
 | n + 1 => if before q (rd_T105 l (n : Int)) then pos q l n else n + 1
def ins (q : S105) (l : List S105) : List S105 := l.take (pos q l l.length) ++ q :: l.drop (pos q l l.length)
def sortI (xs : List S105) : List S105 := xs.foldl (fun out q => ins q out) []
theorem pos_le (q : S105) (l : List S105) : ∀ n, pos q l n ≤ n
 | 0 => Nat.le_refl 0
 | n + 1 => by
  unfold pos
  have := pos_le q l n
  split <;> omega
theorem ins_len (q : S105) (l : List S105) : (ins q l).length = l.length + 1 := by
 have := pos_le q l l.length
 unfold ins
 rw [List.length_append, List.length_cons, List.length_take, List.length_drop]; omega
theorem ins_mem (q : S105) (l : List S105) (x : S105) (h : x ∈ ins q l) : x = q ∨ x ∈ l := by
 unfold ins at h
 rcases List.mem_append.1 h with h | h
 · exact Or.inr (List.mem_of_mem_take h)
 · rcases List.mem_cons.1 h with h | h
   · exact Or.inl h
   · exact Or.inr (List.mem_of_mem_drop h)
theorem sortI_spec (xs : List S105) : ∀ (out : List S105), (xs.foldl (fun out q => ins q out) out).length = out.length + xs.length ∧ ∀ x ∈ xs.foldl (fun out q => ins q out) out, x ∈ out ∨ x ∈ xs := by
 induction xs with
 | nil => intro out; exact ⟨rfl, fun x h => Or.inl h⟩
 | cons q xs ih =>
  intro out
  obtain ⟨h1, h2⟩ := ih (ins q out)
  refine ⟨by rw [List.foldl_cons, h1, ins_len, List.length_cons]; omega, fun x h => ?_⟩
  rcases h2 x h with h | h
  · rcases ins_mem q out x h with rfl | h
    · exact Or.inr (by simp)
    · exact Or.inl h
  · exact Or.inr (List.mem_cons_of_mem _ h)
/-- the library's sort of a few cells -/
theorem swap_list {α : Type} (A C : List α) (b q : α) : ((A ++ b :: q :: C).set (A.length + 1) b).set A.length q = A ++ q :: b :: C := by
 rw [List.set_append, if_neg (by omega), show A.length + 1 - A.length = 1 by omega, List.set_append, if_neg (by omega), Nat.sub_self]
 rfl
theorem implInner (S rest : List S105) (q : S105) (hS : ∀ x ∈ S, small x) (hq : small q) (hlen : S.length + rest.length ≤ 1000) (R : Option (List S105)) (K1 : Nat)
 (hR : ∀ k, K1 ≤ k → fi115_89.l0 k (ins q S ++ rest) 0 ((S.length + 1 + rest.length : Nat) : Int) ((S.length + 1 : Nat) : Int) = R) : ∀ (j k : Nat), j ≤ S.length → pos q S j = pos q S S.length → K1 + j + 1 ≤ k →
 fi115_89.l1 k (S.take j ++ q :: (S.drop j ++ rest)) 0 ((S.length + 1 + rest.length : Nat) : Int) (S.length : Int) (j : Int) = R := by
 intro j
 induction j with
 | zero =>
  intro k hj hp hk
  obtain ⟨k, rfl⟩ : ∃ m, k = m + 1 := ⟨k - 1, by omega⟩
  have e : S.take 0 ++ q :: (S.drop 0 ++ rest) = ins q S ++ rest := by
   unfold ins
   rw [← hp]; simp [pos]
  simp only [fi115_89.l1]
  rw [if_neg (by omega), wnat (by omega), e]
  exact hR k (by omega)
 | succ j ih =>
  intro k hj hp hk
  obtain ⟨k, rfl⟩ : ∃ m, k = m + 1 := ⟨k - 1, by omega⟩
  have hjl : j < S.length := by omega
  have hd : S.take (j + 1) ++ q :: (S.drop (j + 1) ++ rest) = S.take j ++ S[j] :: q :: (S.drop (j + 1) ++ rest) := by
   rw [List.take_succ_eq_append_getElem hjl, List.append_assoc]; rfl
  have hlenA : (S.take j).length = j := by rw [List.length_take]; omega
  have hlenD : (S.take j ++ S[j] :: q :: (S.drop (j + 1) ++ rest)).length = S.length + 1 + rest.length := by
   rw [List.length_append, List.length_cons, List.length_cons, List.length_append, List.length_drop, hlenA]; omega
  have r1 : rd_T105 (S.take j ++ S[j] :: q :: (S.drop (j + 1) ++ rest)) ((j + 1 : Nat) : Int) = q := by
   rw [rd105 _ (j + 1) (by omega), List.getElem_append_right (by omega)]
   simp [hlenA]
  have r0 : rd_T105 (S.take j ++ S[j] :: q :: (S.drop (j + 1) ++ rest)) (j : Int) = S[j] := by
   rw [rd105 _ j (by omega), List.getElem_append_right (by omega)]
   simp [hlenA]
  have r2 : rd_T105 S (j : Int) = S[j] := rd105 S j hjl
  have hw : wrap64 (((j + 1 : Nat) : Int) - 1) = (j : Int) := by rw [w64 (by omega) (by omega)]; omega
  obtain ⟨c, f2, g2⟩ := before_impl2 q S[j] hq (hS _ (List.getElem_mem hjl))
  rw [hd]
  simp only [fi115_89.l1, hw, r0, r1, f2, Option.bind_some]
  rw [if_pos (by omega), if_pos (by omega), if_pos (by omega), if_pos (by omega), if_pos (by omega)]
  have hp2 : pos q S (j + 1) = if before q S[j] then pos q S j else j + 1 := by
   rw [← r2]; rfl
  by_cases hb : before q S[j]
  · rw [if_pos (g2.2 hb)]
    rw [if_pos hb] at hp2
    have hset : (((S.take j ++ S[j] :: q :: (S.drop (j + 1) ++ rest)).set (((j + 1 : Nat) : Int)).toNat (⟨S[j].f0, S[j].f1⟩ : S105)).set ((j : Int)).toNat (⟨q.f0, q.f1⟩ : S105)) = S.take j ++ q :: (S.drop j ++ rest) := by
     have := swap_list (S.take j) (S.drop (j + 1) ++ rest) S[j] q
     rw [hlenA] at this
     rw [show (((j + 1 : Nat) : Int)).toNat = j + 1 by omega, show ((j : Int)).toNat = j by omega]
     show ((S.take j ++ S[j] :: q :: (S.drop (j + 1) ++ rest)).set (j + 1) S[j]).set j q = _
     rw [this, List.drop_eq_getElem_cons hjl]; rfl
    rw [hset]
    exact ih k (by omega) (by omega) (by omega)
  · rw [if_neg (fun h => hb (g2.1 h))]
    rw [if_neg hb] at hp2
    have e : S.take j ++ S[j] :: q :: (S.drop (j + 1) ++ rest) = ins q S ++ rest := by
     unfold ins
     rw [← hp, hp2, ← hd, List.append_assoc]; rfl
    rw [e, wnat (by omega)]
    exact hR k (by omega)
theorem bind_of {α β : Type} {o : Option α} {b : α} (h : o = some b) (f : α → Option β) : o.bind f = f b := by subst h; rfl
theorem implSort (xs : List S105) (hx : ∀ x ∈ xs, small x) (hl : xs.length ≤ 12) (k0 : Nat) (hk0 : 400 < k0) : fi102_89.f k0 xs = some (sortI xs) := by
 have key : ∀ (n i k : Nat), i + n = xs.length → 1 ≤ i → 20 * n + 10 < k → fi115_89.l0 k (sortI (xs.take i) ++ xs.drop i) 0 (xs.length : Int) (i : Int) = some (sortI xs) := by
  intro n
  induction n with
  | zero =>
   intro i k hi h1 hk
   obtain ⟨k, rfl⟩ : ∃ m, k = m + 1 := ⟨k - 1, by omega⟩
   obtain rfl : i = xs.length := by omega
   simp only [fi115_89.l0]
   rw [if_neg (by omega), List.take_length, List.drop_length, List.append_nil]
  | succ n ih =>
   intro i k hi h1 hk
   obtain ⟨k, rfl⟩ : ∃ m, k = m + 1 := ⟨k - 1, by omega⟩
   have hlt : i < xs.length := by omega
   obtain ⟨s1, s2⟩ := sortI_spec (xs.take i) []
   have hS : (sortI (xs.take i)).length = i := by
    show ((xs.take i).foldl _ []).length = i
    rw [s1, List.length_take]; simp; omega
   have hins : sortI (xs.take (i + 1)) = ins xs[i] (sortI (xs.take i)) := by
    unfold sortI
    rw [List.take_succ_eq_append_getElem hlt, List.foldl_append]; rfl
   have hd : xs.drop i = xs[i] :: xs.drop (i + 1) := List.drop_eq_getElem_cons hlt
   simp only [fi115_89.l0]
   rw [if_pos (by omega)]
   have hdl : (xs.drop (i + 1)).length = xs.length - (i + 1) := List.length_drop
   have := implInner (sortI (xs.take i)) (xs.drop (i + 1)) xs[i] (fun x h => by
    rcases s2 x h with h | h
    · cases h
    · exact hx x (List.mem_of_mem_take h)) (hx _ (List.getElem_mem hlt)) (by omega) (some (sortI xs)) (20 * n + 11) (by
    intro k hk
    have := ih (i + 1) k (by omega) (by omega) (by omega)
    rw [hins] at this
    rw [hS, hdl, show i + 1 + (xs.length - (i + 1)) = xs.length by omega]
    exact this) i k (by omega) (by rw [hS]) (by omega)
   rw [hS, hdl, show i + 1 + (xs.length - (i + 1)) = xs.length by omega] at this
   rw [List.take_of_length_le (by omega), List.drop_of_length_le (by omega), List.nil_append] at this
   rw [hd]
   exact this
 unfold fi102_89.f
 have hu : IntKind.u64.wrap (xs.length : Int) = (xs.length : Int) := by
  have : ∀ n : Nat, n < 13 → IntKind.u64.wrap (n : Int) = (n : Int) := by decide
  exact this _ (by omega)
 have hb : ∃ b, Go.Proofs.YtakagkflgkoiiaaX.bits_Len.f (IntKind.u64.wrap (xs.length : Int)) = some b := by
  unfold Go.Proofs.YtakagkflgkoiiaaX.bits_Len.f
  rw [hu, if_pos (by omega)]
  exact ⟨_, rfl⟩
 obtain ⟨b, hb⟩ := hb
 obtain ⟨k, rfl⟩ : ∃ m, k0 = m + 1 := ⟨k0 - 1, by omega⟩
 rw [bind_of hb]
 unfold fi112_89.f
 simp only [fi112_89.l0]
 rw [w64 (x := (xs.length : Int) - 0) (by omega) (by omega), if_pos (by omega)]
 unfold fi115_89.f
 rw [show wrap64 ((0 : Int) + 1) = 1 from (w64 (x := (0 : Int) + 1) (by omega) (by omega))]
 by_cases h0 : xs.length = 0
 · have : xs = [] := List.eq_nil_of_length_eq_zero h0
   subst this
   obtain ⟨k, rfl⟩ : ∃ m, k = m + 1 := ⟨k - 1, by omega⟩
   simp only [fi115_89.l0]
   rw [if_neg (by simp)]
   rfl
 · have := key (xs.length - 1) 1 k (by omega) (by omega) (by omega)
   have e1 : sortI (xs.take 1) ++ xs.drop 1 = xs := by
    have hc := List.drop_eq_getElem_cons (show 0 < xs.length by omega)
    rw [List.drop_zero] at hc
    rw [hc]; rfl
   rw [e1] at this
   rw [show ((1 : Nat) : Int) = 1 from rfl] at this
   rw [this]; rfl
/-- the reference's -/
theorem specInner (moved out : List S105) (q : S105) (i lx ly : Int) (ho : out.length ≤ 1000) (R : Option (List S105)) (K1 : Nat)
 (hR : ∀ k, K1 ≤ k → spec_l19Turned.l1 k moved (ins q out) (wrap64 (i + 1)) lx ly = R) : ∀ (j k : Nat), j ≤ out.length → pos q out j = pos q out out.length → K1 + j + 1 ≤ k →
 spec_l19Turned.l2 k moved out i (j : Int) lx ly q.f0 q.f1 = R := by
 have fin : ∀ (j k : Nat), j ≤ out.length → pos q out out.length = j → K1 ≤ k → ((some (([] : List (S105)) : List (S105))).bind fun y224 => (if 0 ≤ (j : Int) then (if (j : Int) ≤ (out.length : Int) then ((some (out.take ((j : Int)).toNat : List (S105))).bind fun y227 => (if y224.length + y227.length < 8796093022208 then ((some (y224 ++ y227 : List (S105))).bind fun y231 => (if y231.length < 8796093022208 then ((some (y231 ++ [(⟨q.f0, q.f1⟩ : S105)] : List (S105))).bind fun y234 => ((some (out.drop ((j : Int)).toNat : List (S105))).bind fun y237 => (if y234.length + y237.length < 8796093022208 then (spec_l19Turned.l1 k moved (y234 ++ y237) (wrap64 (i + 1)) lx ly) else (none)))) else (none))) else (none))) else (none)) else (none))) = R := by
  intro j k hj hp hk
  simp only [Option.bind_some, List.nil_append, List.length_nil]
  have h1 : (out.take ((j : Int)).toNat).length = j := by rw [List.length_take]; omega
  rw [if_pos (by omega), if_pos (by omega), if_pos (by omega), if_pos (by omega), if_pos (by rw [List.length_append, h1, List.length_drop, List.length_singleton]; omega)]
  have e : out.take ((j : Int)).toNat ++ [(⟨q.f0, q.f1⟩ : S105)] ++ out.drop ((j : Int)).toNat = ins q out := by
   unfold ins
   rw [hp, show ((j : Int)).toNat = j by omega, List.append_assoc]; rfl
  rw [e]
  exact hR k hk
 intro j
 induction j with
 | zero =>
  intro k hj hp hk
  obtain ⟨k, rfl⟩ : ∃ m, k = m + 1 := ⟨k - 1, by omega⟩
  simp only [spec_l19Turned.l2]
  rw [if_neg (by omega)]
  exact fin 0 k (by omega) (by rw [← hp]; rfl) (by omega)
 | succ j ih =>
  intro k hj hp hk
  obtain ⟨k, rfl⟩ : ∃ m, k = m + 1 := ⟨k - 1, by omega⟩
  have hjl : j < out.length := by omega
  have hw : wrap64 (((j + 1 : Nat) : Int) - 1) = (j : Int) := by rw [w64 (by omega) (by omega)]; omega
  obtain ⟨b1, f1, g1⟩ := before_spec q (rd_T105 out (j : Int))
  simp only [spec_l19Turned.l2, hw, f1]
  rw [if_pos (by omega), if_pos (by omega), if_pos (by omega)]
  have hp2 : pos q out (j + 1) = if before q (rd_T105 out (j : Int)) then pos q out j else j + 1 := rfl
  by_cases hb : b1 = true
  · have hbb := g1.1 hb
    rw [if_pos hbb] at hp2
    simp only [Option.bind_some, hb, if_true]
    exact ih k (by omega) (by omega) (by omega)
  · have hbb : ¬ before q (rd_T105 out (j : Int)) := fun h => hb (g1.2 h)
    rw [if_neg hbb] at hp2
    have hbf : b1 = false := by cases b1 <;> simp_all
    subst hbf
    simp only [Option.bind_some, Bool.false_eq_true, if_false]
    exact fin (j + 1) k hj (by rw [← hp, hp2]) (by omega)
def tpP (t : Int) (p : S105) : S105 := ⟨(tp t p.f0 p.f1).1, (tp t p.f0 p.f1).2⟩
def shP (x y : Int) (p : S105) : S105 := ⟨p.f0 + x, p.f1 + y⟩
theorem specSort (moved : List S105) (lx ly : Int) (hm : ∀ p ∈ moved, (-100 ≤ p.f0 ∧ p.f0 ≤ 100) ∧ (-100 ≤ p.f1 ∧ p.f1 ≤ 100)) (hx : -100 ≤ lx ∧ lx ≤ 100) (hy : -100 ≤ ly ∧ ly ≤ 100) (hl : moved.length ≤ 12) (k0 : Nat) (hk0 : 300 < k0) :
 spec_l19Turned.l1 k0 moved [] 0 lx ly = some (sortI (moved.map (shP (-lx) (-ly)))) := by
 have key : ∀ (n i k : Nat), i + n = moved.length → 20 * n + 10 < k → spec_l19Turned.l1 k moved (sortI ((moved.take i).map (shP (-lx) (-ly)))) (i : Int) lx ly = some (sortI (moved.map (shP (-lx) (-ly)))) := by
  intro n
  induction n with
  | zero =>
   intro i k hi hk
   obtain ⟨k, rfl⟩ : ∃ m, k = m + 1 := ⟨k - 1, by omega⟩
   obtain rfl : i = moved.length := by omega
   simp only [spec_l19Turned.l1]
   rw [if_neg (by omega), List.take_length]
  | succ n ih =>
   intro i k hi hk
   obtain ⟨k, rfl⟩ : ∃ m, k = m + 1 := ⟨k - 1, by omega⟩
   have hlt : i < moved.length := by omega
   obtain ⟨s1, s2⟩ := sortI_spec ((moved.take i).map (shP (-lx) (-ly))) []
   have hS : (sortI ((moved.take i).map (shP (-lx) (-ly)))).length = i := by
    show (((moved.take i).map (shP (-lx) (-ly))).foldl _ []).length = i
    rw [s1, List.length_map, List.length_take]; simp; omega
   have hins : sortI ((moved.take (i + 1)).map (shP (-lx) (-ly))) = ins (shP (-lx) (-ly) moved[i]) (sortI ((moved.take i).map (shP (-lx) (-ly)))) := by
    unfold sortI
    rw [List.take_succ_eq_append_getElem hlt, List.map_append, List.foldl_append]; rfl
   have hmi := hm _ (List.getElem_mem hlt)
   simp only [spec_l19Turned.l1]
   rw [if_pos (by omega), if_pos (by omega), rd105 moved i hlt, w64 (x := moved[i].f0 - lx) (by omega) (by omega), w64 (x := moved[i].f1 - ly) (by omega) (by omega)]
   have e0 : moved[i].f0 - lx = (shP (-lx) (-ly) moved[i]).f0 := by show _ = moved[i].f0 + -lx; omega
   have e1 : moved[i].f1 - ly = (shP (-lx) (-ly) moved[i]).f1 := by show _ = moved[i].f1 + -ly; omega
   rw [e0, e1]
   refine specInner moved _ (shP (-lx) (-ly) moved[i]) i lx ly (by omega) _ (20 * n + 11) ?_ _ k (Nat.le_refl _) rfl (by omega)
   intro k hk
   rw [wnat (by omega), ← hins]
   exact ih (i + 1) k (by omega) (by omega)
 exact key moved.length 0 k0 (by omega) (by omega)
theorem implShift (l : List S105) (x y : Int) (hm : ∀ p ∈ l, small p) (hx : -1000 ≤ x ∧ x ≤ 1000) (hy : -1000 ≤ y ∧ y ≤ 1000) (hl : l.length ≤ 100) (k : Nat) (hk : 200 < k) : impl_shifted.f k l x y = some (l.map (shP x y)) := by
 unfold impl_shifted.f
 refine app_loop l (shP x y) 0 (fun k out i => impl_shifted.l0 k x y out l (l.length : Int) i) _ ?_ ?_ k (by omega)
 · intro k out i h _ ho
   obtain ⟨⟨a, b⟩, c, d⟩ := hm _ (List.getElem_mem h)
   simp only [impl_shifted.l0]
   rw [if_pos (by omega), if_pos (by omega), if_pos (by omega), if_pos (by omega), rd105 l i h, w64 (x := l[i].f0 + x) (by omega) (by omega), w64 (x := l[i].f1 + y) (by omega) (by omega), wnat (by omega)]
   rfl
 · intro k _
   simp only [impl_shifted.l0]
   rw [if_neg (by omega)]
theorem lowX_in (B : Int) : ∀ (l : List S105) (t : Int), -B ≤ t → t ≤ B → (∀ p ∈ l, -B ≤ p.f0 ∧ p.f0 ≤ B) → -B ≤ lowX l t ∧ lowX l t ≤ B
 | [], t, a, b, _ => ⟨a, b⟩
 | p :: l, t, a, b, h => by
  have hp := h p (by simp)
  show -B ≤ lowX l (mnf t p.f0) ∧ lowX l (mnf t p.f0) ≤ B
  exact lowX_in B l _ (by unfold mnf; split <;> omega) (by unfold mnf; split <;> omega) (fun q hq => h q (List.mem_cons_of_mem _ hq))
theorem lowY_in (B : Int) : ∀ (l : List S105) (t : Int), -B ≤ t → t ≤ B → (∀ p ∈ l, -B ≤ p.f1 ∧ p.f1 ≤ B) → -B ≤ lowY l t ∧ lowY l t ≤ B
 | [], t, a, b, _ => ⟨a, b⟩
 | p :: l, t, a, b, h => by
  have hp := h p (by simp)
  show -B ≤ lowY l (mnf t p.f1) ∧ lowY l (mnf t p.f1) ≤ B
  exact lowY_in B l _ (by unfold mnf; split <;> omega) (by unfold mnf; split <;> omega) (fun q hq => h q (List.mem_cons_of_mem _ hq))
theorem bounds_in (l : List S105) (hl : l.length ≤ 100) (hp : 0 < l.length) (hm : ∀ p ∈ l, (-100 ≤ p.f0 ∧ p.f0 ≤ 100) ∧ (-100 ≤ p.f1 ∧ p.f1 ≤ 100)) : ∃ x y u v u' v', (∀ k, 101 < k → spec_l03Bounds.f k l = some (x, y, u, v) ∧ impl_bounds.f k l = some (x, y, u', v')) ∧ (-100 ≤ x ∧ x ≤ 100) ∧ (-100 ≤ y ∧ y ≤ 100) := by
 obtain ⟨x, y, u, v, u', v', e⟩ := bounds_eq l hl hp
 refine ⟨x, y, u, v, u', v', e, ?_⟩
 obtain ⟨u2, v2, e2⟩ := specBounds l hl (l.length - 1) 1 l[0].f0 l[0].f1 l[0].f0 l[0].f1 (by omega)
 have h1 := (e 102 (by omega)).1
 have h0 := hm _ (List.getElem_mem hp)
 unfold spec_l03Bounds.f at h1
 rw [if_pos (by omega), show rd_T105 l 0 = l[0] from rd105 l 0 hp] at h1
 have h2 := e2 102 (by omega)
 rw [show ((1 : Nat) : Int) = 1 from rfl] at h2
 rw [h2] at h1
 simp only [Option.some.injEq, Prod.mk.injEq] at h1
 obtain ⟨rfl, rfl, _, _⟩ := h1
 exact ⟨lowX_in 100 _ _ (by omega) (by omega) (fun p h => (hm p (List.mem_of_mem_drop h)).1), lowY_in 100 _ _ (by omega) (by omega) (fun p h => (hm p (List.mem_of_mem_drop h)).2)⟩
/-- the turned cells of a piece: the same list on both sides, small and as long as the piece -/
theorem turned_eq (p : S53) (t : Int) (ht : 0 ≤ t ∧ t ≤ 7) (hn : 1 ≤ p.f1.length ∧ p.f1.length ≤ 6) (hm : ∀ q ∈ p.f1, in5 q) : ∃ r : List S105, (∀ k, 1000 < k → spec_l19Turned.f k [p] t = some r ∧ impl_turnedCells.f k p.f0 p.f1 p.f2 p.f3 t = some r) ∧ r.length = p.f1.length ∧ ∀ q ∈ r, (-300 ≤ q.f0 ∧ q.f0 ≤ 300) ∧ (-300 ≤ q.f1 ∧ q.f1 ≤ 300) := by
 have r : rd_T53 [p] 0 = p := rfl
 have hmv : ∀ q ∈ p.f1.map (tpP t), (-100 ≤ q.f0 ∧ q.f0 ≤ 100) ∧ (-100 ≤ q.f1 ∧ q.f1 ≤ 100) := by
  intro q hq
  obtain ⟨z, hz, rfl⟩ := List.mem_map.1 hq
  obtain ⟨⟨a, b⟩, c, d⟩ := hm z hz
  have := tp_in t z.f0 z.f1 100 (by omega) (by omega) (by omega) (by omega)
  exact this
 have hlen : (p.f1.map (tpP t)).length = p.f1.length := List.length_map _
 obtain ⟨x, y, u, v, u', v', hb, hx, hy⟩ := bounds_in (p.f1.map (tpP t)) (by omega) (by omega) hmv
 have hsh : ∀ q ∈ (p.f1.map (tpP t)).map (shP (-x) (-y)), (-300 ≤ q.f0 ∧ q.f0 ≤ 300) ∧ (-300 ≤ q.f1 ∧ q.f1 ≤ 300) := by
  intro q hq
  obtain ⟨z, hz, rfl⟩ := List.mem_map.1 hq
  have := hmv z hz
  show (-300 ≤ z.f0 + -x ∧ z.f0 + -x ≤ 300) ∧ (-300 ≤ z.f1 + -y ∧ z.f1 + -y ≤ 300)
  omega
 obtain ⟨s1, s2⟩ := sortI_spec ((p.f1.map (tpP t)).map (shP (-x) (-y))) []
 refine ⟨sortI ((p.f1.map (tpP t)).map (shP (-x) (-y))), fun k hk => ⟨?_, ?_⟩, ?_, ?_⟩
 · unfold spec_l19Turned.f
   refine app_loop p.f1 (tpP t) 500 (fun k out i => spec_l19Turned.l0 k t out i [p]) _ ?_ ?_ k (by omega)
   · intro k out i h hk ho
     obtain ⟨⟨a, b⟩, c, d⟩ := hm _ (List.getElem_mem h)
     simp only [spec_l19Turned.l0, r]
     rw [if_pos (by simp), if_pos (by omega), if_pos (by omega), rd105 p.f1 i h, specTp ht (by omega) (by omega) k (by omega)]
     simp only [Option.bind_some]
     rw [if_pos (by omega), wnat (by omega)]
     rfl
   · intro k hk
     simp only [spec_l19Turned.l0, r]
     rw [if_pos (by simp), if_neg (by omega), (hb k (by omega)).1]
     simp only [Option.bind_some]
     exact specSort _ x y hmv hx hy (by omega) k (by omega)
 · unfold impl_turnedCells.f
   refine app_loop p.f1 (tpP t) 500 (fun k out i => impl_turnedCells.l0 k t out p.f1 (p.f1.length : Int) i) _ ?_ ?_ k (by omega)
   · intro k out i h hk ho
     obtain ⟨⟨a, b⟩, c, d⟩ := hm _ (List.getElem_mem h)
     simp only [impl_turnedCells.l0]
     rw [if_pos (by omega), if_pos (by omega), if_pos (by omega), rd105 p.f1 i h, implTp ht (by omega) (by omega) k (by omega)]
     simp only [Option.bind_some]
     rw [if_pos (by omega), wnat (by omega)]
     rfl
   · intro k hk
     simp only [impl_turnedCells.l0]
     rw [if_neg (by omega), (hb k (by omega)).2]
     simp only [Option.bind_some]
     rw [w64 (x := -x) (by omega) (by omega), w64 (x := -y) (by omega) (by omega), implShift _ (-x) (-y) (fun q hq => by have := hmv q hq; unfold small; omega) (by omega) (by omega) (by omega) k (by omega)]
     simp only [Option.bind_some]
     rw [implSort _ (fun q hq => by have := hsh q hq; unfold small; omega) (by rw [List.length_map]; omega) k (by omega)]
     rfl
 · show (((p.f1.map (tpP t)).map (shP (-x) (-y))).foldl _ []).length = p.f1.length
   rw [s1, List.length_map, hlen]; simp
 · intro q hq
   rcases s2 q hq with h | h
   · cases h
   · exact hsh q h
def upP : Nat → Int → List S105
 | 0, _ => []
 | n + 1, m => ⟨m, m + 1⟩ :: upP n (m + 2)
theorem upP_len : ∀ (n : Nat) (m : Int), (upP n m).length = n
 | 0, _ => rfl
 | n + 1, m => by simp [upP, upP_len n]
theorem upP_get : ∀ (n : Nat) (m : Int) (i : Nat) (h : i < (upP n m).length), (upP n m)[i] = ⟨m + 2 * i, m + 2 * i + 1⟩
 | 0, m, i, h => by simp [upP] at h
 | n + 1, m, 0, h => by simp [upP]
 | n + 1, m, i + 1, h => by
  have h' : i < (upP n (m + 2)).length := by simpa [upP] using h
  have := upP_get n (m + 2) i h'
  simp only [upP, List.getElem_cons_succ, this]
  rw [show m + 2 + 2 * (i : Int) = m + 2 * ((i + 1 : Nat) : Int) by omega]
theorem markPts_eq (l : List S105) (hl : l.length ≤ 1048576) (m : Int) (h0 : 0 ≤ m) (h1 : m ≤ 100000000) (k : Nat) (hk : l.length < k) : laws_markPointS.f k l m = some (m + 2 * l.length, upP l.length m) := by
 have key : ∀ (n i k : Nat) (s : List S105), i + n = l.length → n < k → s.length = l.length → s.take i = (upP l.length m).take i →
  laws_markPointS.l0 k s (m + 2 * i) (i : Int) = some (m + 2 * l.length, upP l.length m) := by
  intro n
  induction n with
  | zero =>
   intro i k s hi hk hs ht
   obtain ⟨k, rfl⟩ : ∃ m, k = m + 1 := ⟨k - 1, by omega⟩
   obtain rfl : i = l.length := by omega
   simp only [laws_markPointS.l0]
   have e : s = upP l.length m := by
    rw [List.take_of_length_le (by omega), List.take_of_length_le (by rw [upP_len]; omega)] at ht; exact ht
   rw [if_neg (by omega), e]
  | succ n ih =>
   intro i k s hi hk hs ht
   obtain ⟨k, rfl⟩ : ∃ m, k = m + 1 := ⟨k - 1, by omega⟩
   have hlt : i < s.length := by omega
   simp only [laws_markPointS.l0, Option.bind_some]
   rw [if_pos (by omega), if_pos (by omega), w64 (x := m + 2 * (i : Int) + 1) (by omega) (by omega), w64 (x := m + 2 * (i : Int) + 1 + 1) (by omega) (by omega), wnat (by omega), show ((i : Int)).toNat = i by omega]
   have e1 : rd_T105 (s.set i (⟨m + 2 * (i : Int), (rd_T105 s (i : Int)).f1⟩ : S105)) (i : Int) = ⟨m + 2 * (i : Int), (rd_T105 s (i : Int)).f1⟩ := by
    rw [rd105 _ i (by rw [List.length_set]; omega), List.getElem_set_self]
   rw [e1, List.set_set]
   have hh := ih (i + 1) k (s.set i (⟨m + 2 * (i : Int), m + 2 * (i : Int) + 1⟩ : S105)) (by omega) (by omega) (by rw [List.length_set]; exact hs) (by
    have hlt2 : i < (upP l.length m).length := by rw [upP_len]; omega
    rw [List.take_succ_eq_append_getElem (by rw [List.length_set]; omega), List.take_succ_eq_append_getElem hlt2, List.take_set_of_le (by omega), ht, upP_get _ _ _ hlt2]
    simp)
   rw [show m + 2 * ((i + 1 : Nat) : Int) = m + 2 * (i : Int) + 1 + 1 by omega] at hh
   exact hh
 have := key l.length 0 k l (by omega) hk rfl (by simp)
 unfold laws_markPointS.f
 simpa using this
theorem toPiece_eq (s : ByteArray) (l : List S123) (c : Int) (d : Bool) (hl : l.length ≤ 1048576) (k : Nat) (hk : l.length < k) : laws_toPiece.f k s l c d = some (s, l.map toPt, c, d) := by
 unfold laws_toPiece.f
 rw [toPointS_eq l hl k hk]; rfl
theorem eqPiece_eq (s : ByteArray) (l : List S105) (c : Int) (d : Bool) (hl : l.length ≤ 1048576) (k : Nat) (hk : l.length < k) : laws_eqPiece.f k s l c d s l c d = some true := by
 unfold laws_eqPiece.f
 rw [eqPointS_eq l hl k hk]
 simp
def eqS (p q : S105) : Bool := p.f0 == q.f0 && p.f1 == q.f1
def eqL : List S105 → List S105 → Bool
 | [], [] => true
 | p :: a, q :: b => eqS p q && eqL a b
 | _, _ => false
theorem eqL_len : ∀ (a b : List S105), a.length ≠ b.length → eqL a b = false
 | [], [], h => by simp at h
 | [], _ :: _, _ => rfl
 | _ :: _, [], _ => rfl
 | p :: a, q :: b, h => by
  rw [eqL, eqL_len a b (by simpa using h), Bool.and_false]
theorem ne_eqS (p q : S105) : (!(p.f0 == q.f0) || !(p.f1 == q.f1)) = !eqS p q := by
 unfold eqS
 cases p.f0 == q.f0 <;> cases p.f1 == q.f1 <;> rfl
theorem specEqual (a b : List S105) (ha : a.length ≤ 1000) (k : Nat) (hk : a.length < k) : spec_l03Equal.f k a b = some (eqL a b) := by
 unfold spec_l03Equal.f
 by_cases h : (a.length : Int) = b.length
 · rw [if_pos h]
   have key : ∀ (n i k : Nat), i + n = a.length → n < k → spec_l03Equal.l0 k a b (i : Int) = some (eqL (a.drop i) (b.drop i)) := by
    intro n
    induction n with
    | zero =>
     intro i k hi hk
     obtain ⟨k, rfl⟩ : ∃ m, k = m + 1 := ⟨k - 1, by omega⟩
     simp only [spec_l03Equal.l0]
     rw [if_neg (by omega), List.drop_of_length_le (by omega), List.drop_of_length_le (by omega)]; rfl
    | succ n ih =>
     intro i k hi hk
     obtain ⟨k, rfl⟩ : ∃ m, k = m + 1 := ⟨k - 1, by omega⟩
     have h1 : i < a.length := by omega
     have h2 : i < b.length := by omega
     simp only [spec_l03Equal.l0]
     rw [if_pos (by omega), if_pos (by omega), if_pos (by omega), rd105 a i h1, rd105 b i h2, ne_eqS, List.drop_eq_getElem_cons h1, List.drop_eq_getElem_cons h2, eqL]
     cases he : eqS a[i] b[i] with
     | true => rw [wnat (by omega), ih (i + 1) k (by omega) (by omega)]; rfl
     | false => rfl
   simpa using key a.length 0 k (by omega) (by omega)
 · rw [if_neg h, eqL_len a b (by omega)]
theorem implEqual (a b : List S105) (ha : a.length ≤ 1000) (k : Nat) (hk : a.length < k) : impl_Point_99.f k a b = some (eqL a b) := by
 unfold impl_Point_99.f
 by_cases h : (a.length : Int) = b.length
 · rw [if_pos h]
   have key : ∀ (n i k : Nat), i + n = a.length → n < k → impl_Point_99.l0 k a b (a.length : Int) (i : Int) = some (eqL (a.drop i) (b.drop i)) := by
    intro n
    induction n with
    | zero =>
     intro i k hi hk
     obtain ⟨k, rfl⟩ : ∃ m, k = m + 1 := ⟨k - 1, by omega⟩
     simp only [impl_Point_99.l0]
     rw [if_neg (by omega), List.drop_of_length_le (by omega), List.drop_of_length_le (by omega)]; rfl
    | succ n ih =>
     intro i k hi hk
     obtain ⟨k, rfl⟩ : ∃ m, k = m + 1 := ⟨k - 1, by omega⟩
     have h1 : i < a.length := by omega
     have h2 : i < b.length := by omega
     simp only [impl_Point_99.l0]
     rw [if_pos (by omega), if_pos (by omega), if_pos (by omega), if_pos (by omega), rd105 a i h1, rd105 b i h2, ne_eqS, List.drop_eq_getElem_cons h1, List.drop_eq_getElem_cons h2, eqL]
     cases he : eqS a[i] b[i] with
     | true => rw [wnat (by omega), ih (i + 1) k (by omega) (by omega)]; rfl
     | false => rfl
   simpa using key a.length 0 k (by omega) (by omega)
 · rw [if_neg h, eqL_len a b (by omega)]
theorem rdL (xs : List (List S105)) (i : Nat) (h : i < xs.length) : rd_L4 xs (i : Int) = xs[i] := by
 unfold rd_L4; simp [List.getD, h]
theorem contains_eq (xs : List (List S105)) (o : List S105) (hx : ∀ c ∈ xs, c.length ≤ 1000) (hl : xs.length ≤ 1000) (k : Nat) (hk : 3000 < k) : fi97_98.f k xs [o] = some (xs.any (fun c => eqL c o)) := by
 unfold fi97_98.f fi111_98.f
 obtain ⟨r, h1, h2⟩ := idx_loop xs 1001 (fun c => eqL c o) (fun k i => fi111_98.l0 k xs (xs.length : Int) i [o]) (by
  intro k i h hk
  simp only [fi111_98.l0]
  rw [if_pos (by omega), if_pos (by omega), if_pos (by omega), rdL xs i h]
  unfold impl_pieceTurns_1.f
  rw [if_pos (by simp), show rd_L4 [o] 0 = o from rfl, implEqual _ _ (hx _ (List.getElem_mem h)) k (by have := hx _ (List.getElem_mem h); omega)]
  simp only [Option.bind_some]
  rw [wnat (by omega)]) (by
  intro k hk
  simp only [fi111_98.l0]
  rw [if_neg (by omega)]) k (by omega)
 rw [h1]
 simp only [Option.bind_some, h2]
def fresh (T : Int → List S105) (out : List Int) (t : Int) : Bool := out.all (fun u => !eqL (T u) (T t))
def turnsFrom (T : Int → List S105) : Nat → List Int → Int → List Int
 | 0, out, _ => out
 | n + 1, out, t => turnsFrom T n (if fresh T out t = true then out ++ [t] else out) (t + 1)
theorem turnsFrom_len (T : Int → List S105) : ∀ (n : Nat) (out : List Int) (t : Int), (turnsFrom T n out t).length ≤ out.length + n
 | 0, out, t => by simp [turnsFrom]
 | n + 1, out, t => by
  have := turnsFrom_len T n (if fresh T out t = true then out ++ [t] else out) (t + 1)
  rw [turnsFrom]
  refine Nat.le_trans this ?_
  split <;> simp <;> omega
theorem specTurns_in (p : S53) (T : Int → List S105) (hT : ∀ t : Int, 0 ≤ t ∧ t ≤ 7 → (T t).length ≤ 6 ∧ ∀ k, 1000 < k → spec_l19Turned.f k [p] t = some (T t)) (out : List Int) (ho : out.length ≤ 100) (hr : ∀ u ∈ out, 0 ≤ u ∧ u ≤ 7) (t : Int) (ht : 0 ≤ t ∧ t ≤ 7) :
 ∀ (n i k : Nat) (b : Bool), i + n = out.length → 2000 + n < k → ∃ k', k = k' + n + 1 ∧ spec_l19Turns.l1 k out t b (i : Int) [p] = (if (b && fresh T (out.drop i) t) = true then spec_l19Turns.l0 k' (out ++ [t]) (wrap64 (t + 1)) [p] else spec_l19Turns.l0 k' out (wrap64 (t + 1)) [p]) := by
 intro n
 induction n with
 | zero =>
  intro i k b hi hk
  obtain ⟨k, rfl⟩ : ∃ m, k = m + 1 := ⟨k - 1, by omega⟩
  refine ⟨k, by omega, ?_⟩
  simp only [spec_l19Turns.l1]
  rw [if_neg (by omega), List.drop_of_length_le (by omega)]
  cases b with
  | true => rw [if_pos rfl, if_pos (by omega)]; rfl
  | false => rfl
 | succ n ih =>
  intro i k b hi hk
  obtain ⟨k, rfl⟩ : ∃ m, k = m + 1 := ⟨k - 1, by omega⟩
  have h1 : i < out.length := by omega
  have hu := hr _ (List.getElem_mem h1)
  simp only [spec_l19Turns.l1]
  rw [if_pos (by omega), List.drop_eq_getElem_cons h1]
  cases b with
  | true =>
   rw [if_pos rfl, if_pos (by omega), rdi out i h1, (hT _ hu).2 k (by omega), (hT _ ht).2 k (by omega)]
   simp only [Option.bind_some]
   rw [specEqual _ _ (by have := (hT _ hu).1; omega) k (by have := (hT _ hu).1; omega)]
   simp only [Option.bind_some]
   obtain ⟨k', e, h⟩ := ih (i + 1) k (!eqL (T out[i]) (T t)) (by omega) (by omega)
   refine ⟨k', by omega, ?_⟩
   rw [wnat (by omega), h]
   simp only [fresh, List.all_cons, Bool.true_and]
   rfl
  | false =>
   obtain ⟨k', e, h⟩ := ih (i + 1) k false (by omega) (by omega)
   refine ⟨k', by omega, ?_⟩
   rw [if_neg (by simp), wnat (by omega), h]
   simp
theorem specTurns_out (p : S53) (T : Int → List S105) (hT : ∀ t : Int, 0 ≤ t ∧ t ≤ 7 → (T t).length ≤ 6 ∧ ∀ k, 1000 < k → spec_l19Turned.f k [p] t = some (T t)) :
 ∀ (n k : Nat) (out : List Int) (t : Int), t + n = 8 → 0 ≤ t → out.length + n ≤ 20 → (∀ u ∈ out, 0 ≤ u ∧ u ≤ 7) → 3000 + 100 * n < k → spec_l19Turns.l0 k out t [p] = some (turnsFrom T n out t) := by
 intro n
 induction n with
 | zero =>
  intro k out t h h0 hl hr hk
  obtain ⟨k, rfl⟩ : ∃ m, k = m + 1 := ⟨k - 1, by omega⟩
  simp only [spec_l19Turns.l0]
  rw [if_neg (by omega)]; rfl
 | succ n ih =>
  intro k out t h h0 hl hr hk
  obtain ⟨k, rfl⟩ : ∃ m, k = m + 1 := ⟨k - 1, by omega⟩
  simp only [spec_l19Turns.l0]
  rw [if_pos (by omega)]
  obtain ⟨k', e, hh⟩ := specTurns_in p T hT out (by omega) hr t (by omega) out.length 0 k true (by omega) (by omega)
  rw [show ((0 : Nat) : Int) = 0 from rfl] at hh
  rw [hh, w64 (by omega) (by omega), List.drop_zero, Bool.true_and, turnsFrom]
  by_cases hf : fresh T out t = true
  · rw [if_pos hf, if_pos hf]
    refine ih k' _ (t + 1) (by omega) (by omega) (by simp; omega) ?_ (by omega)
    intro u hu
    rcases List.mem_append.1 hu with h | h
    · exact hr u h
    · rw [List.mem_singleton] at h; subst h; omega
  · rw [if_neg hf, if_neg hf]
    exact ih k' _ (t + 1) (by omega) (by omega) (by omega) hr (by omega)
theorem any_fresh (T : Int → List S105) (out : List Int) (t : Int) : (out.map T).any (fun c => eqL c (T t)) = !fresh T out t := by
 unfold fresh
 rw [List.any_map]
 induction out with
 | nil => rfl
 | cons x l ih => rw [List.any_cons, List.all_cons, ih]; simp only [Function.comp]; cases eqL (T x) (T t) <;> simp
theorem implTurns_out (p : S53) (hp : p.f3 = true) (T : Int → List S105) (hT : ∀ t : Int, 0 ≤ t ∧ t ≤ 7 → (T t).length ≤ 6 ∧ ∀ k, 1000 < k → impl_turnedCells.f k p.f0 p.f1 p.f2 p.f3 t = some (T t)) :
 ∀ (n k : Nat) (out : List Int) (t : Int), t + n = 8 → 0 ≤ t → out.length + n ≤ 20 → (∀ u ∈ out, 0 ≤ u ∧ u ≤ 7) → 4000 + 100 * n < k → impl_pieceTurns.l0 k out (out.map T) t p.f0 p.f1 p.f2 p.f3 = some (turnsFrom T n out t, (turnsFrom T n out t).map T) := by
 intro n
 induction n with
 | zero =>
  intro k out t h h0 hl hr hk
  obtain ⟨k, rfl⟩ : ∃ m, k = m + 2 := ⟨k - 2, by omega⟩
  simp only [impl_pieceTurns.l0]
  rw [if_neg (by omega)]
  simp only [impl_pieceTurns.j1]
  rfl
 | succ n ih =>
  intro k out t h h0 hl hr hk
  obtain ⟨k, rfl⟩ : ∃ m, k = m + 2 := ⟨k - 2, by omega⟩
  simp only [impl_pieceTurns.l0]
  rw [if_pos (by omega)]
  simp only [impl_pieceTurns.j1]
  rw [if_pos hp, (hT t (by omega)).2 k (by omega)]
  simp only [Option.bind_some]
  rw [contains_eq (out.map T) (T t) (by
   intro c hc
   obtain ⟨u, hu, rfl⟩ := List.mem_map.1 hc
   have := (hT u (hr u hu)).1; omega) (by simp; omega) k (by omega), any_fresh]
  simp only [Option.bind_some]
  rw [w64 (by omega) (by omega), turnsFrom]
  by_cases hf : fresh T out t = true
  · rw [hf, if_neg (by simp), if_pos (by simp; omega), if_pos (by simp; omega), if_pos rfl]
    rw [show out.map T ++ [T t] = (out ++ [t]).map T by simp]
    refine ih k _ (t + 1) (by omega) (by omega) (by simp; omega) ?_ (by omega)
    intro u hu
    rcases List.mem_append.1 hu with h | h
    · exact hr u h
    · rw [List.mem_singleton] at h; subst h; omega
  · rw [if_neg hf, if_pos (by simpa using hf)]
    exact ih k _ (t + 1) (by omega) (by omega) (by omega) hr (by omega)
theorem turns_eq (p : S53) (hn : 1 ≤ p.f1.length ∧ p.f1.length ≤ 6) (hm : ∀ q ∈ p.f1, in5 q) : ∃ (r : List Int) (c : List (List S105)), r.length ≤ 8 ∧ ∀ k, 6000 < k → spec_l19Turns.f k [p] = some r ∧ impl_pieceTurns.f k p.f0 p.f1 p.f2 p.f3 = some (r, c) := by
 have hex : ∃ T : Int → List S105, ∀ t : Int, 0 ≤ t ∧ t ≤ 7 → (T t).length ≤ 6 ∧ ∀ k, 1000 < k → spec_l19Turned.f k [p] t = some (T t) ∧ impl_turnedCells.f k p.f0 p.f1 p.f2 p.f3 t = some (T t) := by
  have hh : ∀ t : Int, ∃ r : List S105, 0 ≤ t ∧ t ≤ 7 → r.length ≤ 6 ∧ ∀ k, 1000 < k → spec_l19Turned.f k [p] t = some r ∧ impl_turnedCells.f k p.f0 p.f1 p.f2 p.f3 t = some r := by
   intro t
   by_cases ht : 0 ≤ t ∧ t ≤ 7
   · obtain ⟨r, h1, h2, _⟩ := turned_eq p t ht hn hm
     exact ⟨r, fun _ => ⟨by omega, h1⟩⟩
   · exact ⟨[], fun h => absurd h ht⟩
  exact ⟨fun t => (hh t).choose, fun t => (hh t).choose_spec⟩
 obtain ⟨T, hT⟩ := hex
 have hS := fun t (ht : 0 ≤ t ∧ t ≤ 7) => (⟨(hT t ht).1, fun k hk => ((hT t ht).2 k hk).1⟩ : (T t).length ≤ 6 ∧ ∀ k, 1000 < k → spec_l19Turned.f k [p] t = some (T t))
 have hI := fun t (ht : 0 ≤ t ∧ t ≤ 7) => (⟨(hT t ht).1, fun k hk => ((hT t ht).2 k hk).2⟩ : (T t).length ≤ 6 ∧ ∀ k, 1000 < k → impl_turnedCells.f k p.f0 p.f1 p.f2 p.f3 t = some (T t))
 have h0 : ∀ u ∈ ([0] : List Int), 0 ≤ u ∧ u ≤ 7 := by intro u hu; rw [List.mem_singleton] at hu; omega
 have hr : rd_T53 [p] 0 = p := rfl
 cases hp : p.f3 with
 | true =>
  refine ⟨turnsFrom T 7 [0] 1, (turnsFrom T 7 [0] 1).map T, turnsFrom_len T 7 [0] 1, fun k hk => ⟨?_, ?_⟩⟩
  · unfold spec_l19Turns.f
    simp only [Option.bind_some, hr]
    rw [if_pos (by simp), if_pos hp]
    exact specTurns_out p T hS 7 k [0] 1 (by omega) (by omega) (by simp) h0 (by omega)
  · unfold impl_pieceTurns.f
    rw [← hp, (hI 0 (by omega)).2 k (by omega)]
    simp only [Option.bind_some]
    exact implTurns_out p hp T hI 7 k [0] 1 (by omega) (by omega) (by simp) h0 (by omega)
 | false =>
  refine ⟨[0], [T 0], by simp, fun k hk => ⟨?_, ?_⟩⟩
  · unfold spec_l19Turns.f
    simp only [Option.bind_some, hr]
    rw [if_pos (by simp), if_neg (by rw [hp]; simp)]
  · obtain ⟨k, rfl⟩ : ∃ m, k = m + 2 := ⟨k - 2, by omega⟩
    unfold impl_pieceTurns.f
    rw [← hp, (hI 0 (by omega)).2 (k + 2) (by omega)]
    simp only [Option.bind_some, impl_pieceTurns.l0]
    rw [if_pos (by omega)]
    simp only [impl_pieceTurns.j1]
    rw [if_neg (by rw [hp]; simp)]
theorem turnsof_same (p : S53) : ∃ r : List Int × Int, r.1.length ≤ 1000 ∧ ∀ k, 7000 < k → spec_TurnsOfPiece.f k p.f0 p.f1 p.f2 p.f3 = some r ∧ impl_TurnsOfPiece.f k p.f0 p.f1 p.f2 p.f3 = some r := by
 obtain ⟨b, hb0, hb⟩ := piece_eq p
 cases b with
 | false =>
  refine ⟨([], 1), by simp, fun k hk => ?_⟩
  obtain ⟨q1, q2⟩ := hb k (by omega)
  unfold spec_TurnsOfPiece.f impl_TurnsOfPiece.f
  rw [show (⟨p.f0, p.f1, p.f2, p.f3⟩ : S53) = p from rfl, q1, q2]
  exact ⟨rfl, rfl⟩
 | true =>
  obtain ⟨hn, hm⟩ := hb0 rfl
  obtain ⟨r, c, hl, ht⟩ := turns_eq p hn hm
  refine ⟨(r, 0), by simp; omega, fun k hk => ?_⟩
  obtain ⟨q1, q2⟩ := hb k (by omega)
  obtain ⟨t1, t2⟩ := ht k (by omega)
  unfold spec_TurnsOfPiece.f impl_TurnsOfPiece.f
  rw [show (⟨p.f0, p.f1, p.f2, p.f3⟩ : S53) = p from rfl, q1, q2]
  simp only [Option.bind_some, if_true, t1, t2, and_self]
theorem FnExactTurnsOfPiece : laws_FnExactTurnsOfPiece.Pure := by
 intro s l c d ⟨hs, ⟨hl, _⟩, _, _⟩
 obtain ⟨k, hk⟩ : ∃ k : Nat, k = 1049300 := ⟨_, rfl⟩
 refine ⟨k + 1 + 1 + 1, ?_⟩
 obtain ⟨v, hv, hv2⟩ := szPiece_eq s l c d 1048576 (by omega) (by omega) hs hl
 unfold laws_FnExactTurnsOfPiece.f
 rw [hv]
 simp only [Option.bind_some]
 rcases hv2 with h | ⟨h1, h2, h3⟩
 · rw [if_pos h]
 obtain ⟨r, hr, hs2⟩ := turnsof_same ⟨s, l.map toPt, c, d⟩
 simp only at hs2
 have hml : (l.map toPt).length ≤ 1048576 := by rw [List.length_map]; exact h3
 have ho : ∀ k, 2000 ≤ k → laws_eqInt64S.f k r.1 r.1 = some true := fun k hk => eqInt64S_eq r.1 (by omega) k (by omega)
 have hmm := markPts_eq (l.map toPt) hml 1 (by omega) (by omega)
 rw [if_neg (by omega), toPiece_eq s l c d h3 (k + 1 + 1 + 1) (by omega)]
 simp only [Option.bind_some]
 rw [(hs2 (k + 1 + 1 + 1) (by omega)).1, (hs2 (k + 1 + 1 + 1) (by omega)).2]
 simp only [Option.bind_some, ho (k + 1 + 1 + 1) (by omega), if_true, bne_self_eq_false, laws_FnExactTurnsOfPiece.j0, Bool.false_eq_true, if_false]
 rw [toPiece_eq s l c d h3 (k + 1 + 1) (by omega)]
 simp only [Option.bind_some, eqPiece_eq s (l.map toPt) c d hml (k + 1 + 1) (by omega), if_true]
 unfold laws_markPiece.f
 rw [hmm (k + 1 + 1) (by omega)]
 simp only [Option.bind_some]
 rw [if_neg (by omega)]
 simp only [ho (k + 1 + 1) (by omega), Option.bind_some, if_true, laws_FnExactTurnsOfPiece.j1, Bool.false_eq_true, if_false]
 rw [markInts_eq r.1 (by omega) 1 (by omega) (by omega) (k + 1) (by omega)]
 simp only [Option.bind_some]
 rw [heldInts_eq r.1.length (by omega) 1 (by omega) (by omega) (k + 1) (by omega)]
 simp only [Option.bind_some]
 rw [if_neg (by omega)]
 simp only [if_true]
 rw [toPiece_eq s l c d h3 (k + 1) (by omega)]
 simp only [Option.bind_some]
 rw [(hs2 (k + 1) (by omega)).2]
 simp only [Option.bind_some, ho (k + 1) (by omega), if_true, bne_self_eq_false, laws_FnExactTurnsOfPiece.j2, Bool.false_eq_true, if_false]
 rw [heldInts_eq r.1.length (by omega) 1 (by omega) (by omega) k (by omega)]
 simp only [Option.bind_some]
 rw [if_neg (by omega)]
 simp
end Go.Proofs.Ytakagkflgkoiiaa.Pure

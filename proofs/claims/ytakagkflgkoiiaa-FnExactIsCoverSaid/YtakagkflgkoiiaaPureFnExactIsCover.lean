/- FnExactIsCover: the program's IsCover returns what the reference's returns, for all arguments; no condition. -/
import Derived.Test.YtakagkflgkoiiaaGFnExactIsCoverx26
namespace Go.Proofs.Ytakagkflgkoiiaa.Pure
open Go.RowKit Go.Proofs.Ytakagkflgkoiiaa.GFnExactIsCover Go.Proofs.YtakagkflgkoiiaaW.PrintWords Go.Proofs.YtakagkflgkoiiaaW.PrintLast
set_option linter.unusedSimpArgs false
set_option linter.unusedVariables false
set_option linter.unusedSectionVars false
theorem w64 {x : Int} (h0 : -9223372036854775808 ≤ x) (h1 : x ≤ 9223372036854775807) : wrap64 x = x := by
 unfold wrap64; omega
theorem within_eq (a b c : Int) : impl_within.f a b c = some (decide (b ≤ a ∧ a ≤ c)) := by
 unfold impl_within.f
 by_cases h : a ≥ b
 · rw [if_pos h]; simp [h]
 · rw [if_neg h]; simp; omega
theorem l00In_eq (a b c : Int) : spec_l00In.f a b c = some (decide (b ≤ a ∧ a ≤ c)) := by
 unfold spec_l00In.f
 by_cases h : a ≥ b
 · rw [if_pos h]; simp [h]
 · rw [if_neg h]; simp; omega
/-- a row that is made and then filled, element by element -/
theorem loop_map {α β : Type} (xs : List α) (z : β) (c : α → β) (L : Nat → List β → Int → Option (List β))
 (hs : ∀ (k : Nat) (s : List β) (i : Nat) (h : i < xs.length), s.length = xs.length → L (k + 1) s (i : Int) = L k (s.set i (c xs[i])) ((i + 1 : Nat) : Int))
 (he : ∀ (k : Nat) (s : List β), L (k + 1) s (xs.length : Int) = some s) (k : Nat) (hk : xs.length < k) :
 L k (List.replicate xs.length z) 0 = some (xs.map c) := by
 have key : ∀ (n i k : Nat) (s : List β), i + n = xs.length → n < k → s.length = xs.length → s.take i = (xs.map c).take i → L k s (i : Int) = some (xs.map c) := by
  intro n
  induction n with
  | zero =>
   intro i k s hi hk hl ht
   obtain ⟨k, rfl⟩ : ∃ m, k = m + 1 := ⟨k - 1, by omega⟩
   obtain rfl : i = xs.length := by omega
   have h1 : s.take xs.length = s := List.take_of_length_le (by omega)
   rw [he, ← h1, ht, List.take_of_length_le (by simp)]
  | succ n ih =>
   intro i k s hi hk hl ht
   obtain ⟨k, rfl⟩ : ∃ m, k = m + 1 := ⟨k - 1, by omega⟩
   have hlt : i < xs.length := by omega
   rw [hs k s i hlt hl]
   refine ih (i + 1) k _ (by omega) (by omega) (by rw [List.length_set]; exact hl) ?_
   rw [List.take_succ_eq_append_getElem (by rw [List.length_set]; omega), List.take_succ_eq_append_getElem (by rw [List.length_map]; omega), List.take_set_of_le (by omega), ht]
   simp
 have := key xs.length 0 k (List.replicate xs.length z) (by omega) hk (by simp) (by simp)
 simpa using this
theorem wnat {n : Nat} (h : n < 9223372036854775807) : wrap64 ((n : Int) + 1) = ((n + 1 : Nat) : Int) := by
 unfold wrap64; omega
theorem loop_all {β : Type} (n K0 : Nat) (L : Nat → Int → Option β) (r : β) (hs : ∀ (k i : Nat), K0 ≤ k → i < n → L (k + 1) (i : Int) = L k ((i + 1 : Nat) : Int)) (he : ∀ k : Nat, L (k + 1) (n : Int) = some r)
 (k : Nat) (hk : K0 + n < k) : L k 0 = some r := by
 have key : ∀ (m i k : Nat), i + m = n → K0 + m < k → L k (i : Int) = some r := by
  intro m
  induction m with
  | zero =>
   intro i k hi hk
   obtain ⟨k, rfl⟩ : ∃ m, k = m + 1 := ⟨k - 1, by omega⟩
   obtain rfl : i = n := by omega
   exact he k
  | succ m ih =>
   intro i k hi hk
   obtain ⟨k, rfl⟩ : ∃ m, k = m + 1 := ⟨k - 1, by omega⟩
   rw [hs k i (by omega) (by omega)]
   exact ih (i + 1) k (by omega) (by omega)
 simpa using key n 0 k (by omega) hk
theorem all_from {α β : Type} (xs : List α) (K0 : Nat) (p : α → Bool) (r0 r1 : β) (L : Nat → Int → Option β)
 (hs : ∀ (k i : Nat) (h : i < xs.length), K0 ≤ k → L (k + 1) (i : Int) = if p xs[i] = true then L k ((i + 1 : Nat) : Int) else some r0)
 (he : ∀ k : Nat, K0 ≤ k → L (k + 1) (xs.length : Int) = some r1) : ∀ (n i k : Nat), i + n = xs.length → K0 + n < k → L k (i : Int) = some (if (xs.drop i).all p = true then r1 else r0) := by
 intro n
 induction n with
 | zero =>
  intro i k hi hk
  obtain ⟨k, rfl⟩ : ∃ m, k = m + 1 := ⟨k - 1, by omega⟩
  obtain rfl : i = xs.length := by omega
  rw [he k (by omega), List.drop_length]; rfl
 | succ n ih =>
  intro i k hi hk
  obtain ⟨k, rfl⟩ : ∃ m, k = m + 1 := ⟨k - 1, by omega⟩
  have hlt : i < xs.length := by omega
  rw [hs k i hlt (by omega), List.drop_eq_getElem_cons hlt, List.all_cons]
  cases hp : p xs[i] with
  | true => rw [if_pos rfl, ih (i + 1) k (by omega) (by omega), Bool.true_and]
  | false => simp
theorem all_loop {α β : Type} (xs : List α) (K0 : Nat) (p : α → Bool) (r0 r1 : β) (L : Nat → Int → Option β)
 (hs : ∀ (k i : Nat) (h : i < xs.length), K0 ≤ k → L (k + 1) (i : Int) = if p xs[i] = true then L k ((i + 1 : Nat) : Int) else some r0)
 (he : ∀ k : Nat, K0 ≤ k → L (k + 1) (xs.length : Int) = some r1) (k : Nat) (hk : K0 + xs.length < k) : L k 0 = some (if xs.all p = true then r1 else r0) := by
 simpa using all_from xs K0 p r0 r1 L hs he xs.length 0 k (by omega) hk
theorem idx_from {α : Type} (xs : List α) (K0 : Nat) (q : α → Bool) (L : Nat → Int → Option Int)
 (hs : ∀ (k i : Nat) (h : i < xs.length), K0 ≤ k → L (k + 1) (i : Int) = if q xs[i] = true then some (i : Int) else L k ((i + 1 : Nat) : Int))
 (he : ∀ k : Nat, K0 ≤ k → L (k + 1) (xs.length : Int) = some (-1)) : ∀ (n i k : Nat), i + n = xs.length → K0 + n < k → ∃ r, L k (i : Int) = some r ∧ decide (r ≥ 0) = (xs.drop i).any q := by
 intro n
 induction n with
 | zero =>
  intro i k hi hk
  obtain ⟨k, rfl⟩ : ∃ m, k = m + 1 := ⟨k - 1, by omega⟩
  obtain rfl : i = xs.length := by omega
  exact ⟨-1, he k (by omega), by rw [List.drop_length]; rfl⟩
 | succ n ih =>
  intro i k hi hk
  obtain ⟨k, rfl⟩ : ∃ m, k = m + 1 := ⟨k - 1, by omega⟩
  have hlt : i < xs.length := by omega
  rw [hs k i hlt (by omega), List.drop_eq_getElem_cons hlt, List.any_cons]
  cases hp : q xs[i] with
  | true => exact ⟨i, by rw [if_pos rfl], by simp⟩
  | false =>
   obtain ⟨r, h1, h2⟩ := ih (i + 1) k (by omega) (by omega)
   exact ⟨r, by rw [if_neg (by simp)]; exact h1, by rw [h2]; simp⟩
theorem idx_loop {α : Type} (xs : List α) (K0 : Nat) (q : α → Bool) (L : Nat → Int → Option Int)
 (hs : ∀ (k i : Nat) (h : i < xs.length), K0 ≤ k → L (k + 1) (i : Int) = if q xs[i] = true then some (i : Int) else L k ((i + 1 : Nat) : Int))
 (he : ∀ k : Nat, K0 ≤ k → L (k + 1) (xs.length : Int) = some (-1)) (k : Nat) (hk : K0 + xs.length < k) : ∃ r, L k 0 = some r ∧ decide (r ≥ 0) = xs.any q := by
 simpa using idx_from xs K0 q L hs he xs.length 0 k (by omega) hk
theorem any_not {α : Type} (l : List α) (p : α → Bool) : l.any (fun x => !p x) = !l.all p := by
 induction l with
 | nil => rfl
 | cons x l ih => rw [List.any_cons, List.all_cons, ih]; cases p x <;> simp
theorem rdi (xs : List Int) (i : Nat) (h : i < xs.length) : rd xs (i : Int) = xs[i] := by
 unfold rd; simp [List.getD, h]
theorem eqInt64S_eq (l : List Int) (hl : l.length ≤ 1048576) (k : Nat) (hk : l.length < k) : laws_eqInt64S.f k l l = some true := by
 unfold laws_eqInt64S.f
 rw [if_pos rfl]
 refine loop_all l.length 0 (fun k i => laws_eqInt64S.l0 k l l i) true ?_ ?_ k (by omega)
 · intro k i _ h
   simp only [laws_eqInt64S.l0]
   rw [if_pos (by omega), if_pos (by omega), if_pos (by omega), wnat (by omega)]; simp
 · intro k
   simp only [laws_eqInt64S.l0]
   rw [if_neg (by omega)]
theorem toInt64S_eq (l : List Int) (hl : l.length ≤ 1048576) (k : Nat) (hk : l.length < k) : laws_toInt64S.f k l = some l := by
 unfold laws_toInt64S.f
 rw [if_pos (by omega), if_pos (by omega), show ((l.length : Int)).toNat = l.length by omega]
 have := loop_map l (0 : Int) (fun x => x) (fun k s i => laws_toInt64S.l0 k l s i) (by
  intro k s i h hs
  simp only [laws_toInt64S.l0]
  rw [if_pos (by omega), if_pos (by omega), if_pos (by omega), rdi l i h, wnat (by omega)]
  rfl) (by
  intro k s
  simp only [laws_toInt64S.l0]
  rw [if_neg (by omega)]) k hk
 simpa using this
theorem szShape_eq (a b : Int) (l : List Int) (hl : l.length ≤ maxLen) : laws_szShape.f a b l 1048576 = some (if (1048576 : Int) < l.length then (-1 : Int) else 1048576 - (l.length : Int)) := by
 unfold maxLen at hl
 unfold laws_szShape.f laws_szInt64S.f
 rw [w64 (x := 1048576 - (l.length : Int)) (by omega) (by omega)]
 by_cases h : (1048576 : Int) < l.length
 · rw [if_pos h, if_pos (by omega)]; rfl
 · rw [if_neg h, if_neg (by omega)]
   simp only [Option.bind_some]
   rw [if_neg (by omega)]
theorem toShape_eq (a b : Int) (l : List Int) (hl : l.length ≤ 1048576) (k : Nat) (hk : l.length < k) : laws_toShape.f k a b l = some (a, b, l) := by
 unfold laws_toShape.f
 rw [toInt64S_eq l hl k hk]; rfl
theorem eqShape_eq (a b : Int) (l : List Int) (hl : l.length ≤ 1048576) (k : Nat) (hk : l.length < k) : laws_eqShape.f k a b l a b l = some true := by
 unfold laws_eqShape.f
 simp [eqInt64S_eq l hl k hk]
def bit (x : Int) : Bool := decide (0 ≤ x ∧ x ≤ 1)
def okSh (a b : Int) (l : List Int) : Bool := decide (1 ≤ a ∧ a ≤ 12) && (decide (1 ≤ b ∧ b ≤ 12) && (decide ((l.length : Int) = a * b) && l.all bit))
theorem okSh_spec {a b : Int} {l : List Int} (h : okSh a b l = true) : (1 ≤ a ∧ a ≤ 12) ∧ (1 ≤ b ∧ b ≤ 12) ∧ (l.length : Int) = a * b ∧ l.all bit = true := by
 unfold okSh at h
 simpa using h
theorem mul12 {a b : Int} (ha : 1 ≤ a ∧ a ≤ 12) (hb : 1 ≤ b ∧ b ≤ 12) : 1 ≤ a * b ∧ a * b ≤ 144 := by
 have h1 : (1 : Int) * 1 ≤ a * b := Int.mul_le_mul ha.1 hb.1 (by omega) (by omega)
 have h2 : a * b ≤ (12 : Int) * 12 := Int.mul_le_mul ha.2 hb.2 (by omega) (by omega)
 omega
theorem specShape (a b : Int) (l : List Int) (hl : l.length ≤ 1048576) (k : Nat) (hk : l.length + 1 < k) : spec_l19Ok.f k [(⟨a, b, l⟩ : S27)] = some (okSh a b l) := by
 have r : rd_T27 [(⟨a, b, l⟩ : S27)] 0 = ⟨a, b, l⟩ := rfl
 obtain ⟨k, rfl⟩ : ∃ m, k = m + 1 := ⟨k - 1, by omega⟩
 have hlp : spec_l19Ok.l0 k 0 [(⟨a, b, l⟩ : S27)] = some (if l.all bit = true then true else false) := by
  refine all_loop l 0 bit false true (fun k i => spec_l19Ok.l0 k i [(⟨a, b, l⟩ : S27)]) ?_ ?_ k (by omega)
  · intro k i hi _
    simp only [spec_l19Ok.l0, r]
    rw [if_pos (by simp), if_pos (by omega), if_pos (by omega), rdi l i hi, wnat (by omega), l00In_eq]
    rfl
  · intro k _
    simp only [spec_l19Ok.l0, r]
    rw [if_pos (by simp), if_neg (by omega)]
 unfold spec_l19Ok.f okSh
 rw [if_pos (by simp), r, l00In_eq, l00In_eq]
 simp only [Option.bind_some, spec_l19Ok.j0, hlp]
 by_cases ha : 1 ≤ a ∧ a ≤ 12
 · by_cases hb : 1 ≤ b ∧ b ≤ 12
   · have := mul12 ha hb
     rw [w64 (x := a * b) (by omega) (by omega)]
     by_cases hm : (l.length : Int) = a * b
     · cases hh : l.all bit <;> simp [ha, hb, hm]
     · simp [ha, hb, hm]
   · simp [ha, hb]
 · simp [ha]
theorem implShape (a b : Int) (l : List Int) (hl : l.length ≤ 1048576) (k : Nat) (hk : l.length + 1 < k) : impl_ValidShape.f k a b l = some (okSh a b l) := by
 unfold impl_ValidShape.f okSh
 rw [within_eq, within_eq]
 have he : fi58_59.f k l = some (!l.all bit) := by
  unfold fi58_59.f fi86_59.f
  obtain ⟨r, h1, h2⟩ := idx_loop l 0 (fun x => !bit x) (fun k i => fi86_59.l0 k l (l.length : Int) i) (by
   intro k i hi _
   simp only [fi86_59.l0]
   rw [if_pos (by omega), if_pos (by omega), if_pos (by omega), rdi l i hi, wnat (by omega)]
   unfold impl_ValidShape_1.f
   rw [within_eq]
   rfl) (by
   intro k _
   simp only [fi86_59.l0]
   rw [if_neg (by omega)]) k (by omega)
  rw [h1]
  simp only [Option.bind_some]
  rw [h2, any_not]
 simp only [Option.bind_some, he]
 by_cases ha : 1 ≤ a ∧ a ≤ 12
 · by_cases hb : 1 ≤ b ∧ b ≤ 12
   · have := mul12 ha hb
     rw [w64 (x := a * b) (by omega) (by omega)]
     by_cases hm : (l.length : Int) = a * b
     · simp [ha, hb, hm]
     · simp [ha, hb, hm]
   · simp [ha, hb]
 · simp [ha]
theorem nil_iff (s : ByteArray) : s.toList = [] ↔ s.size = 0 := by
 rw [ByteArray.toList_eq]
 constructor
 · intro h
   have : s.data.toList.length = 0 := by rw [h]; rfl
   rw [Array.length_toList] at this; exact this
 · intro h
   apply List.eq_nil_of_length_eq_zero
   rw [Array.length_toList]; exact h
theorem small_eq (c : Int) : spec_l01Small.f c = some (decide (97 ≤ c ∧ c ≤ 122)) := by
 unfold spec_l01Small.f
 by_cases h : c ≥ 97
 · rw [if_pos h]; simp [h]
 · rw [if_neg h]; simp; omega
theorem digit_eq (c : Int) : spec_l01Digit.f c = some (decide (48 ≤ c ∧ c ≤ 57)) := by
 unfold spec_l01Digit.f
 by_cases h : c ≥ 48
 · rw [if_pos h]; simp [h]
 · rw [if_neg h]; simp; omega
theorem name_loop (s : ByteArray) (hs : s.size ≤ 10) : ∀ (n i k : Nat), i + n = s.size → n < k →
 ∃ b, spec_l01Name.l0 k s (i : Int) = some b ∧ impl_IsName.l0 k s (i : Int) = some b := by
 intro n
 induction n with
 | zero =>
  intro i k hi hk
  obtain ⟨k, rfl⟩ : ∃ m, k = m + 1 := ⟨k - 1, by omega⟩
  simp only [spec_l01Name.l0, impl_IsName.l0]
  exact ⟨true, by rw [if_neg (by omega)], by rw [if_neg (by omega)]⟩
 | succ n ih =>
  intro i k hi hk
  obtain ⟨k, rfl⟩ : ∃ m, k = m + 1 := ⟨k - 1, by omega⟩
  obtain ⟨b, e1, e2⟩ := ih (i + 1) k (by omega) (by omega)
  have hw : wrap64 ((i : Int) + 1) = ((i + 1 : Nat) : Int) := wnat (by omega)
  have a1 : (i : Int) < (s.size : Int) := by omega
  have a2 : (0 : Int) ≤ (i : Int) := by omega
  simp only [spec_l01Name.l0, impl_IsName.l0, small_eq, digit_eq, Option.bind_some, decide_eq_true_eq, a1, a2, if_true, hw, e1, e2]
  generalize bt s (i : Int) = c
  by_cases h1 : c < 97
  · by_cases h2 : c < 48
    · exact ⟨false, by simp [h1, h2, show ¬ (97 ≤ c ∧ c ≤ 122) by omega, show ¬ (48 ≤ c ∧ c ≤ 57) by omega], by simp [h1, h2]⟩
    · by_cases h3 : c > 57
      · exact ⟨false, by simp [show ¬ (97 ≤ c ∧ c ≤ 122) by omega, show ¬ (48 ≤ c ∧ c ≤ 57) by omega], by simp [h1, h2, h3]⟩
      · exact ⟨b, by simp [show ¬ (97 ≤ c ∧ c ≤ 122) by omega, show (48 ≤ c ∧ c ≤ 57) by omega], by simp [h1, h2, h3]⟩
  · by_cases h4 : c > 122
    · exact ⟨false, by simp [show ¬ (97 ≤ c ∧ c ≤ 122) by omega, show ¬ (48 ≤ c ∧ c ≤ 57) by omega], by simp [h1, h4, show ¬ (c < 48) by omega, show c > 57 by omega]⟩
    · exact ⟨b, by simp [show (97 ≤ c ∧ c ≤ 122) by omega], by simp [h1, h4]⟩
theorem name_eq (s : ByteArray) : ∃ b : Bool, (∀ k, 13 ≤ k → spec_l01Name.f k s = some b ∧ impl_IsName.f k s = some b) := by
 have fin : ∃ b : Bool, spec_l01Name.f 13 s = some b ∧ impl_IsName.f 13 s = some b := by
  unfold spec_l01Name.f impl_IsName.f
  by_cases h0 : s.size = 0
  · exact ⟨false, by simp [(nil_iff s).2 h0, spec_l01Name.j0], by simp [show (s.size : Int) < 1 by omega, impl_IsName.j0]⟩
  · have n0 : ¬ s.toList = [] := fun h => h0 ((nil_iff s).1 h)
    have n1 : ¬ (s.size : Int) < 1 := by omega
    by_cases h1 : (s.size : Int) > 10
    · exact ⟨false, by simp [n0, h1, spec_l01Name.j0], by simp [n1, h1, impl_IsName.j0]⟩
    · have n2 : (0 : Int) < (s.size : Int) := by omega
      simp only [n0, n1, h1, n2, if_true, if_false, small_eq, Option.bind_some]
      obtain ⟨b, e1, e2⟩ := name_loop s (by omega) s.size 0 12 (by omega) (by omega)
      have e1' : spec_l01Name.l0 12 s 0 = some b := e1
      have e2' : impl_IsName.l0 12 s 0 = some b := e2
      generalize bt s 0 = c
      by_cases h2 : c < 97
      · exact ⟨false, by simp [spec_l01Name.j0, show ¬ (97 ≤ c ∧ c ≤ 122) by omega], by simp [impl_IsName.j0, h2]⟩
      · by_cases h3 : c > 122
        · exact ⟨false, by simp [spec_l01Name.j0, show ¬ (97 ≤ c ∧ c ≤ 122) by omega], by simp [impl_IsName.j0, h2, h3]⟩
        · exact ⟨b, by simp [spec_l01Name.j0, show (97 ≤ c ∧ c ≤ 122) by omega, e1'], by simp [impl_IsName.j0, h2, show ¬ (c > 122) by omega, e2']⟩
 obtain ⟨b, e1, e2⟩ := fin
 exact ⟨b, fun k hk => ⟨at_rounds (g := fun k => spec_l01Name.f k s) (fun k => spec_l01Name.mono s k) hk e1, at_rounds (g := fun k => impl_IsName.f k s) (fun k => impl_IsName.mono s k) hk e2⟩⟩
theorem rd47 (xs : List S47) (i : Nat) (h : i < xs.length) : rd_T47 xs (i : Int) = xs[i] := by
 unfold rd_T47; simp [List.getD, h]
theorem rd53 (xs : List S53) (i : Nat) (h : i < xs.length) : rd_T53 xs (i : Int) = xs[i] := by
 unfold rd_T53; simp [List.getD, h]
theorem rd105 (xs : List S105) (i : Nat) (h : i < xs.length) : rd_T105 xs (i : Int) = xs[i] := by
 unfold rd_T105; simp [List.getD, h]
theorem rd123 (xs : List S123) (i : Nat) (h : i < xs.length) : rd_T123 xs (i : Int) = xs[i] := by
 unfold rd_T123; simp [List.getD, h]
def toPt (x : S123) : S105 := ⟨x.f0, x.f1⟩
def toPc (x : S47) : S53 := ⟨x.f0, x.f1.map toPt, x.f2, x.f3⟩
theorem toPointS_eq (l : List S123) (hl : l.length ≤ 1048576) (k : Nat) (hk : l.length < k) : laws_toPointS.f k l = some (l.map toPt) := by
 unfold laws_toPointS.f
 rw [if_pos (by omega), if_pos (by omega), show ((l.length : Int)).toNat = l.length by omega]
 refine loop_map l z105 toPt (fun k s i => laws_toPointS.l0 k l s i) ?_ ?_ k hk
 · intro k s i h hs
   simp only [laws_toPointS.l0]
   rw [if_pos (by omega), if_pos (by omega), rd123 l i h]
   unfold laws_toPoint.f
   simp only [Option.bind_some]
   rw [if_pos (by omega), wnat (by omega)]
   rfl
 · intro k s
   simp only [laws_toPointS.l0]
   rw [if_neg (by omega)]
theorem eqPointS_eq (l : List S105) (hl : l.length ≤ 1048576) (k : Nat) (hk : l.length < k) : laws_eqPointS.f k l l = some true := by
 unfold laws_eqPointS.f
 rw [if_pos rfl]
 refine loop_all l.length 0 (fun k i => laws_eqPointS.l0 k l l i) true ?_ ?_ k (by omega)
 · intro k i _ h
   simp only [laws_eqPointS.l0]
   rw [if_pos (by omega), if_pos (by omega), if_pos (by omega)]
   unfold laws_eqPoint.f
   simp only [if_true, Option.bind_some]
   rw [wnat (by omega)]
 · intro k
   simp only [laws_eqPointS.l0]
   rw [if_neg (by omega)]
theorem loop_mapK {α β : Type} (xs : List α) (z : β) (c : α → β) (K0 : Nat) (L : Nat → List β → Int → Option (List β))
 (hs : ∀ (k : Nat) (s : List β) (i : Nat) (h : i < xs.length), K0 ≤ k → s.length = xs.length → L (k + 1) s (i : Int) = L k (s.set (i : Int).toNat (c xs[i])) ((i + 1 : Nat) : Int))
 (he : ∀ (k : Nat) (s : List β), K0 ≤ k → L (k + 1) s (xs.length : Int) = some s) (k : Nat) (hk : K0 + xs.length < k) : L k (List.replicate xs.length z) 0 = some (xs.map c) := by
 have key : ∀ (n i k : Nat) (s : List β), i + n = xs.length → K0 + n < k → s.length = xs.length → s.take i = (xs.take i).map c → L k s (i : Int) = some (xs.map c) := by
  intro n
  induction n with
  | zero =>
   intro i k s hi hk hl ht
   obtain ⟨k, rfl⟩ : ∃ m, k = m + 1 := ⟨k - 1, by omega⟩
   obtain rfl : i = xs.length := by omega
   rw [he k s (by omega)]
   rw [List.take_of_length_le (by omega), List.take_length] at ht
   rw [ht]
  | succ n ih =>
   intro i k s hi hk hl ht
   obtain ⟨k, rfl⟩ : ∃ m, k = m + 1 := ⟨k - 1, by omega⟩
   have hlt : i < xs.length := by omega
   rw [hs k s i hlt (by omega) hl]
   refine ih (i + 1) k _ (by omega) (by omega) (by rw [List.length_set]; exact hl) ?_
   rw [show ((i : Nat) : Int).toNat = i by omega, List.take_succ_eq_append_getElem (by rw [List.length_set]; omega), List.take_succ_eq_append_getElem hlt, List.map_append, List.take_set_of_le (by omega), ht]
   simp
 simpa using key xs.length 0 k (List.replicate xs.length z) (by omega) (by omega) (by simp) (by simp)
theorem szPointS_eq (l : List S123) (a : Int) (ha : 0 ≤ a) (ha2 : a ≤ 1048576) (hl : l.length ≤ maxLen) : laws_szPointS.f l a = some (if a < l.length then -1 else a - l.length) := by
 unfold maxLen at hl
 unfold laws_szPointS.f
 rw [w64 (x := a - l.length) (by omega) (by omega)]
 by_cases h : a < l.length
 · rw [if_pos (by omega), if_pos h]
 · rw [if_neg (by omega), if_neg h]
theorem szPiece_eq (s : ByteArray) (l : List S123) (c : Int) (d : Bool) (a : Int) (ha : 0 ≤ a) (ha2 : a ≤ 1048576) (hs : s.size ≤ maxLen) (hl : l.length ≤ maxLen) :
 ∃ v, laws_szPiece.f s l c d a = some v ∧ (v < 0 ∨ 0 ≤ v ∧ v ≤ a ∧ l.length ≤ 1048576) := by
 unfold maxLen at hs
 unfold laws_szPiece.f
 rw [w64 (x := a - s.size) (by omega) (by omega)]
 by_cases h : a - s.size < 0
 · rw [if_pos h]; exact ⟨_, rfl, .inl (by omega)⟩
 · rw [if_neg h, szPointS_eq l _ (by omega) (by omega) hl]
   simp only [Option.bind_some]
   by_cases h2 : a - s.size < l.length
   · rw [if_pos h2, if_pos (by omega)]; exact ⟨_, rfl, .inl (by omega)⟩
   · rw [if_neg h2, if_neg (by omega)]; exact ⟨_, rfl, .inr ⟨by omega, by omega, by omega⟩⟩
theorem toPieceS_eq (l : List S47) (hl : l.length ≤ 1048576) (hg : ∀ y ∈ l, y.f1.length ≤ 1048576) (k : Nat) (hk : 2100000 < k) : laws_toPieceS.f k l = some (l.map toPc) := by
 unfold laws_toPieceS.f
 rw [if_pos (by omega), if_pos (by omega), show ((l.length : Int)).toNat = l.length by omega]
 refine loop_mapK l z53 toPc 1048577 (fun k s i => laws_toPieceS.l0 k l s i) ?_ ?_ k (by omega)
 · intro k s i h hk hs
   have := hg _ (List.getElem_mem h)
   simp only [laws_toPieceS.l0]
   rw [if_pos (by omega), if_pos (by omega), rd47 l i h]
   unfold laws_toPiece.f
   rw [toPointS_eq _ this k (by omega)]
   simp only [Option.bind_some]
   rw [if_pos (by omega), wnat (by omega)]
   rfl
 · intro k s _
   simp only [laws_toPieceS.l0]
   rw [if_neg (by omega)]
theorem eqPieceS_eq (l : List S53) (hl : l.length ≤ 1048576) (hg : ∀ y ∈ l, y.f1.length ≤ 1048576) (k : Nat) (hk : 2100000 < k) : laws_eqPieceS.f k l l = some true := by
 unfold laws_eqPieceS.f
 rw [if_pos rfl]
 refine loop_all l.length 1048577 (fun k i => laws_eqPieceS.l0 k l l i) true ?_ ?_ k (by omega)
 · intro k i hk h
   have := hg _ (List.getElem_mem h)
   simp only [laws_eqPieceS.l0]
   rw [if_pos (by omega), if_pos (by omega), if_pos (by omega), rd53 l i h]
   unfold laws_eqPiece.f
   rw [eqPointS_eq _ this k (by omega)]
   simp only [if_true, Option.bind_some, bne_self_eq_false, Bool.false_eq_true, if_false]
   rw [wnat (by omega)]
 · intro k
   simp only [laws_eqPieceS.l0]
   rw [if_neg (by omega)]
theorem szPieceS_at (l : List S47) (b : Int) (hb : 0 ≤ b) (hb2 : b ≤ 1048576) (hl : l.length ≤ maxLen) (hg : ∀ y ∈ l, G47 y) :
 ∃ v, (∀ k, 1048577 < k → laws_szPieceS.f k l b = some v) ∧ (v < 0 ∨ l.length ≤ 1048576 ∧ (∀ y ∈ l, y.f1.length ≤ 1048576) ∧ 0 ≤ v ∧ v ≤ 1048576) := by
 unfold maxLen at hl
 unfold laws_szPieceS.f
 rw [w64 (x := b - l.length) (by omega) (by omega)]
 by_cases h : b - (l.length : Int) < 0
 · exact ⟨-1, fun k _ => by rw [if_pos h], .inl (by decide)⟩
 have key : ∀ (n i : Nat) (a : Int), i + n = l.length → 0 ≤ a → a ≤ 1048576 → ∃ v, (∀ k, n < k → laws_szPieceS.l0 k l a (i : Int) = some v) ∧ (v < 0 ∨ (∀ (j : Nat) (hj : j < l.length), i ≤ j → l[j].f1.length ≤ 1048576) ∧ 0 ≤ v ∧ v ≤ 1048576) := by
  intro n
  induction n with
  | zero =>
   intro i a hi a0 a1
   refine ⟨a, fun k hk => ?_, .inr ⟨fun j hj hij => by omega, a0, a1⟩⟩
   obtain ⟨k, rfl⟩ : ∃ m, k = m + 1 := ⟨k - 1, by omega⟩
   simp only [laws_szPieceS.l0]
   rw [if_neg (by omega)]
  | succ n ih =>
   intro i a hi a0 a1
   have hlt : i < l.length := by omega
   obtain ⟨g0, ⟨g1, _⟩, _⟩ := hg _ (List.getElem_mem hlt)
   obtain ⟨v, e, hv⟩ := szPiece_eq l[i].f0 l[i].f1 l[i].f2 l[i].f3 a a0 a1 g0 g1
   rcases hv with hv | ⟨v0, v1, v2⟩
   · refine ⟨-1, fun k hk => ?_, .inl (by decide)⟩
     obtain ⟨k, rfl⟩ : ∃ m, k = m + 1 := ⟨k - 1, by omega⟩
     simp only [laws_szPieceS.l0]
     rw [if_pos (by omega), if_pos (by omega), rd47 l i hlt, e]
     simp only [Option.bind_some]
     rw [if_pos hv]
   · obtain ⟨u, e2, hu⟩ := ih (i + 1) v (by omega) v0 (by omega)
     refine ⟨u, fun k hk => ?_, ?_⟩
     · obtain ⟨k, rfl⟩ : ∃ m, k = m + 1 := ⟨k - 1, by omega⟩
       simp only [laws_szPieceS.l0]
       rw [if_pos (by omega), if_pos (by omega), rd47 l i hlt, e]
       simp only [Option.bind_some]
       rw [if_neg (by omega), wnat (by omega)]
       exact e2 k (by omega)
     · rcases hu with hu | hu
       · exact .inl hu
       · refine .inr ⟨fun j hj hij => ?_, hu.2⟩
         by_cases hji : j = i
         · subst hji; exact v2
         · exact hu.1 j hj (by omega)
 obtain ⟨v, e, hv⟩ := key l.length 0 (b - l.length) (by omega) (by omega) (by omega)
 refine ⟨v, fun k hk => by rw [if_neg h]; exact e k (by omega), ?_⟩
 rcases hv with hv | hv
 · exact .inl hv
 · refine .inr ⟨by omega, fun y hy => ?_, hv.2⟩
   obtain ⟨j, hj, rfl⟩ := List.getElem_of_mem hy
   exact hv.1 j hj (by omega)
def mnf (t x : Int) : Int := if t < x then t else x
theorem mn_eq (t x : Int) : mn t x = mnf t x := by
 unfold mn mnf
 by_cases h : t < x
 · rw [if_neg (by omega), if_pos h]
 · rw [if_neg h]
   by_cases h2 : x < t
   · rw [if_pos h2]
   · rw [if_neg h2]; omega
def lowX (l : List S105) (t : Int) : Int := l.foldl (fun t p => mnf t p.f0) t
def lowY (l : List S105) (t : Int) : Int := l.foldl (fun t p => mnf t p.f1) t
theorem specBounds (l : List S105) (hl : l.length ≤ 100) : ∀ (n i : Nat) (a b c d : Int), i + n = l.length → ∃ u v, ∀ k, n < k → spec_l03Bounds.l0 k l (i : Int) a b c d = some (lowX (l.drop i) a, lowY (l.drop i) b, u, v) := by
 intro n
 induction n with
 | zero =>
  intro i a b c d hi
  refine ⟨c, d, fun k hk => ?_⟩
  obtain ⟨k, rfl⟩ : ∃ m, k = m + 1 := ⟨k - 1, by omega⟩
  obtain rfl : i = l.length := by omega
  simp only [spec_l03Bounds.l0]
  rw [if_neg (by omega), List.drop_length]; rfl
 | succ n ih =>
  intro i a b c d hi
  have hlt : i < l.length := by omega
  obtain ⟨u, v, e⟩ := ih (i + 1) (mnf a l[i].f0) (mnf b l[i].f1) (if c > l[i].f0 then c else l[i].f0) (if d > l[i].f1 then d else l[i].f1) (by omega)
  refine ⟨u, v, fun k hk => ?_⟩
  obtain ⟨k, rfl⟩ : ∃ m, k = m + 1 := ⟨k - 1, by omega⟩
  have m1 : ∀ x y : Int, spec_l00Min.f x y = some (mnf x y) := fun x y => by
   unfold spec_l00Min.f mnf; split <;> rfl
  have m2 : ∀ x y : Int, spec_l00Max.f x y = some (if x > y then x else y) := fun x y => by
   unfold spec_l00Max.f; split <;> rfl
  simp only [spec_l03Bounds.l0]
  rw [if_pos (by omega), if_pos (by omega), rd105 l i hlt, m1, m1, m2, m2, wnat (by omega)]
  simp only [Option.bind_some]
  rw [e k (by omega), List.drop_eq_getElem_cons hlt]
  rfl
theorem implBounds (l : List S105) (hl : l.length ≤ 100) : ∀ (n i : Nat) (a b c d : Int), i + n = l.length → ∃ u v, ∀ k, n < k → impl_bounds.l0 k l (l.length : Int) (i : Int) a b c d = some (lowX (l.drop i) a, lowY (l.drop i) b, u, v) := by
 intro n
 induction n with
 | zero =>
  intro i a b c d hi
  refine ⟨c, d, fun k hk => ?_⟩
  obtain ⟨k, rfl⟩ : ∃ m, k = m + 1 := ⟨k - 1, by omega⟩
  obtain rfl : i = l.length := by omega
  simp only [impl_bounds.l0]
  rw [if_neg (by omega), List.drop_length]; rfl
 | succ n ih =>
  intro i a b c d hi
  have hlt : i < l.length := by omega
  obtain ⟨u, v, e⟩ := ih (i + 1) (mnf a l[i].f0) (mnf b l[i].f1) (mx c l[i].f0) (mx d l[i].f1) (by omega)
  refine ⟨u, v, fun k hk => ?_⟩
  obtain ⟨k, rfl⟩ : ∃ m, k = m + 1 := ⟨k - 1, by omega⟩
  simp only [impl_bounds.l0]
  rw [if_pos (by omega), if_pos (by omega), if_pos (by omega), rd105 l i hlt, mn_eq, mn_eq, wnat (by omega), e k (by omega), List.drop_eq_getElem_cons hlt]
  rfl
theorem bounds_eq (l : List S105) (hl : l.length ≤ 100) (hp : 0 < l.length) : ∃ x y u v u' v', ∀ k, 101 < k → spec_l03Bounds.f k l = some (x, y, u, v) ∧ impl_bounds.f k l = some (x, y, u', v') := by
 have hc := List.drop_eq_getElem_cons hp
 rw [List.drop_zero] at hc
 obtain ⟨u, v, e⟩ := specBounds l hl (l.length - 1) 1 l[0].f0 l[0].f1 l[0].f0 l[0].f1 (by omega)
 obtain ⟨u', v', e'⟩ := implBounds l hl l.length 0 l[0].f0 l[0].f1 l[0].f0 l[0].f1 (by omega)
 refine ⟨lowX (l.drop 1) l[0].f0, lowY (l.drop 1) l[0].f1, u, v, u', v', fun k hk => ⟨?_, ?_⟩⟩
 · unfold spec_l03Bounds.f
   rw [if_pos (by omega), show rd_T105 l 0 = l[0] from rd105 l 0 hp]
   exact e k (by omega)
 · unfold impl_bounds.f
   rw [if_pos (by omega), show rd_T105 l 0 = l[0] from rd105 l 0 hp]
   have := e' k (by omega)
   rw [show ((0 : Nat) : Int) = 0 from rfl] at this
   rw [this, List.drop_zero]
   have f1 : lowX l l[0].f0 = lowX (l.drop 1) l[0].f0 := by
    have h : lowX (l[0] :: l.drop (0 + 1)) l[0].f0 = lowX (l.drop 1) l[0].f0 := by
     show lowX (l.drop (0 + 1)) (mnf l[0].f0 l[0].f0) = _
     simp [mnf]
    rwa [← hc] at h
   have f2 : lowY l l[0].f1 = lowY (l.drop 1) l[0].f1 := by
    have h : lowY (l[0] :: l.drop (0 + 1)) l[0].f1 = lowY (l.drop 1) l[0].f1 := by
     show lowY (l.drop (0 + 1)) (mnf l[0].f1 l[0].f1) = _
     simp [mnf]
    rwa [← hc] at h
   rw [f1, f2]
def in5 (p : S105) : Prop := (0 ≤ p.f0 ∧ p.f0 ≤ 5) ∧ (0 ≤ p.f1 ∧ p.f1 ≤ 5)
def before (p q : S105) : Prop := p.f1 < q.f1 ∨ (p.f1 = q.f1 ∧ p.f0 < q.f0)
theorem before_spec (p q : S105) : ∃ b : Bool, spec_l19Before.f p.f0 p.f1 q.f0 q.f1 = some b ∧ (b = true ↔ before p q) := by
 unfold spec_l19Before.f before
 by_cases h1 : p.f1 < q.f1
 · exact ⟨true, by rw [if_pos h1], by simp [h1]⟩
 · by_cases h2 : p.f1 = q.f1
   · exact ⟨decide (p.f0 < q.f0), by rw [if_neg h1, if_pos h2], by simp [h2]⟩
   · exact ⟨false, by rw [if_neg h1, if_neg h2], by simp [h1, h2]⟩
theorem before_impl (p q : S105) (hp : in5 p) (hq : in5 q) : ∃ c : Int, impl_compareCells.f p.f0 p.f1 q.f0 q.f1 = some c ∧ (c < 0 ↔ before p q) := by
 obtain ⟨⟨a0, a1⟩, b0, b1⟩ := hp
 obtain ⟨⟨c0, c1⟩, d0, d1⟩ := hq
 unfold impl_compareCells.f before
 by_cases h2 : p.f1 = q.f1
 · exact ⟨p.f0 - q.f0, by rw [if_pos h2, w64 (by omega) (by omega)], by omega⟩
 · exact ⟨p.f1 - q.f1, by rw [if_neg h2, w64 (by omega) (by omega)], by omega⟩
theorem piece_loop (p : S53) (hn : p.f1.length ≤ 6) (hp : 1 ≤ p.f1.length) : ∀ (n i : Nat), i + n = p.f1.length → (∀ (j : Nat) (h : j < p.f1.length), j < i → in5 p.f1[j]) → ∃ b : Bool, (b = true → ∀ (j : Nat) (h : j < p.f1.length), in5 p.f1[j]) ∧ ∀ k, 200 + n < k → spec_l19Piece.l0 k (i : Int) [p] = some b ∧ impl_validPiece.l0 k p.f1 (p.f1.length : Int) (i : Int) p.f0 p.f1 p.f2 p.f3 = some b := by
 have r : rd_T53 [p] 0 = p := rfl
 intro n
 induction n with
 | zero =>
  intro i hi hj
  obtain ⟨x, y, u, v, u', v', e⟩ := bounds_eq p.f1 (by omega) (by omega)
  refine ⟨x == 0 && y == 0, fun _ j h => hj j h (by omega), fun k hk => ?_⟩
  obtain ⟨k, rfl⟩ : ∃ m, k = m + 1 := ⟨k - 1, by omega⟩
  obtain ⟨e1, e2⟩ := e k (by omega)
  constructor
  · simp only [spec_l19Piece.l0, r, e1, Option.bind_some]
    rw [if_pos (by simp), if_neg (by omega)]
    by_cases hx : x = 0
    · rw [if_pos hx]; simp [hx]
    · rw [if_neg hx]; simp [hx]
  · simp only [impl_validPiece.l0, e2, Option.bind_some]
    rw [if_neg (by omega)]
 | succ n ih =>
  intro i hi hj
  have hlt : i < p.f1.length := by omega
  have step : ∀ k, 200 + n < k → spec_l19Piece.l0 (k + 1) (i : Int) [p] = (if 0 ≤ p.f1[i].f0 ∧ p.f1[i].f0 ≤ 5 then (if 0 ≤ p.f1[i].f1 ∧ p.f1[i].f1 ≤ 5 then (if (i : Int) > 0 then (spec_l19Before.f (rd_T105 p.f1 ((i : Int) - 1)).f0 (rd_T105 p.f1 ((i : Int) - 1)).f1 p.f1[i].f0 p.f1[i].f1).bind fun t => if t = true then spec_l19Piece.l0 k ((i + 1 : Nat) : Int) [p] else some false else spec_l19Piece.l0 k ((i + 1 : Nat) : Int) [p]) else some false) else some false) ∧
   impl_validPiece.l0 (k + 1) p.f1 (p.f1.length : Int) (i : Int) p.f0 p.f1 p.f2 p.f3 = (if 0 ≤ p.f1[i].f0 ∧ p.f1[i].f0 ≤ 5 then (if 0 ≤ p.f1[i].f1 ∧ p.f1[i].f1 ≤ 5 then (if (i : Int) > 0 then (impl_compareCells.f (rd_T105 p.f1 ((i : Int) - 1)).f0 (rd_T105 p.f1 ((i : Int) - 1)).f1 p.f1[i].f0 p.f1[i].f1).bind fun t => if t ≥ 0 then some false else impl_validPiece.l0 k p.f1 (p.f1.length : Int) ((i + 1 : Nat) : Int) p.f0 p.f1 p.f2 p.f3 else impl_validPiece.l0 k p.f1 (p.f1.length : Int) ((i + 1 : Nat) : Int) p.f0 p.f1 p.f2 p.f3) else some false) else some false) := by
   intro k hk
   have a0 : (i : Int) < (p.f1.length : Int) := by omega
   have a1 : (0 : Int) ≤ (i : Int) := by omega
   have a2 : (0 : Int) < (([p] : List S53).length : Int) := by simp
   have a3 : wrap64 ((i : Int) + 1) = ((i + 1 : Nat) : Int) := wnat (by omega)
   have a4 : wrap64 ((i : Int) - 1) = (i : Int) - 1 := w64 (by omega) (by omega)
   constructor
   · simp only [spec_l19Piece.l0, r, l00In_eq, Option.bind_some, decide_eq_true_eq, a0, a1, a2, a3, a4, if_true, rd105 p.f1 i hlt]
     by_cases h0 : (i : Int) > 0
     · simp only [h0, if_true, show (0 : Int) ≤ (i : Int) - 1 by omega, show (i : Int) - 1 < (p.f1.length : Int) by omega]
     · simp only [h0, if_false]
   · simp only [impl_validPiece.l0, within_eq, Option.bind_some, decide_eq_true_eq, a0, a1, a3, a4, if_true, rd105 p.f1 i hlt]
     by_cases h0 : (i : Int) > 0
     · simp only [h0, if_true, show (0 : Int) ≤ (i : Int) - 1 by omega, show (i : Int) - 1 < (p.f1.length : Int) by omega]
     · simp only [h0, if_false]
  by_cases h1 : 0 ≤ p.f1[i].f0 ∧ p.f1[i].f0 ≤ 5
  · by_cases h2 : 0 ≤ p.f1[i].f1 ∧ p.f1[i].f1 ≤ 5
    · obtain ⟨b, hb0, hb⟩ := ih (i + 1) (by omega) (fun j h hji => by
       by_cases e : j = i
       · subst e; exact ⟨h1, h2⟩
       · exact hj j h (by omega))
      by_cases h0 : (i : Int) > 0
      · obtain ⟨m, rfl⟩ : ∃ m, i = m + 1 := ⟨i - 1, by omega⟩
        have hm : m < p.f1.length := by omega
        have er : rd_T105 p.f1 (((m + 1 : Nat) : Int) - 1) = p.f1[m] := by rw [show ((m + 1 : Nat) : Int) - 1 = (m : Int) by omega]; exact rd105 p.f1 m hm
        obtain ⟨b1, f1, g1⟩ := before_spec p.f1[m] p.f1[m + 1]
        obtain ⟨c, f2, g2⟩ := before_impl p.f1[m] p.f1[m + 1] (hj m hm (by omega)) ⟨h1, h2⟩
        refine ⟨b1 && b, fun hbb => hb0 (by revert hbb; cases b1 <;> simp), fun k hk => ?_⟩
        obtain ⟨k, rfl⟩ : ∃ m, k = m + 1 := ⟨k - 1, by omega⟩
        obtain ⟨s1, s2⟩ := step k (by omega)
        obtain ⟨q1, q2⟩ := hb k (by omega)
        rw [s1, s2, if_pos h1, if_pos h2, if_pos h0, if_pos h1, if_pos h2, if_pos h0, er, f1, f2]
        simp only [Option.bind_some, q1, q2]
        by_cases hb1 : b1 = true
        · rw [if_pos hb1, if_neg (by have := g2.2 (g1.1 hb1); omega)]; simp [hb1]
        · have : ¬ c < 0 := fun h => hb1 (g1.2 (g2.1 h))
          rw [if_neg hb1, if_pos (by omega)]; simp [hb1]
      · refine ⟨b, hb0, fun k hk => ?_⟩
        obtain ⟨k, rfl⟩ : ∃ m, k = m + 1 := ⟨k - 1, by omega⟩
        obtain ⟨s1, s2⟩ := step k (by omega)
        obtain ⟨q1, q2⟩ := hb k (by omega)
        rw [s1, s2, if_pos h1, if_pos h2, if_neg h0, if_pos h1, if_pos h2, if_neg h0]
        exact ⟨q1, q2⟩
    · refine ⟨false, (by intro h; cases h), fun k hk => ?_⟩
      obtain ⟨k, rfl⟩ : ∃ m, k = m + 1 := ⟨k - 1, by omega⟩
      obtain ⟨s1, s2⟩ := step k (by omega)
      rw [s1, s2, if_pos h1, if_neg h2, if_pos h1, if_neg h2]
      exact ⟨rfl, rfl⟩
  · refine ⟨false, (by intro h; cases h), fun k hk => ?_⟩
    obtain ⟨k, rfl⟩ : ∃ m, k = m + 1 := ⟨k - 1, by omega⟩
    obtain ⟨s1, s2⟩ := step k (by omega)
    rw [s1, s2, if_neg h1, if_neg h1]
    exact ⟨rfl, rfl⟩
theorem piece_eq (p : S53) : ∃ b : Bool, (b = true → (1 ≤ p.f1.length ∧ p.f1.length ≤ 6) ∧ ∀ q ∈ p.f1, in5 q) ∧ ∀ k, 300 < k → spec_l19Piece.f k [p] = some b ∧ impl_validPiece.f k p.f0 p.f1 p.f2 p.f3 = some b := by
 have r : rd_T53 [p] 0 = p := rfl
 obtain ⟨nb, hnb⟩ := name_eq p.f0
 by_cases hok : nb = true ∧ (1 ≤ (p.f1.length : Int) ∧ (p.f1.length : Int) ≤ 6) ∧ (0 ≤ p.f2 ∧ p.f2 ≤ 24)
 · obtain ⟨h1, h2, h3⟩ := hok
   obtain ⟨b, hb0, hb⟩ := piece_loop p (by omega) (by omega) p.f1.length 0 (by omega) (fun j h hj => by omega)
   refine ⟨b, fun h => ⟨by omega, fun q hq => by
    obtain ⟨j, hj, rfl⟩ := List.getElem_of_mem hq
    exact hb0 h j hj⟩, fun k hk => ?_⟩
   obtain ⟨k, rfl⟩ : ∃ m, k = m + 1 := ⟨k - 1, by omega⟩
   obtain ⟨e1, e2⟩ := hnb (k + 1) (by omega)
   obtain ⟨q1, q2⟩ := hb k (by omega)
   rw [show ((0 : Nat) : Int) = 0 from rfl] at q1 q2
   unfold spec_l19Piece.f impl_validPiece.f
   rw [if_pos (by simp), r, e1, e2]
   simp only [Option.bind_some, h1, if_true, l00In_eq, within_eq, decide_eq_true h2, decide_eq_true h3, Bool.not_true, spec_l19Piece.j0, impl_validPiece.j0, Bool.false_eq_true, if_false, q1, q2]
   rw [if_neg (by omega), if_neg (by omega)]
   simp
 · refine ⟨false, (by intro h; cases h), fun k hk => ?_⟩
   obtain ⟨k, rfl⟩ : ∃ m, k = m + 1 := ⟨k - 1, by omega⟩
   obtain ⟨e1, e2⟩ := hnb (k + 1) (by omega)
   unfold spec_l19Piece.f impl_validPiece.f
   rw [if_pos (by simp), r, e1, e2]
   simp only [Option.bind_some, l00In_eq, within_eq, spec_l19Piece.j0, impl_validPiece.j0, if_true]
   cases nb with
   | false => simp
   | true =>
    by_cases h2 : 1 ≤ (p.f1.length : Int) ∧ (p.f1.length : Int) ≤ 6
    · by_cases h3 : 0 ≤ p.f2 ∧ p.f2 ≤ 24
      · exact absurd ⟨rfl, h2, h3⟩ hok
      · rw [if_pos rfl, if_neg (by omega), if_neg (by omega)]
        simp [h2, h3]
    · by_cases h4 : (p.f1.length : Int) < 1
      · rw [if_pos rfl, if_pos h4]; simp [h2]
      · rw [if_pos rfl, if_neg h4, if_pos (by omega)]; simp [h2]
def okP (p : S53) : Prop := (1 ≤ p.f1.length ∧ p.f1.length ≤ 6) ∧ ∀ q ∈ p.f1, in5 q
theorem pieces_eq2 (l : List S53) (hl : l.length ≤ 1048576) : ∃ b : Bool, (b = true → l.length ≤ 8 ∧ ∀ p ∈ l, okP p) ∧ ∀ k, 1048576 + 400 < k → spec_l19Pieces.f k l = some b ∧ impl_ValidPieces.f k l = some b := by
 obtain ⟨f, hf0, hf⟩ : ∃ f : S53 → Bool, (∀ p, f p = true → okP p) ∧ ∀ p k, 300 < k → spec_l19Piece.f k [p] = some (f p) ∧ impl_validPiece.f k p.f0 p.f1 p.f2 p.f3 = some (f p) := ⟨fun p => Classical.choose (piece_eq p), fun p => (Classical.choose_spec (piece_eq p)).1, fun p k hk => (Classical.choose_spec (piece_eq p)).2 k hk⟩
 have key : ∀ (n i : Nat), i + n = l.length → ∃ b : Bool, (b = true → l.length ≤ 8 ∧ ∀ p ∈ l.drop i, okP p) ∧ ∀ k, 301 + n < k → spec_l19Pieces.l0 k l (i : Int) = some b ∧ impl_ValidPieces.l0 k l l (l.length : Int) (i : Int) = some b := by
  intro n
  induction n with
  | zero =>
   intro i hi
   refine ⟨decide ((l.length : Int) ≤ 8), fun hb => ⟨by have := of_decide_eq_true hb; omega, fun p hp => by rw [List.drop_of_length_le (by omega)] at hp; cases hp⟩, fun k hk => ?_⟩
   obtain ⟨k, rfl⟩ : ∃ m, k = m + 1 := ⟨k - 1, by omega⟩
   simp only [spec_l19Pieces.l0, impl_ValidPieces.l0]
   rw [if_neg (by omega), if_neg (by omega)]
   exact ⟨rfl, rfl⟩
  | succ n ih =>
   intro i hi
   have hlt : i < l.length := by omega
   obtain ⟨b, hb0, hb⟩ := ih (i + 1) (by omega)
   refine ⟨f l[i] && ((decide (i = 0) || Op.bytesLess ((rd_T53 l ((i : Int) - 1)).f0.toList) (l[i].f0.toList)) && b), fun hb => ?_, fun k hk => ?_⟩
   · rw [Bool.and_eq_true, Bool.and_eq_true] at hb
     refine ⟨(hb0 hb.2.2).1, fun p hp => ?_⟩
     rw [List.drop_eq_getElem_cons hlt] at hp
     rcases List.mem_cons.1 hp with rfl | hp
     · exact hf0 _ hb.1
     · exact (hb0 hb.2.2).2 p hp
   obtain ⟨k, rfl⟩ : ∃ m, k = m + 1 := ⟨k - 1, by omega⟩
   obtain ⟨q1, q2⟩ := hb k (by omega)
   obtain ⟨e1, e2⟩ := hf l[i] k (by omega)
   have a0 : (i : Int) < (l.length : Int) := by omega
   have a1 : (0 : Int) ≤ (i : Int) := by omega
   have a3 : wrap64 ((i : Int) + 1) = ((i + 1 : Nat) : Int) := wnat (by omega)
   have a4 : wrap64 ((i : Int) - 1) = (i : Int) - 1 := w64 (by omega) (by omega)
   constructor
   · simp only [spec_l19Pieces.l0, a0, a1, a3, a4, if_true, rd53 l i hlt, e1, q1, Option.bind_some]
     cases f l[i] with
     | false => rfl
     | true =>
      by_cases h0 : (i : Int) > 0
      · simp only [h0, if_true, show (0 : Int) ≤ (i : Int) - 1 by omega, show (i : Int) - 1 < (l.length : Int) by omega, show ¬ i = 0 by omega, decide_false, Bool.false_or, Bool.true_and]
        cases Op.bytesLess ((rd_T53 l ((i : Int) - 1)).f0.toList) (l[i].f0.toList) <;> simp
      · have hz : i = 0 := by omega
        rw [if_pos rfl, if_neg h0]
        simp [hz]
   · simp only [impl_ValidPieces.l0, a0, a1, a3, a4, if_true, rd53 l i hlt, e2, q2, Option.bind_some]
     cases f l[i] with
     | false => rfl
     | true =>
      by_cases h0 : (i : Int) > 0
      · simp only [h0, if_true, show (0 : Int) ≤ (i : Int) - 1 by omega, show (i : Int) - 1 < (l.length : Int) by omega, show ¬ i = 0 by omega, decide_false, Bool.false_or, Bool.true_and]
        cases Op.bytesLess ((rd_T53 l ((i : Int) - 1)).f0.toList) (l[i].f0.toList) <;> simp
      · have hz : i = 0 := by omega
        rw [if_pos rfl, if_neg h0]
        simp [hz]
 obtain ⟨b, hb0, hb⟩ := key l.length 0 (by omega)
 refine ⟨b, hb0, fun k hk => ?_⟩
 unfold spec_l19Pieces.f impl_ValidPieces.f
 exact hb k (by omega)
theorem rd111 (xs : List S111) (i : Nat) (h : i < xs.length) : rd_T111 xs (i : Int) = xs[i] := by
 unfold rd_T111; simp [List.getD, h]
theorem rd109 (xs : List S109) (i : Nat) (h : i < xs.length) : rd_T109 xs (i : Int) = xs[i] := by
 unfold rd_T109; simp [List.getD, h]
def toLd (x : S111) : S109 := ⟨x.f0, x.f1, x.f2, x.f3⟩
theorem szLaidS_eq (l : List S111) (a : Int) (ha : 0 ≤ a) (ha2 : a ≤ 1048576) (hl : l.length ≤ maxLen) : laws_szLaidS.f l a = some (if a < l.length then -1 else a - l.length) := by
 unfold maxLen at hl
 unfold laws_szLaidS.f
 rw [w64 (by omega) (by omega)]
 by_cases h : a < l.length
 · rw [if_pos (by omega), if_pos h]
 · rw [if_neg (by omega), if_neg h]
theorem toLaidS_eq (l : List S111) (hl : l.length ≤ 1048576) (k : Nat) (hk : l.length < k) : laws_toLaidS.f k l = some (l.map toLd) := by
 unfold laws_toLaidS.f
 rw [if_pos (by omega), if_pos (by omega), show ((l.length : Int)).toNat = l.length by omega]
 refine loop_map l z109 toLd (fun k s i => laws_toLaidS.l0 k l s i) ?_ ?_ k hk
 · intro k s i h hs
   simp only [laws_toLaidS.l0]
   rw [if_pos (by omega), if_pos (by omega), rd111 l i h]
   unfold laws_toLaid.f
   simp only [Option.bind_some]
   rw [if_pos (by omega), wnat (by omega)]
   rfl
 · intro k s
   simp only [laws_toLaidS.l0]
   rw [if_neg (by omega)]
theorem eqLaidS_eq (l : List S109) (hl : l.length ≤ 1048576) (k : Nat) (hk : l.length < k) : laws_eqLaidS.f k l l = some true := by
 unfold laws_eqLaidS.f
 rw [if_pos rfl]
 refine loop_all l.length 0 (fun k i => laws_eqLaidS.l0 k l l i) true ?_ ?_ k (by omega)
 · intro k i _ h
   simp only [laws_eqLaidS.l0]
   rw [if_pos (by omega), if_pos (by omega), if_pos (by omega)]
   unfold laws_eqLaid.f
   simp only [if_true, Option.bind_some]
   rw [wnat (by omega)]
 · intro k
   simp only [laws_eqLaidS.l0]
   rw [if_neg (by omega)]
def rotP : Nat → Int → Int → Int × Int
 | 0, x, y => (x, y)
 | n + 1, x, y => rotP n (-y) x
theorem rotP_loop (L : Nat → Int → Int → Int → Option (Int × Int))
 (h1 : ∀ (k : Nat) (x y n : Int), 0 < n → n ≤ 4 → -10000 ≤ x → x ≤ 10000 → -10000 ≤ y → y ≤ 10000 → L (k + 1) n x y = L k (n - 1) (-y) x)
 (h0 : ∀ (k : Nat) (x y : Int), L (k + 1) 0 x y = some (x, y)) : ∀ (n : Nat) (x y : Int) (k : Nat), n ≤ 4 → n < k → -10000 ≤ x → x ≤ 10000 → -10000 ≤ y → y ≤ 10000 → L k (n : Int) x y = some (rotP n x y) := by
 intro n
 induction n with
 | zero =>
  intro x y k hn hk x0 x1 y0 y1
  obtain ⟨k, rfl⟩ : ∃ m, k = m + 1 := ⟨k - 1, by omega⟩
  exact h0 k x y
 | succ n ih =>
  intro x y k hn hk x0 x1 y0 y1
  obtain ⟨k, rfl⟩ : ∃ m, k = m + 1 := ⟨k - 1, by omega⟩
  rw [h1 k x y _ (by omega) (by omega) x0 x1 y0 y1, show ((n + 1 : Nat) : Int) - 1 = (n : Int) by omega]
  exact ih (-y) x k (by omega) (by omega) (by omega) (by omega) (by omega) (by omega)
def tp (t x y : Int) : Int × Int := rotP (t % 4).toNat (if t > 3 then -x else x) y
theorem rotP_in : ∀ (n : Nat) (x y B : Int), -B ≤ x → x ≤ B → -B ≤ y → y ≤ B → (-B ≤ (rotP n x y).1 ∧ (rotP n x y).1 ≤ B) ∧ (-B ≤ (rotP n x y).2 ∧ (rotP n x y).2 ≤ B)
 | 0, x, y, B, a, b, c, d => ⟨⟨a, b⟩, c, d⟩
 | n + 1, x, y, B, a, b, c, d => rotP_in n (-y) x B (by omega) (by omega) (by omega) (by omega)
theorem tp_in (t x y B : Int) (a : -B ≤ x) (b : x ≤ B) (c : -B ≤ y) (d : y ≤ B) : (-B ≤ (tp t x y).1 ∧ (tp t x y).1 ≤ B) ∧ (-B ≤ (tp t x y).2 ∧ (tp t x y).2 ≤ B) := by
 unfold tp
 by_cases h : t > 3
 · rw [if_pos h]; exact rotP_in _ _ _ B (by omega) (by omega) c d
 · rw [if_neg h]; exact rotP_in _ _ _ B a b c d
theorem specTp {t x y : Int} (ht : 0 ≤ t ∧ t ≤ 7) (hx : -1000 ≤ x ∧ x ≤ 1000) (hy : -1000 ≤ y ∧ y ≤ 1000) (k : Nat) (hk : 100 < k) : spec_l02Turned.f k x y t = some (tp t x y) := by
 obtain ⟨k, rfl⟩ : ∃ m, k = m + 1 := ⟨k - 1, by omega⟩
 have key : ∀ x' : Int, -1000 ≤ x' → x' ≤ 1000 → spec_l02Turned.j0 (k + 1) t x' y = some (rotP (t % 4).toNat x' y) := by
  intro x' x0 x1
  simp only [spec_l02Turned.j0]
  rw [Int.tmod_eq_emod_of_nonneg ht.1]
  have hl := rotP_loop (fun k n x y => spec_l02Turned.l0 k n x y) (by
   intro k x y n n0 n4 x0 x1 y0 y1
   simp only [spec_l02Turned.l0]
   rw [if_pos (by omega), w64 (x := -y) (by omega) (by omega), w64 (x := n - 1) (by omega) (by omega)]) (by
   intro k x y
   simp only [spec_l02Turned.l0]
   rw [if_neg (by omega)]) (t % 4).toNat x' y k (by omega) (by omega) (by omega) (by omega) (by omega) (by omega)
  rw [show (((t % 4).toNat : Nat) : Int) = t % 4 by omega] at hl
  exact hl
 unfold spec_l02Turned.f tp
 by_cases h : t ≥ 4
 · rw [if_pos h, if_pos (by omega), w64 (x := -x) (by omega) (by omega)]
   exact key _ (by omega) (by omega)
 · rw [if_neg h, if_neg (by omega)]
   exact key _ (by omega) (by omega)
theorem implTp {t x y : Int} (ht : 0 ≤ t ∧ t ≤ 7) (hx : -1000 ≤ x ∧ x ≤ 1000) (hy : -1000 ≤ y ∧ y ≤ 1000) (k : Nat) (hk : 100 < k) : impl_Turned.f k x y t = some (tp t x y) := by
 obtain ⟨k, rfl⟩ : ∃ m, k = m + 2 := ⟨k - 2, by omega⟩
 have key : ∀ x' : Int, -1000 ≤ x' → x' ≤ 1000 → impl_Turned.j1 (k + 1) t x' y = some (rotP (t % 4).toNat x' y) := by
  intro x' x0 x1
  simp only [impl_Turned.j1]
  rw [Int.tmod_eq_emod_of_nonneg ht.1]
  have hl := rotP_loop (fun k n x y => impl_Turned.l0 k n x y) (by
   intro k x y n n0 n4 x0 x1 y0 y1
   simp only [impl_Turned.l0]
   rw [if_pos (by omega), w64 (x := -y) (by omega) (by omega), w64 (x := n - 1) (by omega) (by omega)]) (by
   intro k x y
   simp only [impl_Turned.l0]
   rw [if_neg (by omega)]) (t % 4).toNat x' y k (by omega) (by omega) (by omega) (by omega) (by omega) (by omega)
  rw [show (((t % 4).toNat : Nat) : Int) = t % 4 by omega] at hl
  exact hl
 unfold impl_Turned.f tp
 rw [within_eq, within_eq, within_eq, decide_eq_true ht, decide_eq_true (show -20000 ≤ x ∧ x ≤ 20000 by omega), decide_eq_true (show -20000 ≤ y ∧ y ≤ 20000 by omega)]
 simp only [Option.bind_some, if_true, Bool.not_true, impl_Turned.j0, Bool.false_eq_true, if_false]
 by_cases h : t > 3
 · rw [if_pos h, if_pos h, w64 (x := -x) (by omega) (by omega)]
   exact key _ (by omega) (by omega)
 · rw [if_neg h, if_neg h]
   exact key _ (by omega) (by omega)
/-- a list that is built by appending, element by element -/
theorem app_loop {α β γ : Type} (xs : List α) (g : α → β) (K0 : Nat) (L : Nat → List β → Int → Option γ) (R : Option γ)
 (hs : ∀ (k : Nat) (out : List β) (i : Nat) (h : i < xs.length), K0 ≤ k → out.length = i → L (k + 1) out (i : Int) = L k (out ++ [g xs[i]]) ((i + 1 : Nat) : Int))
 (he : ∀ (k : Nat), K0 ≤ k → L (k + 1) (xs.map g) (xs.length : Int) = R) (k : Nat) (hk : K0 + xs.length < k) : L k [] 0 = R := by
 have key : ∀ (n i k : Nat), i + n = xs.length → K0 + n < k → L k ((xs.take i).map g) (i : Int) = R := by
  intro n
  induction n with
  | zero =>
   intro i k hi hk
   obtain ⟨k, rfl⟩ : ∃ m, k = m + 1 := ⟨k - 1, by omega⟩
   obtain rfl : i = xs.length := by omega
   rw [List.take_length, he k (by omega)]
  | succ n ih =>
   intro i k hi hk
   obtain ⟨k, rfl⟩ : ∃ m, k = m + 1 := ⟨k - 1, by omega⟩
   have hlt : i < xs.length := by omega
   rw [hs k _ i hlt (by omega) (by rw [List.length_map, List.length_take]; omega)]
   have := ih (i + 1) k (by omega) (by omega)
   rw [List.take_succ_eq_append_getElem hlt, List.map_append] at this
   exact this
 exact key xs.length 0 k (by omega) hk
def small (p : S105) : Prop := (-1000 ≤ p.f0 ∧ p.f0 ≤ 1000) ∧ (-1000 ≤ p.f1 ∧ p.f1 ≤ 1000)
theorem before_impl2 (p q : S105) (hp : small p) (hq : small q) : ∃ c : Int, impl_compareCells.f p.f0 p.f1 q.f0 q.f1 = some c ∧ (c < 0 ↔ before p q) := by
 obtain ⟨⟨a0, a1⟩, b0, b1⟩ := hp
 obtain ⟨⟨c0, c1⟩, d0, d1⟩ := hq
 unfold impl_compareCells.f before
 by_cases h2 : p.f1 = q.f1
 · exact ⟨p.f0 - q.f0, by rw [if_pos h2, w64 (by omega) (by omega)], by omega⟩
 · exact ⟨p.f1 - q.f1, by rw [if_neg h2, w64 (by omega) (by omega)], by omega⟩
instance (p q : S105) : Decidable (before p q) := by unfold before; exact inferInstance
/-- the place of a cell among others: behind the last that it doesn't stand before -/
def pos (q : S105) (l : List S105) : Nat → Nat
 | 0 => 0
 | n + 1 => if before q (rd_T105 l (n : Int)) then pos q l n else n + 1
def ins (q : S105) (l : List S105) : List S105 := l.take (pos q l l.length) ++ q :: l.drop (pos q l l.length)
def sortI (xs : List S105) : List S105 := xs.foldl (fun out q => ins q out) []
theorem pos_le (q : S105) (l : List S105) : ∀ n, pos q l n ≤ n
 | 0 => Nat.le_refl 0
 | n + 1 => by
  unfold pos
  have := pos_le q l n
  split <;> omega
theorem ins_len (q : S105) (l : List S105) : (ins q l).length = l.length + 1 := by
 have := pos_le q l l.length
 unfold ins
 rw [List.length_append, List.length_cons, List.length_take, List.length_drop]; omega
theorem ins_mem (q : S105) (l : List S105) (x : S105) (h : x ∈ ins q l) : x = q ∨ x ∈ l := by
 unfold ins at h
 rcases List.mem_append.1 h with h | h
 · exact Or.inr (List.mem_of_mem_take h)
 · rcases List.mem_cons.1 h with h | h
   · exact Or.inl h
   · exact Or.inr (List.mem_of_mem_drop h)
theorem sortI_spec (xs : List S105) : ∀ (out : List S105), (xs.foldl (fun out q => ins q out) out).length = out.length + xs.length ∧ ∀ x ∈ xs.foldl (fun out q => ins q out) out, x ∈ out ∨ x ∈ xs := by
 induction xs with
 | nil => intro out; exact ⟨rfl, fun x h => Or.inl h⟩
 | cons q xs ih =>
  intro out
  obtain ⟨h1, h2⟩ := ih (ins q out)
  refine ⟨by rw [List.foldl_cons, h1, ins_len, List.length_cons]; omega, fun x h => ?_⟩
  rcases h2 x h with h | h
  · rcases ins_mem q out x h with rfl | h
    · exact Or.inr (by simp)
    · exact Or.inl h
  · exact Or.inr (List.mem_cons_of_mem _ h)
/-- the library's sort of a few cells -/
theorem swap_list {α : Type} (A C : List α) (b q : α) : ((A ++ b :: q :: C).set (A.length + 1) b).set A.length q = A ++ q :: b :: C := by
 rw [List.set_append, if_neg (by omega), show A.length + 1 - A.length = 1 by omega, List.set_append, if_neg (by omega), Nat.sub_self]
 rfl
theorem implInner (S rest : List S105) (q : S105) (hS : ∀ x ∈ S, small x) (hq : small q) (hlen : S.length + rest.length ≤ 1000) (R : Option (List S105)) (K1 : Nat)
 (hR : ∀ k, K1 ≤ k → fi115_89.l0 k (ins q S ++ rest) 0 ((S.length + 1 + rest.length : Nat) : Int) ((S.length + 1 : Nat) : Int) = R) : ∀ (j k : Nat), j ≤ S.length → pos q S j = pos q S S.length → K1 + j + 1 ≤ k →
 fi115_89.l1 k (S.take j ++ q :: (S.drop j ++ rest)) 0 ((S.length + 1 + rest.length : Nat) : Int) (S.length : Int) (j : Int) = R := by
 intro j
 induction j with
 | zero =>
  intro k hj hp hk
  obtain ⟨k, rfl⟩ : ∃ m, k = m + 1 := ⟨k - 1, by omega⟩
  have e : S.take 0 ++ q :: (S.drop 0 ++ rest) = ins q S ++ rest := by
   unfold ins
   rw [← hp]; simp [pos]
  simp only [fi115_89.l1]
  rw [if_neg (by omega), wnat (by omega), e]
  exact hR k (by omega)
 | succ j ih =>
  intro k hj hp hk
  obtain ⟨k, rfl⟩ : ∃ m, k = m + 1 := ⟨k - 1, by omega⟩
  have hjl : j < S.length := by omega
  have hd : S.take (j + 1) ++ q :: (S.drop (j + 1) ++ rest) = S.take j ++ S[j] :: q :: (S.drop (j + 1) ++ rest) := by
   rw [List.take_succ_eq_append_getElem hjl, List.append_assoc]; rfl
  have hlenA : (S.take j).length = j := by rw [List.length_take]; omega
  have hlenD : (S.take j ++ S[j] :: q :: (S.drop (j + 1) ++ rest)).length = S.length + 1 + rest.length := by
   rw [List.length_append, List.length_cons, List.length_cons, List.length_append, List.length_drop, hlenA]; omega
  have r1 : rd_T105 (S.take j ++ S[j] :: q :: (S.drop (j + 1) ++ rest)) ((j + 1 : Nat) : Int) = q := by
   rw [rd105 _ (j + 1) (by omega), List.getElem_append_right (by omega)]
   simp [hlenA]
  have r0 : rd_T105 (S.take j ++ S[j] :: q :: (S.drop (j + 1) ++ rest)) (j : Int) = S[j] := by
   rw [rd105 _ j (by omega), List.getElem_append_right (by omega)]
   simp [hlenA]
  have r2 : rd_T105 S (j : Int) = S[j] := rd105 S j hjl
  have hw : wrap64 (((j + 1 : Nat) : Int) - 1) = (j : Int) := by rw [w64 (by omega) (by omega)]; omega
  obtain ⟨c, f2, g2⟩ := before_impl2 q S[j] hq (hS _ (List.getElem_mem hjl))
  rw [hd]
  simp only [fi115_89.l1, hw, r0, r1, f2, Option.bind_some]
  rw [if_pos (by omega), if_pos (by omega), if_pos (by omega), if_pos (by omega), if_pos (by omega)]
  have hp2 : pos q S (j + 1) = if before q S[j] then pos q S j else j + 1 := by
   rw [← r2]; rfl
  by_cases hb : before q S[j]
  · rw [if_pos (g2.2 hb)]
    rw [if_pos hb] at hp2
    have hset : (((S.take j ++ S[j] :: q :: (S.drop (j + 1) ++ rest)).set (((j + 1 : Nat) : Int)).toNat (⟨S[j].f0, S[j].f1⟩ : S105)).set ((j : Int)).toNat (⟨q.f0, q.f1⟩ : S105)) = S.take j ++ q :: (S.drop j ++ rest) := by
     have := swap_list (S.take j) (S.drop (j + 1) ++ rest) S[j] q
     rw [hlenA] at this
     rw [show (((j + 1 : Nat) : Int)).toNat = j + 1 by omega, show ((j : Int)).toNat = j by omega]
     show ((S.take j ++ S[j] :: q :: (S.drop (j + 1) ++ rest)).set (j + 1) S[j]).set j q = _
     rw [this, List.drop_eq_getElem_cons hjl]; rfl
    rw [hset]
    exact ih k (by omega) (by omega) (by omega)
  · rw [if_neg (fun h => hb (g2.1 h))]
    rw [if_neg hb] at hp2
    have e : S.take j ++ S[j] :: q :: (S.drop (j + 1) ++ rest) = ins q S ++ rest := by
     unfold ins
     rw [← hp, hp2, ← hd, List.append_assoc]; rfl
    rw [e, wnat (by omega)]
    exact hR k (by omega)
theorem bind_of {α β : Type} {o : Option α} {b : α} (h : o = some b) (f : α → Option β) : o.bind f = f b := by subst h; rfl
theorem implSort (xs : List S105) (hx : ∀ x ∈ xs, small x) (hl : xs.length ≤ 12) (k0 : Nat) (hk0 : 400 < k0) : fi102_89.f k0 xs = some (sortI xs) := by
 have key : ∀ (n i k : Nat), i + n = xs.length → 1 ≤ i → 20 * n + 10 < k → fi115_89.l0 k (sortI (xs.take i) ++ xs.drop i) 0 (xs.length : Int) (i : Int) = some (sortI xs) := by
  intro n
  induction n with
  | zero =>
   intro i k hi h1 hk
   obtain ⟨k, rfl⟩ : ∃ m, k = m + 1 := ⟨k - 1, by omega⟩
   obtain rfl : i = xs.length := by omega
   simp only [fi115_89.l0]
   rw [if_neg (by omega), List.take_length, List.drop_length, List.append_nil]
  | succ n ih =>
   intro i k hi h1 hk
   obtain ⟨k, rfl⟩ : ∃ m, k = m + 1 := ⟨k - 1, by omega⟩
   have hlt : i < xs.length := by omega
   obtain ⟨s1, s2⟩ := sortI_spec (xs.take i) []
   have hS : (sortI (xs.take i)).length = i := by
    show ((xs.take i).foldl _ []).length = i
    rw [s1, List.length_take]; simp; omega
   have hins : sortI (xs.take (i + 1)) = ins xs[i] (sortI (xs.take i)) := by
    unfold sortI
    rw [List.take_succ_eq_append_getElem hlt, List.foldl_append]; rfl
   have hd : xs.drop i = xs[i] :: xs.drop (i + 1) := List.drop_eq_getElem_cons hlt
   simp only [fi115_89.l0]
   rw [if_pos (by omega)]
   have hdl : (xs.drop (i + 1)).length = xs.length - (i + 1) := List.length_drop
   have := implInner (sortI (xs.take i)) (xs.drop (i + 1)) xs[i] (fun x h => by
    rcases s2 x h with h | h
    · cases h
    · exact hx x (List.mem_of_mem_take h)) (hx _ (List.getElem_mem hlt)) (by omega) (some (sortI xs)) (20 * n + 11) (by
    intro k hk
    have := ih (i + 1) k (by omega) (by omega) (by omega)
    rw [hins] at this
    rw [hS, hdl, show i + 1 + (xs.length - (i + 1)) = xs.length by omega]
    exact this) i k (by omega) (by rw [hS]) (by omega)
   rw [hS, hdl, show i + 1 + (xs.length - (i + 1)) = xs.length by omega] at this
   rw [List.take_of_length_le (by omega), List.drop_of_length_le (by omega), List.nil_append] at this
   rw [hd]
   exact this
 unfold fi102_89.f
 have hu : IntKind.u64.wrap (xs.length : Int) = (xs.length : Int) := by
  have : ∀ n : Nat, n < 13 → IntKind.u64.wrap (n : Int) = (n : Int) := by decide
  exact this _ (by omega)
 have hb : ∃ b, Go.Proofs.YtakagkflgkoiiaaX.bits_Len.f (IntKind.u64.wrap (xs.length : Int)) = some b := by
  unfold Go.Proofs.YtakagkflgkoiiaaX.bits_Len.f
  rw [hu, if_pos (by omega)]
  exact ⟨_, rfl⟩
 obtain ⟨b, hb⟩ := hb
 obtain ⟨k, rfl⟩ : ∃ m, k0 = m + 1 := ⟨k0 - 1, by omega⟩
 rw [bind_of hb]
 unfold fi112_89.f
 simp only [fi112_89.l0]
 rw [w64 (x := (xs.length : Int) - 0) (by omega) (by omega), if_pos (by omega)]
 unfold fi115_89.f
 rw [show wrap64 ((0 : Int) + 1) = 1 from (w64 (x := (0 : Int) + 1) (by omega) (by omega))]
 by_cases h0 : xs.length = 0
 · have : xs = [] := List.eq_nil_of_length_eq_zero h0
   subst this
   obtain ⟨k, rfl⟩ : ∃ m, k = m + 1 := ⟨k - 1, by omega⟩
   simp only [fi115_89.l0]
   rw [if_neg (by simp)]
   rfl
 · have := key (xs.length - 1) 1 k (by omega) (by omega) (by omega)
   have e1 : sortI (xs.take 1) ++ xs.drop 1 = xs := by
    have hc := List.drop_eq_getElem_cons (show 0 < xs.length by omega)
    rw [List.drop_zero] at hc
    rw [hc]; rfl
   rw [e1] at this
   rw [show ((1 : Nat) : Int) = 1 from rfl] at this
   rw [this]; rfl
/-- the reference's -/
theorem specInner (moved out : List S105) (q : S105) (i lx ly : Int) (ho : out.length ≤ 1000) (R : Option (List S105)) (K1 : Nat)
 (hR : ∀ k, K1 ≤ k → spec_l19Turned.l1 k moved (ins q out) (wrap64 (i + 1)) lx ly = R) : ∀ (j k : Nat), j ≤ out.length → pos q out j = pos q out out.length → K1 + j + 1 ≤ k →
 spec_l19Turned.l2 k moved out i (j : Int) lx ly q.f0 q.f1 = R := by
 have fin : ∀ (j k : Nat), j ≤ out.length → pos q out out.length = j → K1 ≤ k → ((some (([] : List (S105)) : List (S105))).bind fun y224 => (if 0 ≤ (j : Int) then (if (j : Int) ≤ (out.length : Int) then ((some (out.take ((j : Int)).toNat : List (S105))).bind fun y227 => (if y224.length + y227.length < 8796093022208 then ((some (y224 ++ y227 : List (S105))).bind fun y231 => (if y231.length < 8796093022208 then ((some (y231 ++ [(⟨q.f0, q.f1⟩ : S105)] : List (S105))).bind fun y234 => ((some (out.drop ((j : Int)).toNat : List (S105))).bind fun y237 => (if y234.length + y237.length < 8796093022208 then (spec_l19Turned.l1 k moved (y234 ++ y237) (wrap64 (i + 1)) lx ly) else (none)))) else (none))) else (none))) else (none)) else (none))) = R := by
  intro j k hj hp hk
  simp only [Option.bind_some, List.nil_append, List.length_nil]
  have h1 : (out.take ((j : Int)).toNat).length = j := by rw [List.length_take]; omega
  rw [if_pos (by omega), if_pos (by omega), if_pos (by omega), if_pos (by omega), if_pos (by rw [List.length_append, h1, List.length_drop, List.length_singleton]; omega)]
  have e : out.take ((j : Int)).toNat ++ [(⟨q.f0, q.f1⟩ : S105)] ++ out.drop ((j : Int)).toNat = ins q out := by
   unfold ins
   rw [hp, show ((j : Int)).toNat = j by omega, List.append_assoc]; rfl
  rw [e]
  exact hR k hk
 intro j
 induction j with
 | zero =>
  intro k hj hp hk
  obtain ⟨k, rfl⟩ : ∃ m, k = m + 1 := ⟨k - 1, by omega⟩
  simp only [spec_l19Turned.l2]
  rw [if_neg (by omega)]
  exact fin 0 k (by omega) (by rw [← hp]; rfl) (by omega)
 | succ j ih =>
  intro k hj hp hk
  obtain ⟨k, rfl⟩ : ∃ m, k = m + 1 := ⟨k - 1, by omega⟩
  have hjl : j < out.length := by omega
  have hw : wrap64 (((j + 1 : Nat) : Int) - 1) = (j : Int) := by rw [w64 (by omega) (by omega)]; omega
  obtain ⟨b1, f1, g1⟩ := before_spec q (rd_T105 out (j : Int))
  simp only [spec_l19Turned.l2, hw, f1]
  rw [if_pos (by omega), if_pos (by omega), if_pos (by omega)]
  have hp2 : pos q out (j + 1) = if before q (rd_T105 out (j : Int)) then pos q out j else j + 1 := rfl
  by_cases hb : b1 = true
  · have hbb := g1.1 hb
    rw [if_pos hbb] at hp2
    simp only [Option.bind_some, hb, if_true]
    exact ih k (by omega) (by omega) (by omega)
  · have hbb : ¬ before q (rd_T105 out (j : Int)) := fun h => hb (g1.2 h)
    rw [if_neg hbb] at hp2
    have hbf : b1 = false := by cases b1 <;> simp_all
    subst hbf
    simp only [Option.bind_some, Bool.false_eq_true, if_false]
    exact fin (j + 1) k hj (by rw [← hp, hp2]) (by omega)
def tpP (t : Int) (p : S105) : S105 := ⟨(tp t p.f0 p.f1).1, (tp t p.f0 p.f1).2⟩
def shP (x y : Int) (p : S105) : S105 := ⟨p.f0 + x, p.f1 + y⟩
theorem specSort (moved : List S105) (lx ly : Int) (hm : ∀ p ∈ moved, (-100 ≤ p.f0 ∧ p.f0 ≤ 100) ∧ (-100 ≤ p.f1 ∧ p.f1 ≤ 100)) (hx : -100 ≤ lx ∧ lx ≤ 100) (hy : -100 ≤ ly ∧ ly ≤ 100) (hl : moved.length ≤ 12) (k0 : Nat) (hk0 : 300 < k0) :
 spec_l19Turned.l1 k0 moved [] 0 lx ly = some (sortI (moved.map (shP (-lx) (-ly)))) := by
 have key : ∀ (n i k : Nat), i + n = moved.length → 20 * n + 10 < k → spec_l19Turned.l1 k moved (sortI ((moved.take i).map (shP (-lx) (-ly)))) (i : Int) lx ly = some (sortI (moved.map (shP (-lx) (-ly)))) := by
  intro n
  induction n with
  | zero =>
   intro i k hi hk
   obtain ⟨k, rfl⟩ : ∃ m, k = m + 1 := ⟨k - 1, by omega⟩
   obtain rfl : i = moved.length := by omega
   simp only [spec_l19Turned.l1]
   rw [if_neg (by omega), List.take_length]
  | succ n ih =>
   intro i k hi hk
   obtain ⟨k, rfl⟩ : ∃ m, k = m + 1 := ⟨k - 1, by omega⟩
   have hlt : i < moved.length := by omega
   obtain ⟨s1, s2⟩ := sortI_spec ((moved.take i).map (shP (-lx) (-ly))) []
   have hS : (sortI ((moved.take i).map (shP (-lx) (-ly)))).length = i := by
    show (((moved.take i).map (shP (-lx) (-ly))).foldl _ []).length = i
    rw [s1, List.length_map, List.length_take]; simp; omega
   have hins : sortI ((moved.take (i + 1)).map (shP (-lx) (-ly))) = ins (shP (-lx) (-ly) moved[i]) (sortI ((moved.take i).map (shP (-lx) (-ly)))) := by
    unfold sortI
    rw [List.take_succ_eq_append_getElem hlt, List.map_append, List.foldl_append]; rfl
   have hmi := hm _ (List.getElem_mem hlt)
   simp only [spec_l19Turned.l1]
   rw [if_pos (by omega), if_pos (by omega), rd105 moved i hlt, w64 (x := moved[i].f0 - lx) (by omega) (by omega), w64 (x := moved[i].f1 - ly) (by omega) (by omega)]
   have e0 : moved[i].f0 - lx = (shP (-lx) (-ly) moved[i]).f0 := by show _ = moved[i].f0 + -lx; omega
   have e1 : moved[i].f1 - ly = (shP (-lx) (-ly) moved[i]).f1 := by show _ = moved[i].f1 + -ly; omega
   rw [e0, e1]
   refine specInner moved _ (shP (-lx) (-ly) moved[i]) i lx ly (by omega) _ (20 * n + 11) ?_ _ k (Nat.le_refl _) rfl (by omega)
   intro k hk
   rw [wnat (by omega), ← hins]
   exact ih (i + 1) k (by omega) (by omega)
 exact key moved.length 0 k0 (by omega) (by omega)
theorem specShift (l : List S105) (x y : Int) (hm : ∀ p ∈ l, small p) (hx : -1000 ≤ x ∧ x ≤ 1000) (hy : -1000 ≤ y ∧ y ≤ 1000) (hl : l.length ≤ 100) (k : Nat) (hk : 200 < k) : spec_l03Shifted.f k l x y = some (l.map (shP x y)) := by
 unfold spec_l03Shifted.f
 refine app_loop l (shP x y) 0 (fun k out i => spec_l03Shifted.l0 k l x y out i) _ ?_ ?_ k (by omega)
 · intro k out i h _ ho
   obtain ⟨⟨a, b⟩, c, d⟩ := hm _ (List.getElem_mem h)
   simp only [spec_l03Shifted.l0]
   rw [if_pos (by omega), if_pos (by omega), if_pos (by omega), rd105 l i h, w64 (x := l[i].f0 + x) (by omega) (by omega), w64 (x := l[i].f1 + y) (by omega) (by omega), wnat (by omega)]
   rfl
 · intro k _
   simp only [spec_l03Shifted.l0]
   rw [if_neg (by omega)]
theorem implShift (l : List S105) (x y : Int) (hm : ∀ p ∈ l, small p) (hx : -1000 ≤ x ∧ x ≤ 1000) (hy : -1000 ≤ y ∧ y ≤ 1000) (hl : l.length ≤ 100) (k : Nat) (hk : 200 < k) : impl_shifted.f k l x y = some (l.map (shP x y)) := by
 unfold impl_shifted.f
 refine app_loop l (shP x y) 0 (fun k out i => impl_shifted.l0 k x y out l (l.length : Int) i) _ ?_ ?_ k (by omega)
 · intro k out i h _ ho
   obtain ⟨⟨a, b⟩, c, d⟩ := hm _ (List.getElem_mem h)
   simp only [impl_shifted.l0]
   rw [if_pos (by omega), if_pos (by omega), if_pos (by omega), if_pos (by omega), rd105 l i h, w64 (x := l[i].f0 + x) (by omega) (by omega), w64 (x := l[i].f1 + y) (by omega) (by omega), wnat (by omega)]
   rfl
 · intro k _
   simp only [impl_shifted.l0]
   rw [if_neg (by omega)]
theorem lowX_in (B : Int) : ∀ (l : List S105) (t : Int), -B ≤ t → t ≤ B → (∀ p ∈ l, -B ≤ p.f0 ∧ p.f0 ≤ B) → -B ≤ lowX l t ∧ lowX l t ≤ B
 | [], t, a, b, _ => ⟨a, b⟩
 | p :: l, t, a, b, h => by
  have hp := h p (by simp)
  show -B ≤ lowX l (mnf t p.f0) ∧ lowX l (mnf t p.f0) ≤ B
  exact lowX_in B l _ (by unfold mnf; split <;> omega) (by unfold mnf; split <;> omega) (fun q hq => h q (List.mem_cons_of_mem _ hq))
theorem lowY_in (B : Int) : ∀ (l : List S105) (t : Int), -B ≤ t → t ≤ B → (∀ p ∈ l, -B ≤ p.f1 ∧ p.f1 ≤ B) → -B ≤ lowY l t ∧ lowY l t ≤ B
 | [], t, a, b, _ => ⟨a, b⟩
 | p :: l, t, a, b, h => by
  have hp := h p (by simp)
  show -B ≤ lowY l (mnf t p.f1) ∧ lowY l (mnf t p.f1) ≤ B
  exact lowY_in B l _ (by unfold mnf; split <;> omega) (by unfold mnf; split <;> omega) (fun q hq => h q (List.mem_cons_of_mem _ hq))
theorem lowX_le : ∀ (l : List S105) (t : Int), lowX l t ≤ t ∧ ∀ p ∈ l, lowX l t ≤ p.f0
 | [], t => ⟨Int.le_refl _, by simp⟩
 | p :: l, t => by
  have ih := lowX_le l (mnf t p.f0)
  have e : lowX (p :: l) t = lowX l (mnf t p.f0) := rfl
  have h1 : mnf t p.f0 ≤ t ∧ mnf t p.f0 ≤ p.f0 := by unfold mnf; split <;> omega
  rw [e]
  refine ⟨by omega, fun q hq => ?_⟩
  rcases List.mem_cons.1 hq with rfl | hq
  · omega
  · exact ih.2 q hq
theorem lowY_le : ∀ (l : List S105) (t : Int), lowY l t ≤ t ∧ ∀ p ∈ l, lowY l t ≤ p.f1
 | [], t => ⟨Int.le_refl _, by simp⟩
 | p :: l, t => by
  have ih := lowY_le l (mnf t p.f1)
  have e : lowY (p :: l) t = lowY l (mnf t p.f1) := rfl
  have h1 : mnf t p.f1 ≤ t ∧ mnf t p.f1 ≤ p.f1 := by unfold mnf; split <;> omega
  rw [e]
  refine ⟨by omega, fun q hq => ?_⟩
  rcases List.mem_cons.1 hq with rfl | hq
  · omega
  · exact ih.2 q hq
theorem bounds_in (l : List S105) (hl : l.length ≤ 100) (hp : 0 < l.length) (hm : ∀ p ∈ l, (-100 ≤ p.f0 ∧ p.f0 ≤ 100) ∧ (-100 ≤ p.f1 ∧ p.f1 ≤ 100)) : ∃ x y u v u' v', (∀ k, 101 < k → spec_l03Bounds.f k l = some (x, y, u, v) ∧ impl_bounds.f k l = some (x, y, u', v')) ∧ (-100 ≤ x ∧ x ≤ 100) ∧ (-100 ≤ y ∧ y ≤ 100) ∧ ∀ p ∈ l, x ≤ p.f0 ∧ y ≤ p.f1 := by
 obtain ⟨x, y, u, v, u', v', e⟩ := bounds_eq l hl hp
 refine ⟨x, y, u, v, u', v', e, ?_⟩
 obtain ⟨u2, v2, e2⟩ := specBounds l hl (l.length - 1) 1 l[0].f0 l[0].f1 l[0].f0 l[0].f1 (by omega)
 have h1 := (e 102 (by omega)).1
 have h0 := hm _ (List.getElem_mem hp)
 unfold spec_l03Bounds.f at h1
 rw [if_pos (by omega), show rd_T105 l 0 = l[0] from rd105 l 0 hp] at h1
 have h2 := e2 102 (by omega)
 rw [show ((1 : Nat) : Int) = 1 from rfl] at h2
 rw [h2] at h1
 simp only [Option.some.injEq, Prod.mk.injEq] at h1
 obtain ⟨rfl, rfl, _, _⟩ := h1
 refine ⟨lowX_in 100 _ _ (by omega) (by omega) (fun p h => (hm p (List.mem_of_mem_drop h)).1), lowY_in 100 _ _ (by omega) (by omega) (fun p h => (hm p (List.mem_of_mem_drop h)).2), fun p hm2 => ?_⟩
 have h5 := lowX_le (l.drop 1) l[0].f0
 have h6 := lowY_le (l.drop 1) l[0].f1
 rw [show l = l[0] :: l.drop 1 from by have := List.drop_eq_getElem_cons hp; rwa [List.drop_zero] at this] at hm2
 rcases List.mem_cons.1 hm2 with rfl | h
 · exact ⟨h5.1, h6.1⟩
 · exact ⟨h5.2 p h, h6.2 p h⟩
/-- the turned cells of a piece: the same list on both sides, small and as long as the piece -/
theorem turned_eq (p : S53) (t : Int) (ht : 0 ≤ t ∧ t ≤ 7) (hn : 1 ≤ p.f1.length ∧ p.f1.length ≤ 6) (hm : ∀ q ∈ p.f1, in5 q) : ∃ r : List S105, (∀ k, 1000 < k → spec_l19Turned.f k [p] t = some r ∧ impl_turnedCells.f k p.f0 p.f1 p.f2 p.f3 t = some r) ∧ r.length = p.f1.length ∧ ∀ q ∈ r, (0 ≤ q.f0 ∧ q.f0 ≤ 300) ∧ (0 ≤ q.f1 ∧ q.f1 ≤ 300) := by
 have r : rd_T53 [p] 0 = p := rfl
 have hmv : ∀ q ∈ p.f1.map (tpP t), (-100 ≤ q.f0 ∧ q.f0 ≤ 100) ∧ (-100 ≤ q.f1 ∧ q.f1 ≤ 100) := by
  intro q hq
  obtain ⟨z, hz, rfl⟩ := List.mem_map.1 hq
  obtain ⟨⟨a, b⟩, c, d⟩ := hm z hz
  have := tp_in t z.f0 z.f1 100 (by omega) (by omega) (by omega) (by omega)
  exact this
 have hlen : (p.f1.map (tpP t)).length = p.f1.length := List.length_map _
 obtain ⟨x, y, u, v, u', v', hb, hx, hy, hlo⟩ := bounds_in (p.f1.map (tpP t)) (by omega) (by omega) hmv
 have hsh : ∀ q ∈ (p.f1.map (tpP t)).map (shP (-x) (-y)), (0 ≤ q.f0 ∧ q.f0 ≤ 300) ∧ (0 ≤ q.f1 ∧ q.f1 ≤ 300) := by
  intro q hq
  obtain ⟨z, hz, rfl⟩ := List.mem_map.1 hq
  have := hmv z hz
  have := hlo z hz
  show (0 ≤ z.f0 + -x ∧ z.f0 + -x ≤ 300) ∧ (0 ≤ z.f1 + -y ∧ z.f1 + -y ≤ 300)
  omega
 obtain ⟨s1, s2⟩ := sortI_spec ((p.f1.map (tpP t)).map (shP (-x) (-y))) []
 refine ⟨sortI ((p.f1.map (tpP t)).map (shP (-x) (-y))), fun k hk => ⟨?_, ?_⟩, ?_, ?_⟩
 · unfold spec_l19Turned.f
   refine app_loop p.f1 (tpP t) 500 (fun k out i => spec_l19Turned.l0 k t out i [p]) _ ?_ ?_ k (by omega)
   · intro k out i h hk ho
     obtain ⟨⟨a, b⟩, c, d⟩ := hm _ (List.getElem_mem h)
     simp only [spec_l19Turned.l0, r]
     rw [if_pos (by simp), if_pos (by omega), if_pos (by omega), rd105 p.f1 i h, specTp ht (by omega) (by omega) k (by omega)]
     simp only [Option.bind_some]
     rw [if_pos (by omega), wnat (by omega)]
     rfl
   · intro k hk
     simp only [spec_l19Turned.l0, r]
     rw [if_pos (by simp), if_neg (by omega), (hb k (by omega)).1]
     simp only [Option.bind_some]
     exact specSort _ x y hmv hx hy (by omega) k (by omega)
 · unfold impl_turnedCells.f
   refine app_loop p.f1 (tpP t) 500 (fun k out i => impl_turnedCells.l0 k t out p.f1 (p.f1.length : Int) i) _ ?_ ?_ k (by omega)
   · intro k out i h hk ho
     obtain ⟨⟨a, b⟩, c, d⟩ := hm _ (List.getElem_mem h)
     simp only [impl_turnedCells.l0]
     rw [if_pos (by omega), if_pos (by omega), if_pos (by omega), rd105 p.f1 i h, implTp ht (by omega) (by omega) k (by omega)]
     simp only [Option.bind_some]
     rw [if_pos (by omega), wnat (by omega)]
     rfl
   · intro k hk
     simp only [impl_turnedCells.l0]
     rw [if_neg (by omega), (hb k (by omega)).2]
     simp only [Option.bind_some]
     rw [w64 (x := -x) (by omega) (by omega), w64 (x := -y) (by omega) (by omega), implShift _ (-x) (-y) (fun q hq => by have := hmv q hq; unfold small; omega) (by omega) (by omega) (by omega) k (by omega)]
     simp only [Option.bind_some]
     rw [implSort _ (fun q hq => by have := hsh q hq; unfold small; omega) (by rw [List.length_map]; omega) k (by omega)]
     rfl
 · show (((p.f1.map (tpP t)).map (shP (-x) (-y))).foldl _ []).length = p.f1.length
   rw [s1, List.length_map, hlen]; simp
 · intro q hq
   rcases s2 q hq with h | h
   · cases h
   · exact hsh q h
def eqS (p q : S105) : Bool := p.f0 == q.f0 && p.f1 == q.f1
def eqL : List S105 → List S105 → Bool
 | [], [] => true
 | p :: a, q :: b => eqS p q && eqL a b
 | _, _ => false
theorem eqL_len : ∀ (a b : List S105), a.length ≠ b.length → eqL a b = false
 | [], [], h => by simp at h
 | [], _ :: _, _ => rfl
 | _ :: _, [], _ => rfl
 | p :: a, q :: b, h => by
  rw [eqL, eqL_len a b (by simpa using h), Bool.and_false]
theorem ne_eqS (p q : S105) : (!(p.f0 == q.f0) || !(p.f1 == q.f1)) = !eqS p q := by
 unfold eqS
 cases p.f0 == q.f0 <;> cases p.f1 == q.f1 <;> rfl
theorem specEqual (a b : List S105) (ha : a.length ≤ 1000) (k : Nat) (hk : a.length < k) : spec_l03Equal.f k a b = some (eqL a b) := by
 unfold spec_l03Equal.f
 by_cases h : (a.length : Int) = b.length
 · rw [if_pos h]
   have key : ∀ (n i k : Nat), i + n = a.length → n < k → spec_l03Equal.l0 k a b (i : Int) = some (eqL (a.drop i) (b.drop i)) := by
    intro n
    induction n with
    | zero =>
     intro i k hi hk
     obtain ⟨k, rfl⟩ : ∃ m, k = m + 1 := ⟨k - 1, by omega⟩
     simp only [spec_l03Equal.l0]
     rw [if_neg (by omega), List.drop_of_length_le (by omega), List.drop_of_length_le (by omega)]; rfl
    | succ n ih =>
     intro i k hi hk
     obtain ⟨k, rfl⟩ : ∃ m, k = m + 1 := ⟨k - 1, by omega⟩
     have h1 : i < a.length := by omega
     have h2 : i < b.length := by omega
     simp only [spec_l03Equal.l0]
     rw [if_pos (by omega), if_pos (by omega), if_pos (by omega), rd105 a i h1, rd105 b i h2, ne_eqS, List.drop_eq_getElem_cons h1, List.drop_eq_getElem_cons h2, eqL]
     cases he : eqS a[i] b[i] with
     | true => rw [wnat (by omega), ih (i + 1) k (by omega) (by omega)]; rfl
     | false => rfl
   simpa using key a.length 0 k (by omega) (by omega)
 · rw [if_neg h, eqL_len a b (by omega)]
theorem implEqual (a b : List S105) (ha : a.length ≤ 1000) (k : Nat) (hk : a.length < k) : impl_Point_99.f k a b = some (eqL a b) := by
 unfold impl_Point_99.f
 by_cases h : (a.length : Int) = b.length
 · rw [if_pos h]
   have key : ∀ (n i k : Nat), i + n = a.length → n < k → impl_Point_99.l0 k a b (a.length : Int) (i : Int) = some (eqL (a.drop i) (b.drop i)) := by
    intro n
    induction n with
    | zero =>
     intro i k hi hk
     obtain ⟨k, rfl⟩ : ∃ m, k = m + 1 := ⟨k - 1, by omega⟩
     simp only [impl_Point_99.l0]
     rw [if_neg (by omega), List.drop_of_length_le (by omega), List.drop_of_length_le (by omega)]; rfl
    | succ n ih =>
     intro i k hi hk
     obtain ⟨k, rfl⟩ : ∃ m, k = m + 1 := ⟨k - 1, by omega⟩
     have h1 : i < a.length := by omega
     have h2 : i < b.length := by omega
     simp only [impl_Point_99.l0]
     rw [if_pos (by omega), if_pos (by omega), if_pos (by omega), if_pos (by omega), rd105 a i h1, rd105 b i h2, ne_eqS, List.drop_eq_getElem_cons h1, List.drop_eq_getElem_cons h2, eqL]
     cases he : eqS a[i] b[i] with
     | true => rw [wnat (by omega), ih (i + 1) k (by omega) (by omega)]; rfl
     | false => rfl
   simpa using key a.length 0 k (by omega) (by omega)
 · rw [if_neg h, eqL_len a b (by omega)]
theorem rdL (xs : List (List S105)) (i : Nat) (h : i < xs.length) : rd_L7 xs (i : Int) = xs[i] := by
 unfold rd_L7; simp [List.getD, h]
theorem contains_eq (xs : List (List S105)) (o : List S105) (hx : ∀ c ∈ xs, c.length ≤ 1000) (hl : xs.length ≤ 1000) (k : Nat) (hk : 3000 < k) : fi97_98.f k xs [o] = some (xs.any (fun c => eqL c o)) := by
 unfold fi97_98.f fi111_98.f
 obtain ⟨r, h1, h2⟩ := idx_loop xs 1001 (fun c => eqL c o) (fun k i => fi111_98.l0 k xs (xs.length : Int) i [o]) (by
  intro k i h hk
  simp only [fi111_98.l0]
  rw [if_pos (by omega), if_pos (by omega), if_pos (by omega), rdL xs i h]
  unfold impl_pieceTurns_1.f
  rw [if_pos (by simp), show rd_L7 [o] 0 = o from rfl, implEqual _ _ (hx _ (List.getElem_mem h)) k (by have := hx _ (List.getElem_mem h); omega)]
  simp only [Option.bind_some]
  rw [wnat (by omega)]) (by
  intro k hk
  simp only [fi111_98.l0]
  rw [if_neg (by omega)]) k (by omega)
 rw [h1]
 simp only [Option.bind_some, h2]
def fresh (T : Int → List S105) (out : List Int) (t : Int) : Bool := out.all (fun u => !eqL (T u) (T t))
def turnsFrom (T : Int → List S105) : Nat → List Int → Int → List Int
 | 0, out, _ => out
 | n + 1, out, t => turnsFrom T n (if fresh T out t = true then out ++ [t] else out) (t + 1)
theorem turnsFrom_len (T : Int → List S105) : ∀ (n : Nat) (out : List Int) (t : Int), (turnsFrom T n out t).length ≤ out.length + n
 | 0, out, t => by simp [turnsFrom]
 | n + 1, out, t => by
  have := turnsFrom_len T n (if fresh T out t = true then out ++ [t] else out) (t + 1)
  rw [turnsFrom]
  refine Nat.le_trans this ?_
  split <;> simp <;> omega
theorem turnsFrom_in (T : Int → List S105) : ∀ (n : Nat) (out : List Int) (t : Int), 0 ≤ t → t + n ≤ 8 → (∀ u ∈ out, 0 ≤ u ∧ u ≤ 7) → ∀ u ∈ turnsFrom T n out t, 0 ≤ u ∧ u ≤ 7
 | 0, out, t, _, _, h => h
 | n + 1, out, t, h0, h1, h => by
  rw [turnsFrom]
  refine turnsFrom_in T n _ _ (by omega) (by omega) ?_
  split
  · intro u hu
    rcases List.mem_append.1 hu with h2 | h2
    · exact h u h2
    · rw [List.mem_singleton] at h2; subst h2; omega
  · exact h
theorem specTurns_in (p : S53) (T : Int → List S105) (hT : ∀ t : Int, 0 ≤ t ∧ t ≤ 7 → (T t).length ≤ 6 ∧ ∀ k, 1000 < k → spec_l19Turned.f k [p] t = some (T t)) (out : List Int) (ho : out.length ≤ 100) (hr : ∀ u ∈ out, 0 ≤ u ∧ u ≤ 7) (t : Int) (ht : 0 ≤ t ∧ t ≤ 7) :
 ∀ (n i k : Nat) (b : Bool), i + n = out.length → 2000 + n < k → ∃ k', k = k' + n + 1 ∧ spec_l19Turns.l1 k out t b (i : Int) [p] = (if (b && fresh T (out.drop i) t) = true then spec_l19Turns.l0 k' (out ++ [t]) (wrap64 (t + 1)) [p] else spec_l19Turns.l0 k' out (wrap64 (t + 1)) [p]) := by
 intro n
 induction n with
 | zero =>
  intro i k b hi hk
  obtain ⟨k, rfl⟩ : ∃ m, k = m + 1 := ⟨k - 1, by omega⟩
  refine ⟨k, by omega, ?_⟩
  simp only [spec_l19Turns.l1]
  rw [if_neg (by omega), List.drop_of_length_le (by omega)]
  cases b with
  | true => rw [if_pos rfl, if_pos (by omega)]; rfl
  | false => rfl
 | succ n ih =>
  intro i k b hi hk
  obtain ⟨k, rfl⟩ : ∃ m, k = m + 1 := ⟨k - 1, by omega⟩
  have h1 : i < out.length := by omega
  have hu := hr _ (List.getElem_mem h1)
  simp only [spec_l19Turns.l1]
  rw [if_pos (by omega), List.drop_eq_getElem_cons h1]
  cases b with
  | true =>
   rw [if_pos rfl, if_pos (by omega), rdi out i h1, (hT _ hu).2 k (by omega), (hT _ ht).2 k (by omega)]
   simp only [Option.bind_some]
   rw [specEqual _ _ (by have := (hT _ hu).1; omega) k (by have := (hT _ hu).1; omega)]
   simp only [Option.bind_some]
   obtain ⟨k', e, h⟩ := ih (i + 1) k (!eqL (T out[i]) (T t)) (by omega) (by omega)
   refine ⟨k', by omega, ?_⟩
   rw [wnat (by omega), h]
   simp only [fresh, List.all_cons, Bool.true_and]
   rfl
  | false =>
   obtain ⟨k', e, h⟩ := ih (i + 1) k false (by omega) (by omega)
   refine ⟨k', by omega, ?_⟩
   rw [if_neg (by simp), wnat (by omega), h]
   simp
theorem specTurns_out (p : S53) (T : Int → List S105) (hT : ∀ t : Int, 0 ≤ t ∧ t ≤ 7 → (T t).length ≤ 6 ∧ ∀ k, 1000 < k → spec_l19Turned.f k [p] t = some (T t)) :
 ∀ (n k : Nat) (out : List Int) (t : Int), t + n = 8 → 0 ≤ t → out.length + n ≤ 20 → (∀ u ∈ out, 0 ≤ u ∧ u ≤ 7) → 3000 + 100 * n < k → spec_l19Turns.l0 k out t [p] = some (turnsFrom T n out t) := by
 intro n
 induction n with
 | zero =>
  intro k out t h h0 hl hr hk
  obtain ⟨k, rfl⟩ : ∃ m, k = m + 1 := ⟨k - 1, by omega⟩
  simp only [spec_l19Turns.l0]
  rw [if_neg (by omega)]; rfl
 | succ n ih =>
  intro k out t h h0 hl hr hk
  obtain ⟨k, rfl⟩ : ∃ m, k = m + 1 := ⟨k - 1, by omega⟩
  simp only [spec_l19Turns.l0]
  rw [if_pos (by omega)]
  obtain ⟨k', e, hh⟩ := specTurns_in p T hT out (by omega) hr t (by omega) out.length 0 k true (by omega) (by omega)
  rw [show ((0 : Nat) : Int) = 0 from rfl] at hh
  rw [hh, w64 (by omega) (by omega), List.drop_zero, Bool.true_and, turnsFrom]
  by_cases hf : fresh T out t = true
  · rw [if_pos hf, if_pos hf]
    refine ih k' _ (t + 1) (by omega) (by omega) (by simp; omega) ?_ (by omega)
    intro u hu
    rcases List.mem_append.1 hu with h | h
    · exact hr u h
    · rw [List.mem_singleton] at h; subst h; omega
  · rw [if_neg hf, if_neg hf]
    exact ih k' _ (t + 1) (by omega) (by omega) (by omega) hr (by omega)
theorem any_fresh (T : Int → List S105) (out : List Int) (t : Int) : (out.map T).any (fun c => eqL c (T t)) = !fresh T out t := by
 unfold fresh
 rw [List.any_map]
 induction out with
 | nil => rfl
 | cons x l ih => rw [List.any_cons, List.all_cons, ih]; simp only [Function.comp]; cases eqL (T x) (T t) <;> simp
theorem implTurns_out (p : S53) (hp : p.f3 = true) (T : Int → List S105) (hT : ∀ t : Int, 0 ≤ t ∧ t ≤ 7 → (T t).length ≤ 6 ∧ ∀ k, 1000 < k → impl_turnedCells.f k p.f0 p.f1 p.f2 p.f3 t = some (T t)) :
 ∀ (n k : Nat) (out : List Int) (t : Int), t + n = 8 → 0 ≤ t → out.length + n ≤ 20 → (∀ u ∈ out, 0 ≤ u ∧ u ≤ 7) → 4000 + 100 * n < k → impl_pieceTurns.l0 k out (out.map T) t p.f0 p.f1 p.f2 p.f3 = some (turnsFrom T n out t, (turnsFrom T n out t).map T) := by
 intro n
 induction n with
 | zero =>
  intro k out t h h0 hl hr hk
  obtain ⟨k, rfl⟩ : ∃ m, k = m + 2 := ⟨k - 2, by omega⟩
  simp only [impl_pieceTurns.l0]
  rw [if_neg (by omega)]
  simp only [impl_pieceTurns.j1]
  rfl
 | succ n ih =>
  intro k out t h h0 hl hr hk
  obtain ⟨k, rfl⟩ : ∃ m, k = m + 2 := ⟨k - 2, by omega⟩
  simp only [impl_pieceTurns.l0]
  rw [if_pos (by omega)]
  simp only [impl_pieceTurns.j1]
  rw [if_pos hp, (hT t (by omega)).2 k (by omega)]
  simp only [Option.bind_some]
  rw [contains_eq (out.map T) (T t) (by
   intro c hc
   obtain ⟨u, hu, rfl⟩ := List.mem_map.1 hc
   have := (hT u (hr u hu)).1; omega) (by simp; omega) k (by omega), any_fresh]
  simp only [Option.bind_some]
  rw [w64 (by omega) (by omega), turnsFrom]
  by_cases hf : fresh T out t = true
  · rw [hf, if_neg (by simp), if_pos (by simp; omega), if_pos (by simp; omega), if_pos rfl]
    rw [show out.map T ++ [T t] = (out ++ [t]).map T by simp]
    refine ih k _ (t + 1) (by omega) (by omega) (by simp; omega) ?_ (by omega)
    intro u hu
    rcases List.mem_append.1 hu with h | h
    · exact hr u h
    · rw [List.mem_singleton] at h; subst h; omega
  · rw [if_neg hf, if_pos (by simpa using hf)]
    exact ih k _ (t + 1) (by omega) (by omega) (by omega) hr (by omega)
theorem turns_eq (p : S53) (hn : 1 ≤ p.f1.length ∧ p.f1.length ≤ 6) (hm : ∀ q ∈ p.f1, in5 q) : ∃ (r : List Int) (c : List (List S105)), (r.length ≤ 8 ∧ ∀ u ∈ r, 0 ≤ u ∧ u ≤ 7) ∧ ∀ k, 6000 < k → spec_l19Turns.f k [p] = some r ∧ impl_pieceTurns.f k p.f0 p.f1 p.f2 p.f3 = some (r, c) := by
 have hex : ∃ T : Int → List S105, ∀ t : Int, 0 ≤ t ∧ t ≤ 7 → (T t).length ≤ 6 ∧ ∀ k, 1000 < k → spec_l19Turned.f k [p] t = some (T t) ∧ impl_turnedCells.f k p.f0 p.f1 p.f2 p.f3 t = some (T t) := by
  have hh : ∀ t : Int, ∃ r : List S105, 0 ≤ t ∧ t ≤ 7 → r.length ≤ 6 ∧ ∀ k, 1000 < k → spec_l19Turned.f k [p] t = some r ∧ impl_turnedCells.f k p.f0 p.f1 p.f2 p.f3 t = some r := by
   intro t
   by_cases ht : 0 ≤ t ∧ t ≤ 7
   · obtain ⟨r, h1, h2, _⟩ := turned_eq p t ht hn hm
     exact ⟨r, fun _ => ⟨by omega, h1⟩⟩
   · exact ⟨[], fun h => absurd h ht⟩
  exact ⟨fun t => (hh t).choose, fun t => (hh t).choose_spec⟩
 obtain ⟨T, hT⟩ := hex
 have hS := fun t (ht : 0 ≤ t ∧ t ≤ 7) => (⟨(hT t ht).1, fun k hk => ((hT t ht).2 k hk).1⟩ : (T t).length ≤ 6 ∧ ∀ k, 1000 < k → spec_l19Turned.f k [p] t = some (T t))
 have hI := fun t (ht : 0 ≤ t ∧ t ≤ 7) => (⟨(hT t ht).1, fun k hk => ((hT t ht).2 k hk).2⟩ : (T t).length ≤ 6 ∧ ∀ k, 1000 < k → impl_turnedCells.f k p.f0 p.f1 p.f2 p.f3 t = some (T t))
 have h0 : ∀ u ∈ ([0] : List Int), 0 ≤ u ∧ u ≤ 7 := by intro u hu; rw [List.mem_singleton] at hu; omega
 have hr : rd_T53 [p] 0 = p := rfl
 cases hp : p.f3 with
 | true =>
  refine ⟨turnsFrom T 7 [0] 1, (turnsFrom T 7 [0] 1).map T, ⟨turnsFrom_len T 7 [0] 1, turnsFrom_in T 7 [0] 1 (by omega) (by omega) h0⟩, fun k hk => ⟨?_, ?_⟩⟩
  · unfold spec_l19Turns.f
    simp only [Option.bind_some, hr]
    rw [if_pos (by simp), if_pos hp]
    exact specTurns_out p T hS 7 k [0] 1 (by omega) (by omega) (by simp) h0 (by omega)
  · unfold impl_pieceTurns.f
    rw [← hp, (hI 0 (by omega)).2 k (by omega)]
    simp only [Option.bind_some]
    exact implTurns_out p hp T hI 7 k [0] 1 (by omega) (by omega) (by simp) h0 (by omega)
 | false =>
  refine ⟨[0], [T 0], ⟨by simp, h0⟩, fun k hk => ⟨?_, ?_⟩⟩
  · unfold spec_l19Turns.f
    simp only [Option.bind_some, hr]
    rw [if_pos (by simp), if_neg (by rw [hp]; simp)]
  · obtain ⟨k, rfl⟩ : ∃ m, k = m + 2 := ⟨k - 2, by omega⟩
    unfold impl_pieceTurns.f
    rw [← hp, (hI 0 (by omega)).2 (k + 2) (by omega)]
    simp only [Option.bind_some, impl_pieceTurns.l0]
    rw [if_pos (by omega)]
    simp only [impl_pieceTurns.j1]
    rw [if_neg (by rw [hp]; simp)]
theorem specHas (l : List Int) (x : Int) (hl : l.length ≤ 100) (k : Nat) (hk : l.length < k) : spec_l00Has.f k l x = some (l.contains x) := by
 unfold spec_l00Has.f
 have := all_loop l 0 (fun y => !(y == x)) true false (fun k i => spec_l00Has.l0 k l x i) (by
  intro k i h _
  simp only [spec_l00Has.l0]
  rw [if_pos (by omega), if_pos (by omega), rdi l i h, wnat (by omega)]
  by_cases e : l[i] = x
  · rw [if_pos e]; simp [e]
  · rw [if_neg e]; simp [e]) (by
  intro k _
  simp only [spec_l00Has.l0]
  rw [if_neg (by omega)]) k (by omega)
 rw [this]
 congr 1
 rw [List.contains_eq_any_beq]
 have e : l.any (fun a => x == a) = !l.all (fun y => !(y == x)) := by
  rw [← any_not]
  congr 1
  funext y
  simp [Bool.beq_comm]
 rw [e]
 cases l.all (fun y => !(y == x)) <;> rfl
theorem implHas (l : List Int) (x : Int) (hl : l.length ≤ 100) (k : Nat) (hk : l.length < k) : slices_Contains_int64_int64.f k l x = some (l.contains x) := by
 unfold slices_Contains_int64_int64.f slices_Index_int64_int64.f
 obtain ⟨r, h1, h2⟩ := idx_loop l 0 (fun y => x == y) (fun k i => slices_Index_int64_int64.l0 k l x (l.length : Int) i) (by
  intro k i h _
  simp only [slices_Index_int64_int64.l0]
  rw [if_pos (by omega), if_pos (by omega), if_pos (by omega), rdi l i h, wnat (by omega)]
  by_cases e : x = l[i]
  · rw [if_pos e, if_pos (by simpa using e)]
  · rw [if_neg e, if_neg (by simpa using e)]) (by
  intro k _
  simp only [slices_Index_int64_int64.l0]
  rw [if_neg (by omega)]) k (by omega)
 rw [h1]
 simp only [Option.bind_some]
 rw [h2, List.contains_eq_any_beq]
def fitC (W H : Int) (cs : List S105) : Bool := cs.all (fun c => decide (c.f0 < W) && decide (c.f1 < H))
theorem fitC_cons (W H : Int) (c : S105) (cs : List S105) : fitC W H (c :: cs) = (decide (c.f0 < W) && decide (c.f1 < H) && fitC W H cs) := rfl
theorem fitC_no {W H : Int} {c : S105} {cs : List S105} (h : ¬ (c.f0 < W ∧ c.f1 < H)) : fitC W H (c :: cs) = false := by
 rw [fitC_cons, ← Bool.decide_and, decide_eq_false h, Bool.false_and]
theorem fitC_yes {W H : Int} {c : S105} {cs : List S105} (h : c.f0 < W ∧ c.f1 < H) : fitC W H (c :: cs) = fitC W H cs := by
 rw [fitC_cons, ← Bool.decide_and, decide_eq_true h, Bool.true_and]
def bump (W : Int) : List S105 → List Int → List Int
 | [], o => o
 | c :: cs, o => bump W cs (o.set (c.f1 * W + c.f0).toNat (wrap64 (rd o (c.f1 * W + c.f0) + 1)))
theorem bump_len (W : Int) : ∀ (cs : List S105) (o : List Int), (bump W cs o).length = o.length
 | [], o => rfl
 | c :: cs, o => by rw [bump, bump_len W cs, List.length_set]
def inb (n : Nat) (W H : Int) (q : S109) : Bool := decide (0 ≤ q.f0 ∧ q.f0 ≤ (n : Int) - 1) && (decide (0 ≤ q.f1 ∧ q.f1 ≤ W - 1) && decide (0 ≤ q.f2 ∧ q.f2 ≤ H - 1))
def cov (P : List S53) (tn : S53 → List Int) (cf : S53 → Int → List S105) (W H : Int) : List S109 → List Int → List Int → Option (List Int)
 | [], _, o => some o
 | q :: qs, u, o =>
  if inb P.length W H q = true then
   if (tn (rd_T53 P q.f0)).contains q.f3 = true then
    if rd (u.set q.f0.toNat (wrap64 (rd u q.f0 + 1))) q.f0 > (rd_T53 P q.f0).f2 then none
    else if fitC W H ((cf (rd_T53 P q.f0) q.f3).map (shP q.f1 q.f2)) = true then cov P tn cf W H qs (u.set q.f0.toNat (wrap64 (rd u q.f0 + 1))) (bump W ((cf (rd_T53 P q.f0) q.f3).map (shP q.f1 q.f2)) o) else none
   else none
  else none
theorem idx_in {W H x y : Int} (hW : 1 ≤ W ∧ W ≤ 12) (hH : 1 ≤ H ∧ H ≤ 12) (hx : 0 ≤ x) (hx2 : x < W) (hy : 0 ≤ y) (hy2 : y < H) : (0 ≤ y * W ∧ y * W ≤ 144) ∧ 0 ≤ y * W + x ∧ y * W + x < W * H := by
 have h1 : 0 ≤ y * W := Int.mul_nonneg hy (by omega)
 have h2 : 0 ≤ (H - 1 - y) * W := Int.mul_nonneg (by omega) (by omega)
 have h3 := mul12 hW hH
 have h4 : (H - 1 - y) * W = W * H - W - y * W := by rw [Int.sub_mul, Int.sub_mul, Int.one_mul, Int.mul_comm H W]
 rw [h4] at h2
 generalize y * W = a at *
 generalize W * H = b at *
 omega
section
variable (P : List S53) (laid : List S109) (W H : Int) (s : List Int) (hW : 1 ≤ W ∧ W ≤ 12) (hH : 1 ≤ H ∧ H ≤ 12) (hs : (s.length : Int) = W * H) (hL : laid.length ≤ 1048576)
include hW hH hs hL
theorem specFit (u : List Int) (i : Nat) (hi : i < laid.length) (cs : List S105) (hc : cs.length ≤ 10) : ∀ (n j k : Nat), j + n = cs.length → n < k →
 spec_l19Laid.l1 k P laid u (i : Int) cs (j : Int) [(⟨W, H, s⟩ : S27)] = (if fitC W H (cs.drop j) = true then spec_l19Laid.l0 (k - n - 1) P laid u ((i + 1 : Nat) : Int) [(⟨W, H, s⟩ : S27)] else some false) := by
 have r : rd_T27 [(⟨W, H, s⟩ : S27)] 0 = ⟨W, H, s⟩ := rfl
 intro n
 induction n with
 | zero =>
  intro j k hj hk
  obtain ⟨k, rfl⟩ : ∃ m, k = m + 1 := ⟨k - 1, by omega⟩
  simp only [spec_l19Laid.l1]
  rw [if_neg (by omega), List.drop_of_length_le (by omega), if_pos (show fitC W H [] = true from rfl), wnat (by omega)]
  rfl
 | succ n ih =>
  intro j k hj hk
  obtain ⟨k, rfl⟩ : ∃ m, k = m + 1 := ⟨k - 1, by omega⟩
  have h1 : j < cs.length := by omega
  simp only [spec_l19Laid.l1, r]
  rw [if_pos (by omega), if_pos (by omega), if_pos (by simp), rd105 cs j h1, List.drop_eq_getElem_cons h1, wnat (by omega), ih (j + 1) k (by omega) (by omega), show k + 1 - (n + 1) - 1 = k - n - 1 by omega]
  by_cases e1 : cs[j].f0 < W
  · by_cases e2 : cs[j].f1 < H
    · rw [if_neg (by omega), if_neg (by omega), fitC_yes ⟨e1, e2⟩]
    · rw [if_neg (by omega), if_pos (by omega), fitC_no (fun h => e2 h.2)]; rfl
  · rw [if_pos (by omega), fitC_no (fun h => e1 h.1)]; rfl
theorem implFit (u : List Int) (i : Nat) (hi : i < laid.length) (cs : List S105) (hc : cs.length ≤ 10) (hn : ∀ c ∈ cs, 0 ≤ c.f0 ∧ 0 ≤ c.f1) : ∀ (n j k : Nat) (o : List Int), j + n = cs.length → n < k → o.length = s.length →
 impl_coverCounts.l1 k P o u laid (laid.length : Int) (i : Int) cs (cs.length : Int) (j : Int) W H s = (if fitC W H (cs.drop j) = true then impl_coverCounts.l0 (k - n - 1) P (bump W (cs.drop j) o) u laid (laid.length : Int) ((i + 1 : Nat) : Int) W H s else some ([], false)) := by
 intro n
 induction n with
 | zero =>
  intro j k o hj hk ho
  obtain ⟨k, rfl⟩ : ∃ m, k = m + 1 := ⟨k - 1, by omega⟩
  simp only [impl_coverCounts.l1]
  rw [if_neg (by omega), List.drop_of_length_le (by omega), if_pos (show fitC W H [] = true from rfl), wnat (by omega)]
  rfl
 | succ n ih =>
  intro j k o hj hk ho
  obtain ⟨k, rfl⟩ : ∃ m, k = m + 1 := ⟨k - 1, by omega⟩
  have h1 : j < cs.length := by omega
  obtain ⟨n0, n1⟩ := hn _ (List.getElem_mem h1)
  simp only [impl_coverCounts.l1]
  rw [if_pos (by omega), if_pos (by omega), if_pos (by omega), rd105 cs j h1, List.drop_eq_getElem_cons h1]
  rw [bump]
  by_cases e1 : cs[j].f0 < W
  · by_cases e2 : cs[j].f1 < H
    · obtain ⟨⟨a1, a2⟩, a3, a4⟩ := idx_in hW hH n0 e1 n1 e2
      have a5 := mul12 hW hH
      rw [if_neg (by omega), if_neg (by omega), w64 (x := cs[j].f1 * W) (by omega) (by omega), w64 (x := cs[j].f1 * W + cs[j].f0) (by omega) (by omega), if_pos a3, if_pos (by omega), wnat (by omega), ih (j + 1) k _ (by omega) (by omega) (by rw [List.length_set]; exact ho), show k + 1 - (n + 1) - 1 = k - n - 1 by omega, fitC_yes ⟨e1, e2⟩]
    · rw [if_neg (by omega), if_pos (by omega), fitC_no (fun h => e2 h.2)]; rfl
  · rw [if_pos (by omega), fitC_no (fun h => e1 h.1)]; rfl
theorem specCount (i : Nat) (hi : i < laid.length) (cs : List S105) (hc : cs.length ≤ 10) (hn : ∀ c ∈ cs, 0 ≤ c.f0 ∧ 0 ≤ c.f1) : ∀ (n j k : Nat) (o : List Int), j + n = cs.length → n < k → o.length = s.length → fitC W H (cs.drop j) = true →
 spec_l19Uncovered.l1 k P laid o (i : Int) cs (j : Int) [(⟨W, H, s⟩ : S27)] = spec_l19Uncovered.l0 (k - n - 1) P laid (bump W (cs.drop j) o) ((i + 1 : Nat) : Int) [(⟨W, H, s⟩ : S27)] := by
 have r : rd_T27 [(⟨W, H, s⟩ : S27)] 0 = ⟨W, H, s⟩ := rfl
 intro n
 induction n with
 | zero =>
  intro j k o hj hk ho hf
  obtain ⟨k, rfl⟩ : ∃ m, k = m + 1 := ⟨k - 1, by omega⟩
  simp only [spec_l19Uncovered.l1]
  rw [if_neg (by omega), List.drop_of_length_le (by omega), wnat (by omega)]
  rfl
 | succ n ih =>
  intro j k o hj hk ho hf
  obtain ⟨k, rfl⟩ : ∃ m, k = m + 1 := ⟨k - 1, by omega⟩
  have h1 : j < cs.length := by omega
  obtain ⟨n0, n1⟩ := hn _ (List.getElem_mem h1)
  rw [List.drop_eq_getElem_cons h1] at hf ⊢
  rw [fitC_cons, Bool.and_eq_true, Bool.and_eq_true, decide_eq_true_eq, decide_eq_true_eq] at hf
  obtain ⟨⟨e1, e2⟩, hf⟩ := hf
  obtain ⟨⟨a1, a2⟩, a3, a4⟩ := idx_in hW hH n0 e1 n1 e2
  have a5 := mul12 hW hH
  simp only [spec_l19Uncovered.l1, r]
  rw [if_pos (by omega), if_pos (by omega), if_pos (by simp), rd105 cs j h1, w64 (x := cs[j].f1 * W) (by omega) (by omega), w64 (x := cs[j].f1 * W + cs[j].f0) (by omega) (by omega), if_pos a3, if_pos (by omega), wnat (by omega), ih (j + 1) k _ (by omega) (by omega) (by rw [List.length_set]; exact ho) hf, show k + 1 - (n + 1) - 1 = k - n - 1 by omega]
  rfl
theorem unc_eq (o : List Int) (ho : o.length = s.length) : ∀ (n i : Nat), i + n = o.length → ∃ v : Int, (v = -1 ∨ 0 ≤ v) ∧ ∀ k, n < k → spec_l19Uncovered.l2 k o (i : Int) [(⟨W, H, s⟩ : S27)] = some v ∧ impl_FirstUncovered.l0 k o (o.length : Int) (i : Int) W H s = some (v, 0) := by
 have r : rd_T27 [(⟨W, H, s⟩ : S27)] 0 = ⟨W, H, s⟩ := rfl
 have a5 := mul12 hW hH
 intro n
 induction n with
 | zero =>
  intro i hi
  refine ⟨-1, Or.inl rfl, fun k hk => ?_⟩
  obtain ⟨k, rfl⟩ : ∃ m, k = m + 1 := ⟨k - 1, by omega⟩
  simp only [spec_l19Uncovered.l2, impl_FirstUncovered.l0]
  rw [if_neg (by omega), if_neg (by omega)]
  exact ⟨rfl, rfl⟩
 | succ n ih =>
  intro i hi
  obtain ⟨v, hv0, hv⟩ := ih (i + 1) (by omega)
  by_cases e : rd o (i : Int) = rd s (i : Int)
  · refine ⟨v, hv0, fun k hk => ?_⟩
    obtain ⟨k, rfl⟩ : ∃ m, k = m + 1 := ⟨k - 1, by omega⟩
    simp only [spec_l19Uncovered.l2, impl_FirstUncovered.l0, r]
    rw [if_pos (by omega), if_pos (by omega), if_pos (by simp), if_pos (by omega), if_pos e, if_pos (by omega), if_pos (by omega), if_pos (by omega), if_pos (by omega), if_pos e, wnat (by omega)]
    exact hv k (by omega)
  · refine ⟨i, Or.inr (by omega), fun k hk => ?_⟩
    obtain ⟨k, rfl⟩ : ∃ m, k = m + 1 := ⟨k - 1, by omega⟩
    simp only [spec_l19Uncovered.l2, impl_FirstUncovered.l0, r]
    rw [if_pos (by omega), if_pos (by omega), if_pos (by simp), if_pos (by omega), if_neg e, if_pos (by omega), if_pos (by omega), if_pos (by omega), if_pos (by omega), if_neg e]
    exact ⟨rfl, rfl⟩
end
/-- what the two sides know of a list of pieces that holds -/
structure CovEnv (P : List S53) (tn : S53 → List Int) (cf : S53 → Int → List S105) : Prop where
 ok : ∀ p ∈ P, okP p
 tu : ∀ p, okP p → ((tn p).length ≤ 8 ∧ ∀ u ∈ tn p, 0 ≤ u ∧ u ≤ 7) ∧ ∀ k, 6000 < k → spec_l19Turns.f k [p] = some (tn p) ∧ ∃ c, impl_pieceTurns.f k p.f0 p.f1 p.f2 p.f3 = some (tn p, c)
 ce : ∀ p t, okP p → 0 ≤ t ∧ t ≤ 7 → ((cf p t).length ≤ 6 ∧ ∀ c ∈ cf p t, (0 ≤ c.f0 ∧ c.f0 ≤ 300) ∧ (0 ≤ c.f1 ∧ c.f1 ≤ 300)) ∧ ∀ k, 1000 < k → spec_l19Turned.f k [p] t = some (cf p t) ∧ impl_turnedCells.f k p.f0 p.f1 p.f2 p.f3 t = some (cf p t)
theorem cov_env (P : List S53) (h : ∀ p ∈ P, okP p) : ∃ tn cf, CovEnv P tn cf := by
 have h1 : ∀ p : S53, ∃ r : List Int, okP p → (r.length ≤ 8 ∧ ∀ u ∈ r, 0 ≤ u ∧ u ≤ 7) ∧ ∀ k, 6000 < k → spec_l19Turns.f k [p] = some r ∧ ∃ c, impl_pieceTurns.f k p.f0 p.f1 p.f2 p.f3 = some (r, c) := by
  intro p
  by_cases hp : okP p
  · obtain ⟨r, c, h0, hk⟩ := turns_eq p hp.1 hp.2
    exact ⟨r, fun _ => ⟨h0, fun k hk2 => ⟨(hk k hk2).1, c, (hk k hk2).2⟩⟩⟩
  · exact ⟨[], fun h => absurd h hp⟩
 have h2 : ∀ (p : S53) (t : Int), ∃ r : List S105, okP p → 0 ≤ t ∧ t ≤ 7 → (r.length ≤ 6 ∧ ∀ c ∈ r, (0 ≤ c.f0 ∧ c.f0 ≤ 300) ∧ (0 ≤ c.f1 ∧ c.f1 ≤ 300)) ∧ ∀ k, 1000 < k → spec_l19Turned.f k [p] t = some r ∧ impl_turnedCells.f k p.f0 p.f1 p.f2 p.f3 t = some r := by
  intro p t
  by_cases hp : okP p
  · by_cases ht : 0 ≤ t ∧ t ≤ 7
    · obtain ⟨r, hk, hl, hr⟩ := turned_eq p t ht hp.1 hp.2
      exact ⟨r, fun hp _ => ⟨⟨by have := hp.1; omega, hr⟩, hk⟩⟩
    · exact ⟨[], fun _ h => absurd h ht⟩
  · exact ⟨[], fun h => absurd h hp⟩
 exact ⟨fun p => (h1 p).choose, fun p t => (h2 p t).choose, h, fun p hp => (h1 p).choose_spec hp, fun p t hp ht => (h2 p t).choose_spec hp ht⟩
theorem cov_all (P : List S53) (laid : List S109) (W H : Int) (s : List Int) (hW : 1 ≤ W ∧ W ≤ 12) (hH : 1 ≤ H ∧ H ≤ 12) (hs : (s.length : Int) = W * H) (hL : laid.length ≤ 1048576) (hP : P.length ≤ 8) (tn : S53 → List Int) (cf : S53 → Int → List S105) (E : CovEnv P tn cf) :
 ∀ (n i : Nat) (u o : List Int) (k : Nat), i + n = laid.length → u.length = P.length → o.length = s.length → 7000 + 12 * n < k →
  spec_l19Laid.l0 k P laid u (i : Int) [(⟨W, H, s⟩ : S27)] = some (cov P tn cf W H (laid.drop i) u o).isSome ∧
  impl_coverCounts.l0 k P o u laid (laid.length : Int) (i : Int) W H s = some (match cov P tn cf W H (laid.drop i) u o with | some o' => (o', true) | none => ([], false)) ∧
  ∀ o', cov P tn cf W H (laid.drop i) u o = some o' → o'.length = s.length ∧ ∃ k', 2000 ≤ k' ∧ spec_l19Uncovered.l0 k P laid o (i : Int) [(⟨W, H, s⟩ : S27)] = spec_l19Uncovered.l2 k' o' 0 [(⟨W, H, s⟩ : S27)] := by
 have r : rd_T27 [(⟨W, H, s⟩ : S27)] 0 = ⟨W, H, s⟩ := rfl
 intro n
 induction n with
 | zero =>
  intro i u o k hi hu ho hk
  obtain ⟨k, rfl⟩ : ∃ m, k = m + 1 := ⟨k - 1, by omega⟩
  rw [List.drop_of_length_le (by omega)]
  simp only [spec_l19Laid.l0, impl_coverCounts.l0, spec_l19Uncovered.l0, cov]
  rw [if_neg (by omega), if_neg (by omega), if_neg (by omega)]
  refine ⟨rfl, rfl, fun o' h => ?_⟩
  obtain rfl := Option.some.inj h
  exact ⟨ho, k, by omega, rfl⟩
 | succ n ih =>
  intro i u o k hi hu ho hk
  obtain ⟨k, rfl⟩ : ∃ m, k = m + 1 + 1 + 1 := ⟨k - 3, by omega⟩
  have hlt : i < laid.length := by omega
  rw [List.drop_eq_getElem_cons hlt]
  have hq := rd109 laid i hlt
  generalize laid[i] = q at hq
  have p0 : (i : Int) < (laid.length : Int) := by omega
  have p1 : (0 : Int) ≤ (i : Int) := by omega
  have p2 : wrap64 ((P.length : Int) - 1) = (P.length : Int) - 1 := w64 (by omega) (by omega)
  have p3 : wrap64 (W - 1) = W - 1 := w64 (by omega) (by omega)
  have p4 : wrap64 (H - 1) = H - 1 := w64 (by omega) (by omega)
  have p5 : (0 : Int) < (([(⟨W, H, s⟩ : S27)] : List S27).length : Int) := by simp
  by_cases a1 : 0 ≤ q.f0 ∧ q.f0 ≤ (P.length : Int) - 1
  rotate_left
  · have e : cov P tn cf W H (q :: laid.drop (i + 1)) u o = none := by simp [cov, inb, a1]
    rw [e]
    refine ⟨?_, ?_, fun o' h => by cases h⟩
    · simp only [spec_l19Laid.l0, spec_l19Laid.j1, hq, p0, p1, p2, if_true, l00In_eq, decide_eq_false a1, Option.bind_some, Bool.false_eq_true, if_false, Option.isSome_none]
    · simp only [impl_coverCounts.l0, impl_coverCounts.j1, hq, p0, p1, p2, if_true, within_eq, decide_eq_false a1, Option.bind_some, Bool.false_eq_true, if_false]
  by_cases a2 : 0 ≤ q.f1 ∧ q.f1 ≤ W - 1
  rotate_left
  · have e : cov P tn cf W H (q :: laid.drop (i + 1)) u o = none := by simp [cov, inb, a2]
    rw [e]
    refine ⟨?_, ?_, fun o' h => by cases h⟩
    · simp only [spec_l19Laid.l0, spec_l19Laid.j1, hq, p0, p1, p2, p3, p5, r, if_true, l00In_eq, decide_eq_true a1, decide_eq_false a2, Option.bind_some, Bool.false_eq_true, if_false, Option.isSome_none]
    · simp only [impl_coverCounts.l0, impl_coverCounts.j1, hq, p0, p1, p2, p3, if_true, within_eq, decide_eq_true a1, decide_eq_false a2, Option.bind_some, Bool.false_eq_true, if_false]
  by_cases a3 : 0 ≤ q.f2 ∧ q.f2 ≤ H - 1
  rotate_left
  · have e : cov P tn cf W H (q :: laid.drop (i + 1)) u o = none := by simp [cov, inb, a3]
    rw [e]
    refine ⟨?_, ?_, fun o' h => by cases h⟩
    · simp only [spec_l19Laid.l0, spec_l19Laid.j1, hq, p0, p1, p2, p3, p4, p5, r, if_true, l00In_eq, decide_eq_true a1, decide_eq_true a2, decide_eq_false a3, Option.bind_some, Bool.false_eq_true, if_false, Option.isSome_none]
    · simp only [impl_coverCounts.l0, impl_coverCounts.j1, hq, p0, p1, p2, p3, p4, if_true, within_eq, decide_eq_true a1, decide_eq_true a2, decide_eq_false a3, Option.bind_some, Bool.not_false, Bool.false_eq_true, if_false]
  have hin : inb P.length W H q = true := by simp only [inb, decide_eq_true a1, decide_eq_true a2, decide_eq_true a3, Bool.and_self]
  have b1 : spec_l00In.f q.f0 0 ((P.length : Int) - 1) = some true := by rw [l00In_eq, decide_eq_true a1]
  have b2 : spec_l00In.f q.f1 0 (W - 1) = some true := by rw [l00In_eq, decide_eq_true a2]
  have b3 : spec_l00In.f q.f2 0 (H - 1) = some true := by rw [l00In_eq, decide_eq_true a3]
  have d1 : impl_within.f q.f0 0 ((P.length : Int) - 1) = some true := by rw [within_eq, decide_eq_true a1]
  have d2 : impl_within.f q.f1 0 (W - 1) = some true := by rw [within_eq, decide_eq_true a2]
  have d3 : impl_within.f q.f2 0 (H - 1) = some true := by rw [within_eq, decide_eq_true a3]
  obtain ⟨j, hj⟩ : ∃ j : Nat, q.f0 = (j : Int) := ⟨q.f0.toNat, by omega⟩
  have hjl : j < P.length := by omega
  have hpok := E.ok _ (List.getElem_mem hjl)
  have hrp : rd_T53 P q.f0 = P[j] := by rw [hj]; exact rd53 P j hjl
  generalize hpp : P[j] = p at hpok hrp
  obtain ⟨⟨t1, t2⟩, t3⟩ := E.tu p hpok
  have p6 : (0 : Int) ≤ q.f0 := a1.1
  have p7 : q.f0 < (P.length : Int) := by omega
  have p8 : q.f0 < (u.length : Int) := by omega
  by_cases a4 : (tn p).contains q.f3 = true
  rotate_left
  · have e : cov P tn cf W H (q :: laid.drop (i + 1)) u o = none := by simp only [cov, hin, hrp, if_true]; rw [if_neg a4]
    rw [e]
    have a4' : (tn p).contains q.f3 = false := by simpa using a4
    refine ⟨?_, ?_, fun o' h => by cases h⟩
    · simp only [spec_l19Laid.l0, spec_l19Laid.j1, hq, p0, p1, p2, p3, p4, p5, p6, p7, r, if_true, b1, b2, b3, Option.bind_some, hrp, (t3 (k + 1 + 1) (by omega)).1, specHas _ _ (show (tn p).length ≤ 100 by omega) (k + 1 + 1) (by omega), a4', Bool.not_false, Option.isSome_none]
    · obtain ⟨c, hc⟩ := (t3 (k + 1) (by omega)).2
      simp only [impl_coverCounts.l0, impl_coverCounts.j1, impl_coverCounts.j2, hq, p0, p1, p2, p3, p4, p6, p7, p8, if_true, d1, d2, d3, Option.bind_some, Bool.not_true, Bool.false_eq_true, if_false, hrp, hc, implHas _ _ (show (tn p).length ≤ 100 by omega) (k + 1) (by omega), a4']
  have ht := t2 q.f3 (by simpa using a4)
  obtain ⟨⟨c1, c2⟩, c3⟩ := E.ce p q.f3 hpok ht
  have hu' : ∀ v, (u.set q.f0.toNat v).length = P.length := fun v => by rw [List.length_set]; exact hu
  generalize hU : u.set q.f0.toNat (wrap64 (rd u q.f0 + 1)) = u' at *
  have hul : u'.length = P.length := by rw [← hU, List.length_set]; exact hu
  by_cases a5 : rd u' q.f0 > p.f2
  · have e : cov P tn cf W H (q :: laid.drop (i + 1)) u o = none := by simp only [cov, hin, hrp, a4, if_true, hU]; rw [if_pos a5]
    rw [e]
    refine ⟨?_, ?_, fun o' h => by cases h⟩
    · simp only [spec_l19Laid.l0, spec_l19Laid.j1, hq, p0, p1, p2, p3, p4, p5, p6, p7, p8, r, if_true, b1, b2, b3, Option.bind_some, hrp, (t3 (k + 1 + 1) (by omega)).1, specHas _ _ (show (tn p).length ≤ 100 by omega) (k + 1 + 1) (by omega), a4, Bool.not_true, Bool.false_eq_true, if_false, hU, a5, Option.isSome_none]
    · obtain ⟨c, hc⟩ := (t3 (k + 1) (by omega)).2
      simp only [impl_coverCounts.l0, impl_coverCounts.j1, impl_coverCounts.j2, hq, p0, p1, p2, p3, p4, p6, p7, p8, if_true, d1, d2, d3, Option.bind_some, Bool.not_true, Bool.false_eq_true, if_false, hrp, hc, implHas _ _ (show (tn p).length ≤ 100 by omega) (k + 1) (by omega), a4, hU, decide_eq_true a5]
  have hsm : ∀ c ∈ cf p q.f3, small c := fun c hc => by have := c2 c hc; unfold small; omega
  have hnn : ∀ c ∈ (cf p q.f3).map (shP q.f1 q.f2), 0 ≤ c.f0 ∧ 0 ≤ c.f1 := fun c hc => by
   obtain ⟨z, hz, rfl⟩ := List.mem_map.1 hc
   have := c2 z hz
   show 0 ≤ z.f0 + q.f1 ∧ 0 ≤ z.f1 + q.f2
   omega
  have hcl : ((cf p q.f3).map (shP q.f1 q.f2)).length = (cf p q.f3).length := List.length_map _
  have cells : ∀ k, 1000 < k → spec_l19Cells.f k [p] q.f1 q.f2 q.f3 = some ((cf p q.f3).map (shP q.f1 q.f2)) := fun k hk => by
   unfold spec_l19Cells.f
   rw [(c3 k hk).1]
   simp only [Option.bind_some]
   rw [specShift _ _ _ hsm (by omega) (by omega) (by omega) k (by omega)]
   rfl
  have csh := fun k (hk : 1000 < k) => implShift (cf p q.f3) q.f1 q.f2 hsm (by omega) (by omega) (by omega) k (by omega)
  have ctu := fun k (hk : 1000 < k) => (c3 k hk).2
  generalize hC : (cf p q.f3).map (shP q.f1 q.f2) = cs at *
  have hcs : cs.length ≤ 10 := by omega
  have e0 : cov P tn cf W H (q :: laid.drop (i + 1)) u o = if fitC W H cs = true then cov P tn cf W H (laid.drop (i + 1)) u' (bump W cs o) else none := by
   simp only [cov, hin, hrp, a4, if_true, hU, hC]; rw [if_neg a5]
  have fS := specFit P laid W H s hW hH hs hL u' i hlt cs hcs cs.length 0 (k + 1) (by omega) (by omega)
  have fI := implFit P laid W H s hW hH hs hL u' i hlt cs hcs hnn cs.length 0 k o (by omega) (by omega) ho
  rw [show ((0 : Nat) : Int) = 0 from rfl, List.drop_zero] at fS fI
  have s1 : spec_l19Laid.l0 (k + 1 + 1 + 1) P laid u (i : Int) [(⟨W, H, s⟩ : S27)] = spec_l19Laid.l1 (k + 1) P laid u' (i : Int) cs 0 [(⟨W, H, s⟩ : S27)] := by
   simp only [spec_l19Laid.l0, spec_l19Laid.j1, hq, p0, p1, p2, p3, p4, p5, p6, p7, p8, r, if_true, b1, b2, b3, Option.bind_some, hrp, (t3 (k + 1 + 1) (by omega)).1, specHas _ _ (show (tn p).length ≤ 100 by omega) (k + 1 + 1) (by omega), a4, Bool.not_true, Bool.false_eq_true, if_false, hU, a5, cells (k + 1) (by omega)]
  have i1 : impl_coverCounts.l0 (k + 1 + 1 + 1) P o u laid (laid.length : Int) (i : Int) W H s = impl_coverCounts.l1 k P o u' laid (laid.length : Int) (i : Int) cs (cs.length : Int) 0 W H s := by
   obtain ⟨c, hc⟩ := (t3 (k + 1) (by omega)).2
   simp only [impl_coverCounts.l0, impl_coverCounts.j1, impl_coverCounts.j2, hq, p0, p1, p2, p3, p4, p6, p7, p8, if_true, d1, d2, d3, Option.bind_some, Bool.not_true, Bool.false_eq_true, if_false, hrp, hc, implHas _ _ (show (tn p).length ≤ 100 by omega) (k + 1) (by omega), a4, hU, decide_eq_false a5, ctu k (by omega), csh k (by omega)]
  rw [s1, i1, e0, fS, fI]
  by_cases a6 : fitC W H cs = true
  · rw [if_pos a6, if_pos a6, if_pos a6]
    obtain ⟨x1, _, _⟩ := ih (i + 1) u' (bump W cs o) (k + 1 - cs.length - 1) (by omega) hul (by rw [bump_len]; exact ho) (by omega)
    obtain ⟨_, x2, _⟩ := ih (i + 1) u' (bump W cs o) (k - cs.length - 1) (by omega) hul (by rw [bump_len]; exact ho) (by omega)
    obtain ⟨_, _, x3⟩ := ih (i + 1) u' (bump W cs o) (k + 1 + 1 - cs.length - 1) (by omega) hul (by rw [bump_len]; exact ho) (by omega)
    refine ⟨x1, x2, fun o' h => ?_⟩
    obtain ⟨y1, k', y2, y3⟩ := x3 o' h
    refine ⟨y1, k', y2, ?_⟩
    have fC := specCount P laid W H s hW hH hs hL i hlt cs hcs hnn cs.length 0 (k + 1 + 1) o (by omega) (by omega) ho a6
    rw [show ((0 : Nat) : Int) = 0 from rfl, List.drop_zero] at fC
    simp only [spec_l19Uncovered.l0, hq, p0, p1, p6, p7, if_true, hrp, cells (k + 1 + 1) (by omega), Option.bind_some]
    rw [fC]
    exact y3
  · rw [if_neg a6, if_neg a6, if_neg a6]
    exact ⟨rfl, rfl, fun o' h => by cases h⟩
/-- the program's answer and the reference's -/
theorem is_same (W H : Int) (s : List Int) (P : List S53) (laid : List S109) (hl : s.length ≤ 1048576) (hp : P.length ≤ 1048576) (hL : laid.length ≤ 1048576) :
 ∃ r : Bool, ∀ k, 14000000 < k → spec_IsCover.f k W H s P laid = some r ∧ impl_IsCover.f k W H s P laid = some r := by
 cases hok : okSh W H s with
 | false =>
  refine ⟨false, fun k hk => ?_⟩
  obtain ⟨k, rfl⟩ : ∃ m, k = m + 1 := ⟨k - 1, by omega⟩
  unfold spec_IsCover.f impl_IsCover.f impl_FirstUncovered.f
  rw [specShape W H s hl (k + 1) (by omega), implShape W H s hl (k + 1) (by omega), hok]
  simp [impl_FirstUncovered.j0]
 | true =>
  obtain ⟨b, hb0, hb⟩ := pieces_eq2 P hp
  cases b with
  | false =>
   refine ⟨false, fun k hk => ?_⟩
   obtain ⟨k, rfl⟩ : ∃ m, k = m + 1 := ⟨k - 1, by omega⟩
   unfold spec_IsCover.f impl_IsCover.f impl_FirstUncovered.f
   rw [specShape W H s hl (k + 1) (by omega), implShape W H s hl (k + 1) (by omega), hok]
   simp [impl_FirstUncovered.j0, (hb (k + 1) (by omega)).1, (hb (k + 1) (by omega)).2]
  | true =>
   obtain ⟨hP8, hPok⟩ := hb0 rfl
   obtain ⟨tn, cf, E⟩ := cov_env P hPok
   obtain ⟨hW, hH, hs, _⟩ := okSh_spec hok
   have h144 := mul12 hW hH
   have hz1 : (List.replicate P.length (0 : Int)).length = P.length := List.length_replicate
   have hz2 : (List.replicate s.length (0 : Int)).length = s.length := List.length_replicate
   have main := fun k (hk : 7000 + 12 * laid.length < k) => cov_all P laid W H s hW hH hs hL hP8 tn cf E laid.length 0 (List.replicate P.length 0) (List.replicate s.length 0) k (by omega) hz1 hz2 hk
   simp only [List.drop_zero, show ((0 : Nat) : Int) = 0 from rfl] at main
   cases hc : cov P tn cf W H laid (List.replicate P.length 0) (List.replicate s.length 0) with
   | none =>
    refine ⟨false, fun k hk => ?_⟩
    obtain ⟨k, rfl⟩ : ∃ m, k = m + 1 := ⟨k - 1, by omega⟩
    obtain ⟨_, m2, _⟩ := main k (by omega)
    obtain ⟨m1, _, _⟩ := main (k + 1) (by omega)
    rw [hc] at m1 m2
    unfold spec_IsCover.f impl_IsCover.f impl_FirstUncovered.f
    rw [specShape W H s hl (k + 1) (by omega), implShape W H s hl (k + 1) (by omega), hok]
    simp only [Option.bind_some, if_true, (hb (k + 1) (by omega)).1, (hb (k + 1) (by omega)).2, Bool.not_true, impl_FirstUncovered.j0, Bool.false_eq_true, if_false]
    unfold spec_l19Laid.f impl_coverCounts.f
    rw [if_pos (by omega), if_pos (by omega), if_pos (by omega), if_pos (by omega), if_pos (by omega), if_pos (by omega), show ((P.length : Int)).toNat = P.length by omega, show ((s.length : Int)).toNat = s.length by omega, m1, m2]
    simp
   | some o' =>
    have hlen : o'.length = s.length := (((main 14000000 (by omega)).2.2) o' hc).1
    obtain ⟨v, hv0, hv⟩ := unc_eq laid W H s hW hH hs hL o' hlen o'.length 0 (by omega)
    rw [show ((0 : Nat) : Int) = 0 from rfl] at hv
    refine ⟨decide (v < 0), fun k hk => ?_⟩
    obtain ⟨k, rfl⟩ : ∃ m, k = m + 1 := ⟨k - 1, by omega⟩
    obtain ⟨_, m2, _⟩ := main k (by omega)
    obtain ⟨m1, _, m3⟩ := main (k + 1) (by omega)
    obtain ⟨_, k', hk', m4⟩ := m3 o' hc
    rw [hc] at m1 m2
    unfold spec_IsCover.f impl_IsCover.f impl_FirstUncovered.f
    rw [specShape W H s hl (k + 1) (by omega), implShape W H s hl (k + 1) (by omega), hok]
    simp only [Option.bind_some, if_true, (hb (k + 1) (by omega)).1, (hb (k + 1) (by omega)).2, Bool.not_true, impl_FirstUncovered.j0, Bool.false_eq_true, if_false]
    unfold spec_l19Laid.f impl_coverCounts.f spec_l19Uncovered.f
    rw [show rd_T27 [(⟨W, H, s⟩ : S27)] 0 = ⟨W, H, s⟩ from rfl]
    dsimp only
    rw [if_pos (by omega), if_pos (by omega), if_pos (by simp), if_pos (by omega), if_pos (by omega), if_pos (by omega), if_pos (by omega), if_pos (by omega), if_pos (by omega), show ((P.length : Int)).toNat = P.length by omega, show ((s.length : Int)).toNat = s.length by omega, m1, m2]
    simp only [Option.bind_some, Option.isSome_some, if_true]
    rw [m4, (hv k' (by omega)).1, (hv k (by omega)).2]
    simp only [Option.bind_some, if_true]
    refine ⟨trivial, ?_⟩
    rcases hv0 with rfl | hv0
    · rfl
    · rw [decide_eq_false (by omega)]
      congr 1
      simp; omega
theorem FnExactIsCover : laws_FnExactIsCover.Pure := by
 intro W H s l laid ⟨_, _, hs, _⟩ ⟨hl, hg⟩ ⟨hd, _⟩
 obtain ⟨k, hk⟩ : ∃ k : Nat, k = 14000005 := ⟨_, rfl⟩
 refine ⟨k + 1, ?_⟩
 unfold laws_FnExactIsCover.f
 rw [szShape_eq W H s hs]
 simp only [Option.bind_some]
 by_cases h : (1048576 : Int) < s.length
 · rw [if_pos h, if_pos (by omega)]
 rw [if_neg h, if_neg (by omega)]
 obtain ⟨v, e, hv⟩ := szPieceS_at l (1048576 - (s.length : Int)) (by omega) (by omega) hl hg
 rw [e (k + 1) (by omega)]
 simp only [Option.bind_some]
 by_cases hv0 : v < 0
 · rw [if_pos hv0]
 obtain ⟨h1, h2, h3⟩ := hv.resolve_left hv0
 rw [if_neg hv0, szLaidS_eq laid v (by omega) (by omega) hd]
 simp only [Option.bind_some]
 by_cases hd2 : v < laid.length
 · rw [if_pos hd2, if_pos (by omega)]
 rw [if_neg hd2, if_neg (by omega)]
 have h4 : ∀ y ∈ l.map toPc, y.f1.length ≤ 1048576 := fun y hy => by
  obtain ⟨x, hx, rfl⟩ := List.mem_map.1 hy
  show (x.f1.map toPt).length ≤ 1048576
  rw [List.length_map]; exact h2 x hx
 have h5 : (l.map toPc).length ≤ 1048576 := by rw [List.length_map]; exact h1
 have h6 : (laid.map toLd).length ≤ 1048576 := by rw [List.length_map]; omega
 obtain ⟨r1, hr⟩ := is_same W H s (l.map toPc) (laid.map toLd) (by omega) h5 h6
 obtain ⟨q1, q2⟩ := hr (k + 1) (by omega)
 rw [toShape_eq W H s (by omega) (k + 1) (by omega), toPieceS_eq l h1 h2 (k + 1) (by omega), toLaidS_eq laid (by omega) (k + 1) (by omega)]
 simp only [Option.bind_some, q1, q2, bne_self_eq_false, Bool.false_eq_true, if_false, eqShape_eq W H s (by omega) (k + 1) (by omega), eqPieceS_eq _ h5 h4 (k + 1) (by omega), eqLaidS_eq _ h6 (k + 1) (by omega), if_true]
end Go.Proofs.Ytakagkflgkoiiaa.Pure

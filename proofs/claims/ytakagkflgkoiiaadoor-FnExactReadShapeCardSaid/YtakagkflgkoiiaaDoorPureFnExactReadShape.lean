/- FnExactReadShape: the program's ReadShape returns what the reference's returns, for all arguments; no condition but that the listed tables read as the card ties them. -/
import Derived.Test.YtakagkflgkoiiaaDoorGFnExactReadShapex
import Derived.Lib.ItoaLen
import Derived.Lib.Join
import Derived.Lib.SplitLaws
import Derived.Lib.IndexBytes
namespace Go.Proofs.YtakagkflgkoiiaaDoor.Pure
open Go.RowKit Go.Proofs.YtakagkflgkoiiaaDoor.GFnExactReadShape Go.Proofs.YtakagkflgkoiiaaDoorW.PrintWords Go.Proofs.YtakagkflgkoiiaaDoorW.PrintLast
set_option linter.unusedSimpArgs false
set_option linter.unusedVariables false

theorem w64 {x : Int} (h0 : -9223372036854775808 ≤ x) (h1 : x ≤ 9223372036854775807) : wrap64 x = x := by
  unfold wrap64; omega

theorem within_eq (a b c : Int) : impl_within.f a b c = some (decide (b ≤ a ∧ a ≤ c)) := by
  unfold impl_within.f
  by_cases h : a ≥ b
  · rw [if_pos h]; simp [h]
  · rw [if_neg h]; simp; omega

theorem l00In_eq (a b c : Int) : spec_l00In.f a b c = some (decide (b ≤ a ∧ a ≤ c)) := by
  unfold spec_l00In.f
  by_cases h : a ≥ b
  · rw [if_pos h]; simp [h]
  · rw [if_neg h]; simp; omega

/-- a loop over a list: from one state to the next, or out of it -/
def run {α σ β : Type} (st : σ → α → Nat → σ ⊕ β) (en : σ → β) : List α → σ → Nat → β
  | [], s, _ => en s
  | x :: xs, s, i => match st s x i with
    | .inl s' => run st en xs s' (i + 1)
    | .inr r => r

theorem loop_run {α σ β : Type} (xs : List α) (K0 : Nat) (Inv : σ → Nat → Prop) (L : Nat → σ → Int → Option β) (st : σ → α → Nat → σ ⊕ β) (en : σ → β)
    (hs : ∀ (k : Nat) (s : σ) (i : Nat) (h : i < xs.length), K0 ≤ k → Inv s i →
      (∃ s', st s xs[i] i = .inl s' ∧ Inv s' (i + 1) ∧ L (k + 1) s (i : Int) = L k s' ((i + 1 : Nat) : Int)) ∨ (∃ r, st s xs[i] i = .inr r ∧ L (k + 1) s (i : Int) = some r))
    (he : ∀ (k : Nat) (s : σ), K0 ≤ k → Inv s xs.length → L (k + 1) s (xs.length : Int) = some (en s)) :
    ∀ (n i k : Nat) (s : σ), i + n = xs.length → K0 + n < k → Inv s i → L k s (i : Int) = some (run st en (xs.drop i) s i) := by
  intro n
  induction n with
  | zero =>
    intro i k s hi hk hI
    obtain ⟨k, rfl⟩ : ∃ m, k = m + 1 := ⟨k - 1, by omega⟩
    obtain rfl : i = xs.length := by omega
    rw [he k s (by omega) hI, List.drop_length]; rfl
  | succ n ih =>
    intro i k s hi hk hI
    obtain ⟨k, rfl⟩ : ∃ m, k = m + 1 := ⟨k - 1, by omega⟩
    have hlt : i < xs.length := by omega
    rw [List.drop_eq_getElem_cons hlt]
    rcases hs k s i hlt (by omega) hI with ⟨s', h1, h2, h3⟩ | ⟨r, h1, h3⟩
    · rw [h3, ih (i + 1) k s' (by omega) (by omega) h2]
      simp only [run, h1]
    · rw [h3]
      simp only [run, h1]

theorem loop_run0 {α σ β : Type} (xs : List α) (K0 : Nat) (Inv : σ → Nat → Prop) (L : Nat → σ → Int → Option β) (st : σ → α → Nat → σ ⊕ β) (en : σ → β)
    (hs : ∀ (k : Nat) (s : σ) (i : Nat) (h : i < xs.length), K0 ≤ k → Inv s i →
      (∃ s', st s xs[i] i = .inl s' ∧ Inv s' (i + 1) ∧ L (k + 1) s (i : Int) = L k s' ((i + 1 : Nat) : Int)) ∨ (∃ r, st s xs[i] i = .inr r ∧ L (k + 1) s (i : Int) = some r))
    (he : ∀ (k : Nat) (s : σ), K0 ≤ k → Inv s xs.length → L (k + 1) s (xs.length : Int) = some (en s)) (k : Nat) (s : σ) (hk : K0 + xs.length < k) (hI : Inv s 0) :
    L k s 0 = some (run st en xs s 0) := by
  have := loop_run xs K0 Inv L st en hs he xs.length 0 k s (by omega) hk hI
  simpa using this

/-- a row that is made and then filled, element by element -/
theorem loop_map {α β : Type} (xs : List α) (z : β) (c : α → β) (L : Nat → List β → Int → Option (List β))
    (hs : ∀ (k : Nat) (s : List β) (i : Nat) (h : i < xs.length), s.length = xs.length → L (k + 1) s (i : Int) = L k (s.set i (c xs[i])) ((i + 1 : Nat) : Int))
    (he : ∀ (k : Nat) (s : List β), L (k + 1) s (xs.length : Int) = some s) (k : Nat) (hk : xs.length < k) :
    L k (List.replicate xs.length z) 0 = some (xs.map c) := by
  have key : ∀ (n i k : Nat) (s : List β), i + n = xs.length → n < k → s.length = xs.length → s.take i = (xs.map c).take i → L k s (i : Int) = some (xs.map c) := by
    intro n
    induction n with
    | zero =>
      intro i k s hi hk hl ht
      obtain ⟨k, rfl⟩ : ∃ m, k = m + 1 := ⟨k - 1, by omega⟩
      obtain rfl : i = xs.length := by omega
      have h1 : s.take xs.length = s := List.take_of_length_le (by omega)
      rw [he, ← h1, ht, List.take_of_length_le (by simp)]
    | succ n ih =>
      intro i k s hi hk hl ht
      obtain ⟨k, rfl⟩ : ∃ m, k = m + 1 := ⟨k - 1, by omega⟩
      have hlt : i < xs.length := by omega
      rw [hs k s i hlt hl]
      refine ih (i + 1) k _ (by omega) (by omega) (by rw [List.length_set]; exact hl) ?_
      rw [List.take_succ_eq_append_getElem (by rw [List.length_set]; omega), List.take_succ_eq_append_getElem (by rw [List.length_map]; omega), List.take_set_of_le (by omega), ht]
      simp
  have := key xs.length 0 k (List.replicate xs.length z) (by omega) hk (by simp) (by simp)
  simpa using this

theorem wnat {n : Nat} (h : n < 9223372036854775807) : wrap64 ((n : Int) + 1) = ((n + 1 : Nat) : Int) := by
  unfold wrap64; omega

theorem loop_all {β : Type} (n K0 : Nat) (L : Nat → Int → Option β) (r : β) (hs : ∀ (k i : Nat), K0 ≤ k → i < n → L (k + 1) (i : Int) = L k ((i + 1 : Nat) : Int)) (he : ∀ k : Nat, L (k + 1) (n : Int) = some r)
    (k : Nat) (hk : K0 + n < k) : L k 0 = some r := by
  have key : ∀ (m i k : Nat), i + m = n → K0 + m < k → L k (i : Int) = some r := by
    intro m
    induction m with
    | zero =>
      intro i k hi hk
      obtain ⟨k, rfl⟩ : ∃ m, k = m + 1 := ⟨k - 1, by omega⟩
      obtain rfl : i = n := by omega
      exact he k
    | succ m ih =>
      intro i k hi hk
      obtain ⟨k, rfl⟩ : ∃ m, k = m + 1 := ⟨k - 1, by omega⟩
      rw [hs k i (by omega) (by omega)]
      exact ih (i + 1) k (by omega) (by omega)
  simpa using key n 0 k (by omega) hk

theorem all_from {α β : Type} (xs : List α) (K0 : Nat) (p : α → Bool) (r0 r1 : β) (L : Nat → Int → Option β)
    (hs : ∀ (k i : Nat) (h : i < xs.length), K0 ≤ k → L (k + 1) (i : Int) = if p xs[i] = true then L k ((i + 1 : Nat) : Int) else some r0)
    (he : ∀ k : Nat, K0 ≤ k → L (k + 1) (xs.length : Int) = some r1) : ∀ (n i k : Nat), i + n = xs.length → K0 + n < k → L k (i : Int) = some (if (xs.drop i).all p = true then r1 else r0) := by
  intro n
  induction n with
  | zero =>
    intro i k hi hk
    obtain ⟨k, rfl⟩ : ∃ m, k = m + 1 := ⟨k - 1, by omega⟩
    obtain rfl : i = xs.length := by omega
    rw [he k (by omega), List.drop_length]; rfl
  | succ n ih =>
    intro i k hi hk
    obtain ⟨k, rfl⟩ : ∃ m, k = m + 1 := ⟨k - 1, by omega⟩
    have hlt : i < xs.length := by omega
    rw [hs k i hlt (by omega), List.drop_eq_getElem_cons hlt, List.all_cons]
    cases hp : p xs[i] with
    | true => rw [if_pos rfl, ih (i + 1) k (by omega) (by omega), Bool.true_and]
    | false => simp

theorem all_loop {α β : Type} (xs : List α) (K0 : Nat) (p : α → Bool) (r0 r1 : β) (L : Nat → Int → Option β)
    (hs : ∀ (k i : Nat) (h : i < xs.length), K0 ≤ k → L (k + 1) (i : Int) = if p xs[i] = true then L k ((i + 1 : Nat) : Int) else some r0)
    (he : ∀ k : Nat, K0 ≤ k → L (k + 1) (xs.length : Int) = some r1) (k : Nat) (hk : K0 + xs.length < k) : L k 0 = some (if xs.all p = true then r1 else r0) := by
  simpa using all_from xs K0 p r0 r1 L hs he xs.length 0 k (by omega) hk

theorem idx_from {α : Type} (xs : List α) (K0 : Nat) (q : α → Bool) (L : Nat → Int → Option Int)
    (hs : ∀ (k i : Nat) (h : i < xs.length), K0 ≤ k → L (k + 1) (i : Int) = if q xs[i] = true then some (i : Int) else L k ((i + 1 : Nat) : Int))
    (he : ∀ k : Nat, K0 ≤ k → L (k + 1) (xs.length : Int) = some (-1)) : ∀ (n i k : Nat), i + n = xs.length → K0 + n < k → ∃ r, L k (i : Int) = some r ∧ decide (r ≥ 0) = (xs.drop i).any q := by
  intro n
  induction n with
  | zero =>
    intro i k hi hk
    obtain ⟨k, rfl⟩ : ∃ m, k = m + 1 := ⟨k - 1, by omega⟩
    obtain rfl : i = xs.length := by omega
    exact ⟨-1, he k (by omega), by rw [List.drop_length]; rfl⟩
  | succ n ih =>
    intro i k hi hk
    obtain ⟨k, rfl⟩ : ∃ m, k = m + 1 := ⟨k - 1, by omega⟩
    have hlt : i < xs.length := by omega
    rw [hs k i hlt (by omega), List.drop_eq_getElem_cons hlt, List.any_cons]
    cases hp : q xs[i] with
    | true => exact ⟨i, by rw [if_pos rfl], by simp⟩
    | false =>
      obtain ⟨r, h1, h2⟩ := ih (i + 1) k (by omega) (by omega)
      exact ⟨r, by rw [if_neg (by simp)]; exact h1, by rw [h2]; simp⟩

theorem idx_loop {α : Type} (xs : List α) (K0 : Nat) (q : α → Bool) (L : Nat → Int → Option Int)
    (hs : ∀ (k i : Nat) (h : i < xs.length), K0 ≤ k → L (k + 1) (i : Int) = if q xs[i] = true then some (i : Int) else L k ((i + 1 : Nat) : Int))
    (he : ∀ k : Nat, K0 ≤ k → L (k + 1) (xs.length : Int) = some (-1)) (k : Nat) (hk : K0 + xs.length < k) : ∃ r, L k 0 = some r ∧ decide (r ≥ 0) = xs.any q := by
  simpa using idx_from xs K0 q L hs he xs.length 0 k (by omega) hk

theorem any_not {α : Type} (l : List α) (p : α → Bool) : l.any (fun x => !p x) = !l.all p := by
  induction l with
  | nil => rfl
  | cons x l ih => rw [List.any_cons, List.all_cons, ih]; cases p x <;> simp

theorem rdi (xs : List Int) (i : Nat) (h : i < xs.length) : rd xs (i : Int) = xs[i] := by
  unfold rd; simp [List.getD, h]

theorem eqInt64S_eq (l : List Int) (hl : l.length ≤ 1048576) (k : Nat) (hk : l.length < k) : laws_eqInt64S.f k l l = some true := by
  unfold laws_eqInt64S.f
  rw [if_pos rfl]
  refine loop_all l.length 0 (fun k i => laws_eqInt64S.l0 k l l i) true ?_ ?_ k (by omega)
  · intro k i _ h
    simp only [laws_eqInt64S.l0]
    rw [if_pos (by omega), if_pos (by omega), if_pos (by omega), wnat (by omega)]; simp
  · intro k
    simp only [laws_eqInt64S.l0]
    rw [if_neg (by omega)]

theorem eqShape_eq (a b : Int) (l : List Int) (hl : l.length ≤ 1048576) (k : Nat) (hk : l.length < k) : laws_eqShape.f k a b l a b l = some true := by
  unfold laws_eqShape.f
  simp [eqInt64S_eq l hl k hk]

def bit (x : Int) : Bool := decide (0 ≤ x ∧ x ≤ 1)
def okSh (a b : Int) (l : List Int) : Bool := decide (1 ≤ a ∧ a ≤ 12) && (decide (1 ≤ b ∧ b ≤ 12) && (decide ((l.length : Int) = a * b) && l.all bit))

theorem okSh_spec {a b : Int} {l : List Int} (h : okSh a b l = true) : (1 ≤ a ∧ a ≤ 12) ∧ (1 ≤ b ∧ b ≤ 12) ∧ (l.length : Int) = a * b ∧ l.all bit = true := by
  unfold okSh at h
  simpa using h

theorem mul12 {a b : Int} (ha : 1 ≤ a ∧ a ≤ 12) (hb : 1 ≤ b ∧ b ≤ 12) : 1 ≤ a * b ∧ a * b ≤ 144 := by
  have h1 : (1 : Int) * 1 ≤ a * b := Int.mul_le_mul ha.1 hb.1 (by omega) (by omega)
  have h2 : a * b ≤ (12 : Int) * 12 := Int.mul_le_mul ha.2 hb.2 (by omega) (by omega)
  omega

theorem specShape (a b : Int) (l : List Int) (hl : l.length ≤ 1048576) (k : Nat) (hk : l.length + 1 < k) : spec_l19Ok.f k [(⟨a, b, l⟩ : S24)] = some (okSh a b l) := by
  have r : rd_T24 [(⟨a, b, l⟩ : S24)] 0 = ⟨a, b, l⟩ := rfl
  obtain ⟨k, rfl⟩ : ∃ m, k = m + 1 := ⟨k - 1, by omega⟩
  have hlp : spec_l19Ok.l0 k 0 [(⟨a, b, l⟩ : S24)] = some (if l.all bit = true then true else false) := by
    refine all_loop l 0 bit false true (fun k i => spec_l19Ok.l0 k i [(⟨a, b, l⟩ : S24)]) ?_ ?_ k (by omega)
    · intro k i hi _
      simp only [spec_l19Ok.l0, r]
      rw [if_pos (by simp), if_pos (by omega), if_pos (by omega), rdi l i hi, wnat (by omega), l00In_eq]
      rfl
    · intro k _
      simp only [spec_l19Ok.l0, r]
      rw [if_pos (by simp), if_neg (by omega)]
  unfold spec_l19Ok.f okSh
  rw [if_pos (by simp), r, l00In_eq, l00In_eq]
  simp only [Option.bind_some, spec_l19Ok.j0, hlp]
  by_cases ha : 1 ≤ a ∧ a ≤ 12
  · by_cases hb : 1 ≤ b ∧ b ≤ 12
    · have := mul12 ha hb
      rw [w64 (x := a * b) (by omega) (by omega)]
      by_cases hm : (l.length : Int) = a * b
      · cases hh : l.all bit <;> simp [ha, hb, hm]
      · simp [ha, hb, hm]
    · simp [ha, hb]
  · simp [ha]

theorem implShape (a b : Int) (l : List Int) (hl : l.length ≤ 1048576) (k : Nat) (hk : l.length + 1 < k) : impl_ValidShape.f k a b l = some (okSh a b l) := by
  unfold impl_ValidShape.f okSh
  rw [within_eq, within_eq]
  have he : fi19_20.f k l = some (!l.all bit) := by
    unfold fi19_20.f fi25_20.f
    obtain ⟨r, h1, h2⟩ := idx_loop l 0 (fun x => !bit x) (fun k i => fi25_20.l0 k l (l.length : Int) i) (by
      intro k i hi _
      simp only [fi25_20.l0]
      rw [if_pos (by omega), if_pos (by omega), if_pos (by omega), rdi l i hi, wnat (by omega)]
      unfold impl_ValidShape_1.f
      rw [within_eq]
      rfl) (by
      intro k _
      simp only [fi25_20.l0]
      rw [if_neg (by omega)]) k (by omega)
    rw [h1]
    simp only [Option.bind_some]
    rw [h2, any_not]
  simp only [Option.bind_some, he]
  by_cases ha : 1 ≤ a ∧ a ≤ 12
  · by_cases hb : 1 ≤ b ∧ b ≤ 12
    · have := mul12 ha hb
      rw [w64 (x := a * b) (by omega) (by omega)]
      by_cases hm : (l.length : Int) = a * b
      · simp [ha, hb, hm]
      · simp [ha, hb, hm]
    · simp [ha, hb]
  · simp [ha]

def bs (l : List UInt8) : ByteArray := ⟨l.toArray⟩
theorem bs_list (l : List UInt8) : (bs l).data.toList = l := rfl
theorem bs_of (s : ByteArray) : bs s.data.toList = s := by apply ByteArray.ext; simp [bs]
theorem bs_size (l : List UInt8) : (bs l).size = l.length := by simp [bs, ByteArray.size]
theorem bs_toList (l : List UInt8) : (bs l).toList = l := by rw [ByteArray.toList_eq]; rfl
theorem bs_inj {a b : List UInt8} (h : bs a = bs b) : a = b := by have := congrArg (fun s => s.data.toList) h; simpa [bs] using this
theorem size_list (s : ByteArray) : s.size = s.data.toList.length := by rw [Array.length_toList]; rfl
theorem extract_bs (l : List UInt8) (a b : Nat) : (bs l).extract a b = bs ((l.drop a).take (b - a)) := by
  rw [← bs_of ((bs l).extract a b), Lib.extract_data, bs_list]
theorem bt_bs (l : List UInt8) (i : Nat) (h : i < l.length) : bt (bs l) (i : Int) = (l[i].toNat : Int) := by
  unfold bt
  rw [dif_pos (by rw [bs_size]; simpa using h)]
  simp [bs, ByteArray.getElem_eq_getElem_data]

/-- a text divided at each byte c -/
def splitL (c : UInt8) : List UInt8 → List (List UInt8)
  | [] => [[]]
  | b :: l => if b = c then [] :: splitL c l else match splitL c l with
    | [] => [[b]]
    | x :: r => (b :: x) :: r

def hd (cur : List UInt8) : List (List UInt8) → List (List UInt8)
  | [] => [cur]
  | x :: r => (cur ++ x) :: r

theorem splitL_ne (c : UInt8) (l : List UInt8) : splitL c l ≠ [] := by
  cases l with
  | nil => simp [splitL]
  | cons b l =>
    rw [splitL]
    split
    · simp
    · split <;> simp

theorem splitL_cons_ne {c b : UInt8} (h : b ≠ c) (l : List UInt8) : splitL c (b :: l) = hd [b] (splitL c l) := by
  rw [splitL, if_neg h]
  cases splitL c l <;> rfl

theorem hd_hd (a b : List UInt8) (x : List (List UInt8)) : hd a (hd b x) = hd (a ++ b) x := by
  cases x <;> simp [hd]

theorem hd_nil (c : UInt8) (l : List UInt8) : hd [] (splitL c l) = splitL c l := by
  have := splitL_ne c l
  cases h : splitL c l with
  | nil => exact absurd h this
  | cons x r => rfl

theorem specSplit (l : List UInt8) (c : UInt8) (hl : l.length ≤ 1048576) (k : Nat) (hk : l.length < k) : spec_l01Split.f k (bs l) (c.toNat : Int) = some ((splitL c l).map bs) := by
  unfold spec_l01Split.f
  have key : ∀ (d i k fr : Nat) (out : List (List UInt8)), i + d = l.length → d < k → fr ≤ i → out.length ≤ i →
      spec_l01Split.l0 k (bs l) (c.toNat : Int) (out.map bs) (fr : Int) (i : Int) = some ((out ++ hd ((l.drop fr).take (i - fr)) (splitL c (l.drop i))).map bs) := by
    intro d
    induction d with
    | zero =>
      intro i k fr out hi hk hf ho
      obtain ⟨k, rfl⟩ : ∃ m, k = m + 1 := ⟨k - 1, by omega⟩
      simp only [spec_l01Split.l0]
      rw [bs_size, if_neg (by omega), if_pos (by omega), if_pos (by omega), if_pos (by rw [List.length_map]; omega), List.drop_of_length_le (by omega : l.length ≤ i), extract_bs]
      simp only [splitL, hd, Int.toNat_natCast, List.append_nil, List.map_append, List.map_cons, List.map_nil]
      rw [show i = l.length by omega]
    | succ d ih =>
      intro i k fr out hi hk hf ho
      obtain ⟨k, rfl⟩ : ∃ m, k = m + 1 := ⟨k - 1, by omega⟩
      have hlt : i < l.length := by omega
      simp only [spec_l01Split.l0]
      rw [bs_size, if_pos (by omega), if_pos (by omega), bt_bs l i hlt, List.drop_eq_getElem_cons hlt]
      by_cases hc : l[i] = c
      · rw [if_pos (by rw [hc]), if_pos (by omega), if_pos (by omega), if_pos (by omega), if_pos (by rw [List.length_map]; omega), wnat (by omega), extract_bs]
        have := ih (i + 1) k (i + 1) (out ++ [(l.drop fr).take (i - fr)]) (by omega) (by omega) (by omega) (by simp; omega)
        rw [List.map_append, List.map_cons, List.map_nil] at this
        simp only [Int.toNat_natCast]
        rw [this, splitL, if_pos hc, Nat.sub_self, List.take_zero, hd_nil]
        simp [hd]
      · rw [if_neg (fun h => hc (UInt8.toNat_inj.1 (by omega))), wnat (by omega), ih (i + 1) k fr out (by omega) (by omega) (by omega) (by omega), splitL_cons_ne hc, hd_hd]
        have e : (l.drop fr).take (i + 1 - fr) = (l.drop fr).take (i - fr) ++ [l[i]] := by
          rw [show i + 1 - fr = (i - fr) + 1 by omega, List.take_succ_eq_append_getElem (by simp; omega), List.getElem_drop]
          congr 2
          simp only [show fr + (i - fr) = i by omega]
        rw [e]
  have := key l.length 0 k 0 [] (by omega) hk (by omega) (by simp)
  simp only [List.map_nil, Nat.sub_self, List.take_zero, List.drop_zero, List.nil_append, hd_nil] at this
  exact this

theorem index_one (c : UInt8) : ∀ l : List UInt8, (c ∉ l ∧ Lib.index l [c] = -1) ∨ (∃ a r, l = a ++ c :: r ∧ c ∉ a ∧ Lib.index l [c] = (a.length : Int))
  | [] => .inl ⟨by simp, rfl⟩
  | b :: l => by
    by_cases h : b = c
    · subst h
      exact .inr ⟨[], l, rfl, by simp, by rw [Lib.index]; simp [List.isPrefixOf]⟩
    · have hp : ([c] : List UInt8).isPrefixOf (b :: l) = false := by simp [List.isPrefixOf, Ne.symm h]
      rcases index_one c l with ⟨h1, h2⟩ | ⟨a, r, h1, h2, h3⟩
      · exact .inl ⟨by simp [h1, Ne.symm h], by rw [Lib.index, hp, h2]; rfl⟩
      · refine .inr ⟨b :: a, r, by rw [h1]; rfl, by simp [h2, Ne.symm h], ?_⟩
        rw [Lib.index, hp, h3]
        rw [if_neg (by simp), if_neg (by rw [beq_iff_eq]; omega)]
        simp

theorem splitL_none (c : UInt8) : ∀ l : List UInt8, c ∉ l → splitL c l = [l]
  | [], _ => rfl
  | b :: l, h => by
    simp only [List.mem_cons, not_or] at h
    rw [splitL_cons_ne (Ne.symm h.1), splitL_none c l h.2]; rfl

theorem splitL_app (c : UInt8) (r : List UInt8) : ∀ a : List UInt8, c ∉ a → splitL c (a ++ c :: r) = a :: splitL c r
  | [], _ => by rw [List.nil_append, splitL, if_pos rfl]
  | b :: a, h => by
    simp only [List.mem_cons, not_or] at h
    rw [List.cons_append, splitL_cons_ne (Ne.symm h.1), splitL_app c r a h.2]; rfl

theorem count_app (c : UInt8) (a r : List UInt8) (h : c ∉ a) : (a ++ c :: r).count c = r.count c + 1 := by
  rw [List.count_append, List.count_eq_zero.2 h, List.count_cons_self]; omega

theorem splitK_eq (c : UInt8) : ∀ (n : Nat) (l : List UInt8), l.count c = n → Lib.splitK [c] 0 n l = splitL c l
  | 0, l, h => by rw [splitL_none c l (List.count_eq_zero.1 h)]; rfl
  | n + 1, l, h => by
    rcases index_one c l with ⟨h1, _⟩ | ⟨a, r, h1, h2, h3⟩
    · rw [List.count_eq_zero.2 h1] at h; omega
    · subst h1
      rw [count_app c a r h2] at h
      rw [Lib.splitK, if_neg (by rw [h3, beq_iff_eq]; omega), h3, splitL_app c r a h2]
      have := splitK_eq c n r (by omega)
      simp only [Int.toNat_natCast, Nat.add_zero, List.length_singleton]
      rw [List.take_left' rfl, show List.drop (a.length + 1) (a ++ c :: r) = r by rw [← List.drop_drop, List.drop_left' rfl]; rfl, this]

theorem map_data_inj : ∀ {x y : List ByteArray}, x.map (·.data.toList) = y.map (·.data.toList) → x = y
  | [], [], _ => rfl
  | [], _ :: _, h => by simp at h
  | _ :: _, [], h => by simp at h
  | a :: x, b :: y, h => by
    simp only [List.map_cons, List.cons.injEq] at h
    rw [map_data_inj h.2, ← bs_of a, ← bs_of b, h.1]

theorem splitB_eq (l : List UInt8) (c : UInt8) : Lib.splitB (bs [c]) 0 (Lib.countB (bs l) (bs [c])) (bs l) = (splitL c l).map bs := by
  apply map_data_inj
  rw [Lib.splitB_data, bs_list, bs_list, List.map_map]
  have e : ((fun x : ByteArray => x.data.toList) ∘ bs) = id := by funext x; rfl
  rw [e, List.map_id]
  have hc : Lib.countB (bs l) (bs [c]) = l.count c := by
    rw [show Lib.countB (bs l) (bs [c]) = Lib.count (bs l).data.toList (bs [c]).data.toList from rfl, bs_list, bs_list, Lib.count_one]
  rw [hc]
  exact splitK_eq c _ l rfl

theorem splitL_len (c : UInt8) : ∀ l : List UInt8, (splitL c l).length ≤ l.length + 1
  | [] => by simp [splitL]
  | b :: l => by
    have := splitL_len c l
    by_cases h : b = c
    · rw [splitL, if_pos h]; simp; omega
    · rw [splitL_cons_ne h]
      cases hs : splitL c l with
      | nil => simp [hd]
      | cons x r => rw [hs] at this; simp [hd] at this ⊢; omega

theorem implSplit (l : List UInt8) (c : UInt8) (hl : l.length ≤ 1048576) : Go.Proofs.YtakagkflgkoiiaaDoorX.strings_Split.f (bs l) (bs [c]) [()] = some ((splitL c l).map bs) := by
  unfold Go.Proofs.YtakagkflgkoiiaaDoorX.strings_Split.f
  rw [if_pos ⟨rfl, by rw [bs_size]; omega, by rw [bs_size]; simp⟩, splitB_eq]

theorem splitL_mem {c b : UInt8} (hb : b ≠ c) : ∀ {l : List UInt8}, b ∈ l → ∃ p ∈ splitL c l, b ∈ p
  | x :: l, h => by
    by_cases hx : x = c
    · rw [splitL, if_pos hx]
      rcases List.mem_cons.1 h with rfl | h
      · exact absurd hx hb
      · obtain ⟨p, hp, h2⟩ := splitL_mem hb h
        exact ⟨p, List.mem_cons_of_mem _ hp, h2⟩
    · rw [splitL_cons_ne hx]
      have hne := splitL_ne c l
      cases hs : splitL c l with
      | nil => exact absurd hs hne
      | cons y r =>
        rcases List.mem_cons.1 h with rfl | h
        · exact ⟨[b] ++ y, by simp [hd], by simp⟩
        · obtain ⟨p, hp, h2⟩ := splitL_mem hb h
          rw [hs] at hp
          rcases List.mem_cons.1 hp with rfl | hp
          · exact ⟨[x] ++ p, by simp [hd], by simp [h2]⟩
          · exact ⟨p, by simp [hd, hp], h2⟩

theorem splitL_part {c : UInt8} : ∀ {l p : List UInt8}, p ∈ splitL c l → p.length ≤ l.length ∧ ∀ b ∈ p, b ∈ l
  | [], p, h => by simp [splitL] at h; subst h; simp
  | x :: l, p, h => by
    by_cases hx : x = c
    · rw [splitL, if_pos hx] at h
      rcases List.mem_cons.1 h with rfl | h
      · simp
      · have := splitL_part h
        exact ⟨by simp; omega, fun b hb => List.mem_cons_of_mem _ (this.2 b hb)⟩
    · rw [splitL_cons_ne hx] at h
      have hne := splitL_ne c l
      cases hs : splitL c l with
      | nil => exact absurd hs hne
      | cons y r =>
        rw [hs] at h
        rcases List.mem_cons.1 h with rfl | h
        · have := splitL_part (show y ∈ splitL c l by rw [hs]; exact List.mem_cons_self)
          refine ⟨by simp; omega, fun b hb => ?_⟩
          rcases List.mem_cons.1 hb with rfl | hb
          · exact List.mem_cons_self
          · exact List.mem_cons_of_mem _ (this.2 b hb)
        · have := splitL_part (show p ∈ splitL c l by rw [hs]; exact List.mem_cons_of_mem _ h)
          exact ⟨by simp; omega, fun b hb => List.mem_cons_of_mem _ (this.2 b hb)⟩

def upTo : Nat → Int → List Int
  | 0, _ => []
  | n + 1, m => m :: upTo n (m + 1)

theorem upTo_len : ∀ (n : Nat) (m : Int), (upTo n m).length = n
  | 0, _ => rfl
  | n + 1, m => by simp [upTo, upTo_len n]

theorem upTo_get : ∀ (n : Nat) (m : Int) (i : Nat) (h : i < (upTo n m).length), (upTo n m)[i] = m + i
  | 0, m, i, h => by simp [upTo] at h
  | n + 1, m, 0, h => by simp [upTo]
  | n + 1, m, i + 1, h => by
    have h' : i < (upTo n (m + 1)).length := by simpa [upTo] using h
    have := upTo_get n (m + 1) i h'
    simp only [upTo, List.getElem_cons_succ, this]; omega

theorem markInts_eq (l : List Int) (hl : l.length ≤ 1048576) (m : Int) (h0 : 0 ≤ m) (h1 : m ≤ 100000000) (k : Nat) (hk : l.length < k) : laws_markInt64S.f k l m = some (m + l.length, upTo l.length m) := by
  have key : ∀ (n i k : Nat) (s : List Int), i + n = l.length → n < k → s.length = l.length → s.take i = (upTo l.length m).take i →
      laws_markInt64S.l0 k s (m + i) (i : Int) = some (m + l.length, upTo l.length m) := by
    intro n
    induction n with
    | zero =>
      intro i k s hi hk hs ht
      obtain ⟨k, rfl⟩ : ∃ m, k = m + 1 := ⟨k - 1, by omega⟩
      obtain rfl : i = l.length := by omega
      simp only [laws_markInt64S.l0]
      have e : s = upTo l.length m := by
        rw [List.take_of_length_le (by omega), List.take_of_length_le (by rw [upTo_len]; omega)] at ht; exact ht
      rw [if_neg (by omega), e]
    | succ n ih =>
      intro i k s hi hk hs ht
      obtain ⟨k, rfl⟩ : ∃ m, k = m + 1 := ⟨k - 1, by omega⟩
      simp only [laws_markInt64S.l0]
      rw [if_pos (by omega), if_pos (by omega), w64 (x := m + i + 1) (by omega) (by omega), wnat (by omega)]
      have hh := ih (i + 1) k (s.set (i : Int).toNat (m + i)) (by omega) (by omega) (by rw [List.length_set]; exact hs) (by
        have hlt : i < (upTo l.length m).length := by rw [upTo_len]; omega
        rw [List.take_succ_eq_append_getElem (by rw [List.length_set]; omega), List.take_succ_eq_append_getElem hlt, List.take_set_of_le (by omega), ht, upTo_get _ _ _ hlt]
        simp)
      rw [show m + ((i + 1 : Nat) : Int) = m + i + 1 by omega] at hh
      exact hh
  have := key l.length 0 k l (by omega) hk rfl (by simp)
  unfold laws_markInt64S.f
  simpa using this

theorem heldInts_eq (n : Nat) (hn : n ≤ 1048576) (m : Int) (h0 : 0 ≤ m) (h1 : m ≤ 100000000) (k : Nat) (hk : n < k) : laws_heldInt64S.f k (upTo n m) m = some (m + n) := by
  have key : ∀ (d i k : Nat), i + d = n → d < k → laws_heldInt64S.l0 k (upTo n m) (m + i) (i : Int) = some (m + n) := by
    intro d
    induction d with
    | zero =>
      intro i k hi hk
      obtain ⟨k, rfl⟩ : ∃ m, k = m + 1 := ⟨k - 1, by omega⟩
      obtain rfl : i = n := by omega
      simp only [laws_heldInt64S.l0]
      rw [if_neg (by rw [upTo_len]; omega)]
    | succ d ih =>
      intro i k hi hk
      obtain ⟨k, rfl⟩ : ∃ m, k = m + 1 := ⟨k - 1, by omega⟩
      simp only [laws_heldInt64S.l0]
      have hlt : i < (upTo n m).length := by rw [upTo_len]; omega
      rw [if_pos (by omega), if_pos (by omega), rdi _ i hlt, upTo_get _ _ _ hlt, if_pos rfl, w64 (x := m + i + 1) (by omega) (by omega), wnat (by omega)]
      have hh := ih (i + 1) k (by omega) (by omega)
      rw [show m + ((i + 1 : Nat) : Int) = m + i + 1 by omega] at hh
      exact hh
  have := key n 0 k (by omega) hk
  unfold laws_heldInt64S.f
  simpa using this

def okc (b : UInt8) : Bool := decide (b = 35) || decide (b = 46)
def rowN (p : List UInt8) : List Int := p.map fun b => if b = 35 then 1 else 0

/-- the cells of rows -/
def rsl : List (List UInt8) → Int → List Int → Option (List Int)
  | [], _, c => some c
  | p :: ps, W, c => if (p.length : Int) = W ∧ p.all okc = true then rsl ps W (c ++ rowN p) else none

def rsN (W n : Int) : Option (List Int) → Int × Int × List Int × Bool
  | some c => if okSh W n c = true then (W, n, c, true) else (0, 0, [], false)
  | none => (0, 0, [], false)

def first : List (List UInt8) → Int
  | [] => 0
  | p :: _ => p.length

def rsT (l : List UInt8) : Int × Int × List Int × Bool := rsN (first (splitL 47 l)) ((splitL 47 l).length : Int) (rsl (splitL 47 l) (first (splitL 47 l)) [])

theorem rdS (xs : List (List UInt8)) (i : Nat) (h : i < xs.length) : rdOf ByteArray.empty (xs.map bs) (i : Int) = bs xs[i] := by
  unfold rdOf; simp [List.getD, h]

theorem specShape2 (a b : Int) (l : List Int) (k : Nat) (hk : 1050000 < k) : spec_l19Ok.f k [(⟨a, b, l⟩ : S24)] = some (okSh a b l) := by
  by_cases hl : l.length ≤ 1048576
  · exact specShape a b l hl k (by omega)
  have r : rd_T24 [(⟨a, b, l⟩ : S24)] 0 = ⟨a, b, l⟩ := rfl
  obtain ⟨k, rfl⟩ : ∃ m, k = m + 1 := ⟨k - 1, by omega⟩
  unfold spec_l19Ok.f okSh
  rw [if_pos (by simp), r, l00In_eq, l00In_eq]
  simp only [Option.bind_some, spec_l19Ok.j0]
  by_cases ha : 1 ≤ a ∧ a ≤ 12
  · by_cases hb : 1 ≤ b ∧ b ≤ 12
    · have := mul12 ha hb
      rw [w64 (x := a * b) (by omega) (by omega)]
      have hm : ¬ (l.length : Int) = a * b := by omega
      simp [ha, hb, hm]
    · simp [ha, hb]
  · simp [ha]

theorem implShape2 (a b : Int) (l : List Int) (k : Nat) (hk : 1050000 < k) : impl_ValidShape.f k a b l = some (okSh a b l) := by
  by_cases hl : l.length ≤ 1048576
  · exact implShape a b l hl k (by omega)
  unfold impl_ValidShape.f okSh
  rw [within_eq, within_eq]
  simp only [Option.bind_some]
  by_cases ha : 1 ≤ a ∧ a ≤ 12
  · by_cases hb : 1 ≤ b ∧ b ≤ 12
    · have := mul12 ha hb
      rw [w64 (x := a * b) (by omega) (by omega)]
      have hm : ¬ (l.length : Int) = a * b := by omega
      simp [ha, hb, hm]
    · simp [ha, hb]
  · simp [ha]

theorem byte_ne {b c : UInt8} (h : b ≠ c) : ¬ (b.toNat : Int) = (c.toNat : Int) := fun e => h (UInt8.toNat_inj.1 (by omega))

theorem specRow (ps : List (List UInt8)) (i : Nat) (hi : i < ps.length) (hps : ps.length ≤ 2000000) (W n : Int) (R : Option (Int × Int × List Int × Bool)) (K : Nat) : ∀ (d j k : Nat) (c : List Int), j + d = ps[i].length → K + d + 1 < k → ps[i].length ≤ 2000000 → c.length + d ≤ 17000000000000 →
    (∀ k', K < k' → spec_l19Read.l0 k' (ps.map bs) ((i + 1 : Nat) : Int) W n (c ++ rowN (ps[i].drop j)) = R) →
    spec_l19Read.l1 k (ps.map bs) (i : Int) (j : Int) W n c = if (ps[i].drop j).all okc = true then R else some (0, 0, [], false) := by
  intro d
  induction d with
  | zero =>
    intro j k c hj hk hl hc hR
    obtain ⟨k, rfl⟩ : ∃ m, k = m + 1 := ⟨k - 1, by omega⟩
    simp only [spec_l19Read.l1]
    rw [rdS ps i hi, bs_size, List.length_map, if_pos (by omega), if_pos (by omega), if_neg (by omega), wnat (by omega)]
    have := hR k (by omega)
    rw [List.drop_of_length_le (by omega)] at this ⊢
    simp only [rowN, List.map_nil, List.append_nil] at this
    rw [this]; rfl
  | succ d ih =>
    intro j k c hj hk hl hc hR
    obtain ⟨k, rfl⟩ : ∃ m, k = m + 1 := ⟨k - 1, by omega⟩
    have hlt : j < ps[i].length := by omega
    simp only [spec_l19Read.l1]
    rw [rdS ps i hi, bs_size, List.length_map, if_pos (by omega), if_pos (by omega), if_pos (by omega), if_pos (by omega), bt_bs _ j hlt, wnat (by omega), List.drop_eq_getElem_cons hlt, List.all_cons]
    rw [List.drop_eq_getElem_cons hlt] at hR
    by_cases h1 : ps[i][j] = 35
    · rw [if_pos (by rw [h1]; rfl), if_pos (by omega), ih (j + 1) k (c ++ [1]) (by omega) (by omega) hl (by simp; omega) (by
        intro k' hk'
        have := hR k' hk'
        simpa [rowN, h1] using this)]
      simp [okc, h1]
    · rw [if_neg (by have := byte_ne h1; simpa using this)]
      by_cases h2 : ps[i][j] = 46
      · rw [if_pos (by rw [h2]; rfl), if_pos (by omega), ih (j + 1) k (c ++ [0]) (by omega) (by omega) hl (by simp; omega) (by
          intro k' hk'
          have := hR k' hk'
          simpa [rowN, h2] using this)]
        simp [okc, h2]
      · rw [if_neg (by have := byte_ne h2; simpa using this)]
        simp [okc, h1, h2]

theorem implRow (p : List UInt8) (x10 : List ByteArray) (x11 : Int) (i : Nat) (hi : i ≤ 2000000) (W n : Int) (R : Option (Int × Int × List Int × Bool)) (K : Nat) : ∀ (d j k : Nat) (c : List Int), j + d = p.length → K + d + 1 < k → p.length ≤ 2000000 → c.length + d ≤ 17000000000000 →
    (∀ k', K < k' → impl_ReadShape.l0 k' x10 x11 ((i + 1 : Nat) : Int) W n (c ++ rowN (p.drop j)) = R) →
    impl_ReadShape.l1 k (bs p) (j : Int) x10 x11 (i : Int) W n c = if (p.drop j).all okc = true then R else some (0, 0, [], false) := by
  intro d
  induction d with
  | zero =>
    intro j k c hj hk hl hc hR
    obtain ⟨k, rfl⟩ : ∃ m, k = m + 1 := ⟨k - 1, by omega⟩
    simp only [impl_ReadShape.l1]
    rw [bs_size, if_neg (by omega), wnat (by omega)]
    have := hR k (by omega)
    rw [List.drop_of_length_le (by omega)] at this ⊢
    simp only [rowN, List.map_nil, List.append_nil] at this
    rw [this]; rfl
  | succ d ih =>
    intro j k c hj hk hl hc hR
    obtain ⟨k, rfl⟩ : ∃ m, k = m + 1 := ⟨k - 1, by omega⟩
    have hlt : j < p.length := by omega
    simp only [impl_ReadShape.l1]
    rw [bs_size, if_pos (by omega), if_pos (by omega), bt_bs _ j hlt, wnat (by omega), List.drop_eq_getElem_cons hlt, List.all_cons]
    rw [List.drop_eq_getElem_cons hlt] at hR
    by_cases h1 : p[j] = 35
    · rw [if_pos (by rw [h1]; rfl), if_pos (by omega), ih (j + 1) k (c ++ [1]) (by omega) (by omega) hl (by simp; omega) (by
        intro k' hk'
        have := hR k' hk'
        simpa [rowN, h1] using this)]
      simp [okc, h1]
    · rw [if_neg (by have := byte_ne h1; simpa using this)]
      by_cases h2 : p[j] = 46
      · rw [if_pos (by rw [h2]; rfl), if_pos (by omega), ih (j + 1) k (c ++ [0]) (by omega) (by omega) hl (by simp; omega) (by
          intro k' hk'
          have := hR k' hk'
          simpa [rowN, h2] using this)]
        simp [okc, h2]
      · rw [if_neg (by have := byte_ne h2; simpa using this)]
        simp [okc, h1, h2]

theorem specRS (l : List UInt8) (hl : l.length ≤ 1048576) (k : Nat) (hk : 1200000000000 < k) : spec_ReadShape.f k (bs l) = some (rsT l) := by
  have hlen := splitL_len 47 l
  have hne := splitL_ne 47 l
  have hp : ∀ p ∈ splitL 47 l, p.length ≤ 1048576 := fun p hp => by have := (splitL_part hp).1; omega
  unfold spec_ReadShape.f spec_l19Read.f rsT
  rw [show (47 : Int) = ((47 : UInt8).toNat : Int) from rfl, specSplit l 47 hl k (by omega)]
  simp only [Option.bind_some, List.length_map]
  generalize splitL 47 l = ps at hlen hp hne
  have h0 : 0 < ps.length := List.length_pos_iff.2 hne
  have hf : first ps = ((ps[0].length : Nat) : Int) := by cases ps with | nil => exact absurd rfl hne | cons p r => rfl
  have hr0 : ((rdOf ByteArray.empty (ps.map bs) 0).size : Int) = first ps := by
    have := rdS ps 0 h0
    rw [show ((0 : Nat) : Int) = 0 from rfl] at this
    rw [this, bs_size, hf]
  have key : ∀ (d i k : Nat) (c : List Int), i + d = ps.length → 1100000 + 1100000 * d < k → c.length ≤ 1048576 * i →
      spec_l19Read.l0 k (ps.map bs) (i : Int) (first ps) (ps.length : Int) c = some (rsN (first ps) (ps.length : Int) (rsl (ps.drop i) (first ps) c)) := by
    intro d
    induction d with
    | zero =>
      intro i k c hi hk hc
      obtain ⟨k, rfl⟩ : ∃ m, k = m + 1 := ⟨k - 1, by omega⟩
      simp only [spec_l19Read.l0]
      rw [List.length_map, if_neg (by omega), List.drop_of_length_le (by omega), specShape2 _ _ _ k (by omega)]
      simp only [Option.bind_some, rsl, rsN]
      split <;> rfl
    | succ d ih =>
      intro i k c hi hk hc
      obtain ⟨k, rfl⟩ : ∃ m, k = m + 1 := ⟨k - 1, by omega⟩
      have hlt : i < ps.length := by omega
      have hpl := hp _ (List.getElem_mem hlt)
      simp only [spec_l19Read.l0]
      rw [hr0, List.length_map, if_pos (by omega), if_pos (by omega), if_pos (by omega), rdS ps i hlt, bs_size, List.drop_eq_getElem_cons hlt]
      simp only [rsl]
      by_cases h1 : (ps[i].length : Int) = first ps
      · have hrow := specRow ps i hlt (by omega) (first ps) (ps.length : Int) (some (rsN (first ps) (ps.length : Int) (rsl (ps.drop (i + 1)) (first ps) (c ++ rowN ps[i])))) (1100000 + 1100000 * d) ps[i].length 0 k c (by omega) (by omega) (by omega) (by omega) (by
          intro k' hk'
          rw [List.drop_zero]
          exact ih (i + 1) k' _ (by omega) hk' (by simp only [List.length_append, rowN, List.length_map]; omega))
        rw [List.drop_zero, show ((0 : Nat) : Int) = 0 from rfl] at hrow
        rw [if_pos h1, hrow]
        by_cases h2 : ps[i].all okc = true
        · rw [if_pos h2, if_pos ⟨h1, h2⟩]
        · rw [if_neg h2, if_neg (fun h => h2 h.2)]; rfl
      · rw [if_neg h1, if_neg (fun h => h1 h.1)]; rfl
  have := key ps.length 0 k [] (by omega) (by omega) (by simp)
  rw [show ((0 : Nat) : Int) = 0 from rfl] at this
  rw [hr0, if_pos (by omega), this]
  rfl

theorem implRS (l : List UInt8) (hl : l.length ≤ 1048576) (k : Nat) (hk : 1200000000000 < k) : impl_ReadShape.f k (bs l) [()] = some (rsT l) := by
  have hlen := splitL_len 47 l
  have hne := splitL_ne 47 l
  have hp : ∀ p ∈ splitL 47 l, p.length ≤ 1048576 := fun p hp => by have := (splitL_part hp).1; omega
  unfold impl_ReadShape.f rsT
  rw [show (⟨#[47]⟩ : ByteArray) = bs [47] from rfl, implSplit l 47 hl]
  simp only [Option.bind_some, List.length_map]
  generalize splitL 47 l = ps at hlen hp hne
  have h0 : 0 < ps.length := List.length_pos_iff.2 hne
  have hf : first ps = ((ps[0].length : Nat) : Int) := by cases ps with | nil => exact absurd rfl hne | cons p r => rfl
  have key : ∀ (d i k : Nat) (c : List Int), i + d = ps.length → 1100000 + 1100000 * d < k → c.length ≤ 1048576 * i →
      impl_ReadShape.l0 k (ps.map bs) (ps.length : Int) (i : Int) (if i = 0 then 0 else first ps) (i : Int) c = some (rsN (first ps) (ps.length : Int) (rsl (ps.drop i) (first ps) c)) := by
    intro d
    induction d with
    | zero =>
      intro i k c hi hk hc
      obtain ⟨k, rfl⟩ : ∃ m, k = m + 1 := ⟨k - 1, by omega⟩
      obtain rfl : i = ps.length := by omega
      simp only [impl_ReadShape.l0]
      rw [if_neg (by omega), List.drop_of_length_le (by omega), if_neg (by omega), implShape2 _ _ _ k (by omega)]
      simp only [Option.bind_some, rsl, rsN]
      split <;> rfl
    | succ d ih =>
      intro i k c hi hk hc
      obtain ⟨k, rfl⟩ : ∃ m, k = m + 2 := ⟨k - 2, by omega⟩
      have hlt : i < ps.length := by omega
      have hpl := hp _ (List.getElem_mem hlt)
      have hih : ∀ k', 1100000 + 1100000 * d < k' → impl_ReadShape.l0 k' (ps.map bs) (ps.length : Int) ((i + 1 : Nat) : Int) (first ps) ((i + 1 : Nat) : Int) (c ++ rowN ps[i]) = some (rsN (first ps) (ps.length : Int) (rsl (ps.drop (i + 1)) (first ps) (c ++ rowN ps[i]))) := by
        intro k' hk'
        have := ih (i + 1) k' (c ++ rowN ps[i]) (by omega) hk' (by simp only [List.length_append, rowN, List.length_map]; omega)
        rw [if_neg (by omega)] at this
        exact this
      have hrow := fun (h1 : (ps[i].length : Int) = first ps) => implRow ps[i] (ps.map bs) (ps.length : Int) i (by omega) (ps[i].length : Int) ((i + 1 : Nat) : Int) (some (rsN (first ps) (ps.length : Int) (rsl (ps.drop (i + 1)) (first ps) (c ++ rowN ps[i])))) (1100000 + 1100000 * d) ps[i].length 0 k c (by omega) (by omega) (by omega) (by omega) (by
          intro k' hk'
          rw [List.drop_zero, h1]
          exact hih k' hk')
      rw [List.drop_zero, show ((0 : Nat) : Int) = 0 from rfl] at hrow
      have hj : ∀ (b : Bool), b = true ∧ ¬ (ps[i].length : Int) = first ps ∨ b = false ∧ (ps[i].length : Int) = first ps → ∀ w, impl_ReadShape.j1 (k + 1) (bs ps[i]) (ps.map bs) (ps.length : Int) (i : Int) b w (i : Int) c = some (rsN (first ps) (ps.length : Int) (rsl (ps[i] :: ps.drop (i + 1)) (first ps) c)) := by
        intro b hb w
        simp only [impl_ReadShape.j1, rsl]
        rcases hb with ⟨rfl, h1⟩ | ⟨rfl, h1⟩
        · rw [if_pos rfl, if_neg (fun h => h1 h.1)]; rfl
        · rw [if_neg (by simp), bs_size, wnat (by omega), hrow h1]
          by_cases h2 : ps[i].all okc = true
          · rw [if_pos h2, if_pos ⟨h1, h2⟩]
          · rw [if_neg h2, if_neg (fun h => h2 h.2)]; rfl
      simp only [impl_ReadShape.l0]
      rw [if_pos (by omega), if_pos (by omega), List.length_map, if_pos (by omega), rdS ps i hlt, bs_size, List.drop_eq_getElem_cons hlt]
      by_cases hi0 : i = 0
      · subst hi0
        rw [if_neg (by omega)]
        exact hj false (.inr ⟨rfl, hf.symm⟩) _
      · rw [if_pos (by omega), if_neg hi0]
        by_cases h1 : (ps[i].length : Int) = first ps
        · exact hj _ (.inr ⟨by simp [h1], h1⟩) _
        · exact hj _ (.inl ⟨by simp [h1], h1⟩) _
  have := key ps.length 0 k [] (by omega) (by omega) (by simp)
  rw [if_pos rfl, show ((0 : Nat) : Int) = 0 from rfl] at this
  rw [this]
  rfl

theorem rsT_len (l : List UInt8) : (rsT l).2.2.1.length ≤ 1000 := by
  unfold rsT rsN
  split
  · split
    · rename_i h
      obtain ⟨ha, hb, hm, _⟩ := okSh_spec h
      have := (mul12 ha hb).2
      simp only; omega
    · simp
  · simp

theorem FnExactReadShape : laws_FnExactReadShape.Pure := by
  intro s hs
  refine ⟨1200000000100, ?_⟩
  obtain ⟨k, hk⟩ : ∃ k : Nat, k = 1200000000098 := ⟨_, rfl⟩
  rw [show 1200000000100 = k + 1 + 1 by omega]
  unfold laws_FnExactReadShape.f
  by_cases hz : (s.size : Int) > 1048576
  · rw [if_pos hz]
  rw [if_neg hz]
  obtain ⟨l, rfl⟩ : ∃ l, s = bs l := ⟨_, (bs_of s).symm⟩
  rw [bs_size] at hz
  have hl : l.length ≤ 1048576 := by omega
  have hr := rsT_len l
  have h1 := specRS l hl
  have h2 := implRS l hl
  generalize rsT l = r at hr h1 h2
  obtain ⟨w, h, c, ok⟩ := r
  simp only at hr
  have he : ∀ k, 2000 ≤ k → laws_eqShape.f k w h c w h c = some true := fun k hk => eqShape_eq w h c (by omega) k (by omega)
  have hm := markInts_eq c (by omega) 1 (by omega) (by omega)
  have hh := heldInts_eq c.length (by omega) 1 (by omega) (by omega)
  have hht : ∀ k, 2000 ≤ k → laws_heldShape.f k w h (upTo c.length 1) 1 = some (1 + (c.length : Int)) := by
    intro k hk
    unfold laws_heldShape.f
    rw [hh k (by omega)]
    simp only [Option.bind_some]
    rw [if_neg (by omega)]
  rw [h1 (k + 1 + 1) (by omega), h2 (k + 1 + 1) (by omega)]
  simp only [Option.bind_some, he (k + 1 + 1) (by omega), if_true, bne_self_eq_false, laws_FnExactReadShape.j0, Bool.false_eq_true, if_false]
  unfold laws_markShape.f
  rw [hm (k + 1) (by omega)]
  simp only [Option.bind_some, hht (k + 1) (by omega)]
  rw [if_neg (by omega)]
  simp only [if_true]
  rw [h2 (k + 1) (by omega)]
  simp only [Option.bind_some, he (k + 1) (by omega), if_true, bne_self_eq_false, laws_FnExactReadShape.j1, Bool.false_eq_true, if_false, hht k (by omega)]
  rw [if_neg (by omega)]

end Go.Proofs.YtakagkflgkoiiaaDoor.Pure

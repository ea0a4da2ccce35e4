/- FnExactValidBoards: the program's ValidBoards returns what the reference's returns, for all arguments; no condition. -/
import Derived.Test.YtdmiihpblfkamaaGFnExactValidBoardsx2
namespace Go.Proofs.Ytdmiihpblfkamaa.Pure
open Go.RowKit Go.Proofs.Ytdmiihpblfkamaa.GFnExactValidBoards Go.Proofs.YtdmiihpblfkamaaW.PrintWords Go.Proofs.YtdmiihpblfkamaaW.PrintLast

theorem w64 {x : Int} (h0 : -9223372036854775808 ≤ x) (h1 : x ≤ 9223372036854775807) : wrap64 x = x := by
  unfold wrap64; omega

theorem within_eq (a b c : Int) : impl_within.f a b c = some (decide (b ≤ a ∧ a ≤ c)) := by
  unfold impl_within.f
  by_cases h : a ≥ b
  · rw [if_pos h]; simp [h]
  · rw [if_neg h]; simp; omega

theorem l00In_eq (a b c : Int) : spec_l00In.f a b c = some (decide (b ≤ a ∧ a ≤ c)) := by
  unfold spec_l00In.f
  by_cases h : a ≥ b
  · rw [if_pos h]; simp [h]
  · rw [if_neg h]; simp; omega

/-- a loop over a list: from one state to the next, or out of it -/
def run {α σ β : Type} (st : σ → α → Nat → σ ⊕ β) (en : σ → β) : List α → σ → Nat → β
  | [], s, _ => en s
  | x :: xs, s, i => match st s x i with
    | .inl s' => run st en xs s' (i + 1)
    | .inr r => r

theorem loop_run {α σ β : Type} (xs : List α) (K0 : Nat) (Inv : σ → Nat → Prop) (L : Nat → σ → Int → Option β) (st : σ → α → Nat → σ ⊕ β) (en : σ → β)
    (hs : ∀ (k : Nat) (s : σ) (i : Nat) (h : i < xs.length), K0 ≤ k → Inv s i →
      (∃ s', st s xs[i] i = .inl s' ∧ Inv s' (i + 1) ∧ L (k + 1) s (i : Int) = L k s' ((i + 1 : Nat) : Int)) ∨ (∃ r, st s xs[i] i = .inr r ∧ L (k + 1) s (i : Int) = some r))
    (he : ∀ (k : Nat) (s : σ), K0 ≤ k → Inv s xs.length → L (k + 1) s (xs.length : Int) = some (en s)) :
    ∀ (n i k : Nat) (s : σ), i + n = xs.length → K0 + n < k → Inv s i → L k s (i : Int) = some (run st en (xs.drop i) s i) := by
  intro n
  induction n with
  | zero =>
    intro i k s hi hk hI
    obtain ⟨k, rfl⟩ : ∃ m, k = m + 1 := ⟨k - 1, by omega⟩
    obtain rfl : i = xs.length := by omega
    rw [he k s (by omega) hI, List.drop_length]; rfl
  | succ n ih =>
    intro i k s hi hk hI
    obtain ⟨k, rfl⟩ : ∃ m, k = m + 1 := ⟨k - 1, by omega⟩
    have hlt : i < xs.length := by omega
    rw [List.drop_eq_getElem_cons hlt]
    rcases hs k s i hlt (by omega) hI with ⟨s', h1, h2, h3⟩ | ⟨r, h1, h3⟩
    · rw [h3, ih (i + 1) k s' (by omega) (by omega) h2]
      simp only [run, h1]
    · rw [h3]
      simp only [run, h1]

theorem loop_run0 {α σ β : Type} (xs : List α) (K0 : Nat) (Inv : σ → Nat → Prop) (L : Nat → σ → Int → Option β) (st : σ → α → Nat → σ ⊕ β) (en : σ → β)
    (hs : ∀ (k : Nat) (s : σ) (i : Nat) (h : i < xs.length), K0 ≤ k → Inv s i →
      (∃ s', st s xs[i] i = .inl s' ∧ Inv s' (i + 1) ∧ L (k + 1) s (i : Int) = L k s' ((i + 1 : Nat) : Int)) ∨ (∃ r, st s xs[i] i = .inr r ∧ L (k + 1) s (i : Int) = some r))
    (he : ∀ (k : Nat) (s : σ), K0 ≤ k → Inv s xs.length → L (k + 1) s (xs.length : Int) = some (en s)) (k : Nat) (s : σ) (hk : K0 + xs.length < k) (hI : Inv s 0) :
    L k s 0 = some (run st en xs s 0) := by
  have := loop_run xs K0 Inv L st en hs he xs.length 0 k s (by omega) hk hI
  simpa using this

/-- a row that is made and then filled, element by element -/
theorem loop_map {α β : Type} (xs : List α) (z : β) (c : α → β) (L : Nat → List β → Int → Option (List β))
    (hs : ∀ (k : Nat) (s : List β) (i : Nat) (h : i < xs.length), s.length = xs.length → L (k + 1) s (i : Int) = L k (s.set i (c xs[i])) ((i + 1 : Nat) : Int))
    (he : ∀ (k : Nat) (s : List β), L (k + 1) s (xs.length : Int) = some s) (k : Nat) (hk : xs.length < k) :
    L k (List.replicate xs.length z) 0 = some (xs.map c) := by
  have key : ∀ (n i k : Nat) (s : List β), i + n = xs.length → n < k → s.length = xs.length → s.take i = (xs.map c).take i → L k s (i : Int) = some (xs.map c) := by
    intro n
    induction n with
    | zero =>
      intro i k s hi hk hl ht
      obtain ⟨k, rfl⟩ : ∃ m, k = m + 1 := ⟨k - 1, by omega⟩
      obtain rfl : i = xs.length := by omega
      have h1 : s.take xs.length = s := List.take_of_length_le (by omega)
      rw [he, ← h1, ht, List.take_of_length_le (by simp)]
    | succ n ih =>
      intro i k s hi hk hl ht
      obtain ⟨k, rfl⟩ : ∃ m, k = m + 1 := ⟨k - 1, by omega⟩
      have hlt : i < xs.length := by omega
      rw [hs k s i hlt hl]
      refine ih (i + 1) k _ (by omega) (by omega) (by rw [List.length_set]; exact hl) ?_
      rw [List.take_succ_eq_append_getElem (by rw [List.length_set]; omega), List.take_succ_eq_append_getElem (by rw [List.length_map]; omega), List.take_set_of_le (by omega), ht]
      simp
  have := key xs.length 0 k (List.replicate xs.length z) (by omega) hk (by simp) (by simp)
  simpa using this

theorem wnat {n : Nat} (h : n < 9223372036854775807) : wrap64 ((n : Int) + 1) = ((n + 1 : Nat) : Int) := by
  unfold wrap64; omega

theorem loop_all {β : Type} (n K0 : Nat) (L : Nat → Int → Option β) (r : β) (hs : ∀ (k i : Nat), K0 ≤ k → i < n → L (k + 1) (i : Int) = L k ((i + 1 : Nat) : Int)) (he : ∀ k : Nat, L (k + 1) (n : Int) = some r)
    (k : Nat) (hk : K0 + n < k) : L k 0 = some r := by
  have key : ∀ (m i k : Nat), i + m = n → K0 + m < k → L k (i : Int) = some r := by
    intro m
    induction m with
    | zero =>
      intro i k hi hk
      obtain ⟨k, rfl⟩ : ∃ m, k = m + 1 := ⟨k - 1, by omega⟩
      obtain rfl : i = n := by omega
      exact he k
    | succ m ih =>
      intro i k hi hk
      obtain ⟨k, rfl⟩ : ∃ m, k = m + 1 := ⟨k - 1, by omega⟩
      rw [hs k i (by omega) (by omega)]
      exact ih (i + 1) k (by omega) (by omega)
  simpa using key n 0 k (by omega) hk

def fnd (x : List UInt8) : List ByteArray → Int → Int
  | [], _ => -1
  | y :: ys, i => if y.toList = x then i else fnd x ys (i + 1)

theorem find_l0 (x : ByteArray) (xs : List ByteArray) (hl : xs.length ≤ 1000) : ∀ (n : Nat) (k i : Nat), i + n = xs.length → n < k →
    spec_l07Find.l0 k x xs (i : Int) = some (fnd x.toList (xs.drop i) i) := by
  intro n
  induction n with
  | zero =>
    intro k i hi hk
    obtain ⟨k, rfl⟩ : ∃ m, k = m + 1 := ⟨k - 1, by omega⟩
    simp only [spec_l07Find.l0]
    rw [if_neg (by omega), List.drop_of_length_le (by omega)]; rfl
  | succ n ih =>
    intro k i hi hk
    obtain ⟨k, rfl⟩ : ∃ m, k = m + 1 := ⟨k - 1, by omega⟩
    simp only [spec_l07Find.l0]
    rw [if_pos (by omega), if_pos (by omega), List.drop_eq_getElem_cons (show i < xs.length by omega)]
    have hr : rdOf ByteArray.empty xs (i : Int) = xs[i]'(by omega) := by
      unfold rdOf; simp [List.getD, show i < xs.length by omega]
    rw [hr]
    by_cases h : (xs[i]'(by omega)).toList = x.toList
    · rw [if_pos h]; simp [fnd, h]
    · rw [if_neg h]
      have h2 := ih k (i + 1) (by omega) (by omega)
      rw [w64 (by omega) (by omega), show ((i : Int) + 1) = ((i + 1 : Nat) : Int) by omega, h2]
      simp [fnd, h]

theorem lit_toList (l : Array UInt8) : (⟨l⟩ : ByteArray).toList = l.toList := ByteArray.toList_eq _

/-- what the name of a species tells: the reference's place of it, and the program's data -/
def Known (x : List UInt8) : Prop := x = [97, 115, 104] ∨ x = [98, 101, 101, 99, 104] ∨ x = [98, 105, 114, 99, 104] ∨ x = [99, 104, 101, 114, 114, 121] ∨ x = [101, 98, 111, 110, 121] ∨ x = [104, 111, 108, 108, 121] ∨ x = [109, 97, 112, 108, 101] ∨ x = [111, 97, 107] ∨ x = [114, 111, 115, 101, 119, 111, 111, 100] ∨ x = [119, 97, 108, 110, 117, 116]

theorem find_eq (k : Nat) (hk : 11 ≤ k) (a : ByteArray) : ∃ l : List ByteArray, spec_l07Names.f = some l ∧ spec_l07Find.f k a = some (fnd a.toList l 0) := by
  refine ⟨_, rfl, ?_⟩
  unfold spec_l07Find.f spec_l07Names.f
  simp only [Option.bind_some]
  exact find_l0 a _ (by simp) 10 k 0 rfl (by omega)

theorem species (a : ByteArray) : (∃ i h : Int, ∃ s w : Int, 0 ≤ i ∧ i < 10 ∧ 33 ≤ h ∧ h ≤ 85 ∧ 200 ≤ w ∧ w ≤ 500 ∧ (∀ k, 11 ≤ k → spec_l07Find.f k a = some i) ∧ impl_SpeciesData.f a = some (s, h, w, 0) ∧ True) ∨
    ((∀ k, 11 ≤ k → spec_l07Find.f k a = some (-1)) ∧ impl_SpeciesData.f a = some (0, 0, 0, 3)) := by
  obtain ⟨l, hl, _⟩ := find_eq 11 (Nat.le_refl _) a
  have hf : ∀ k, 11 ≤ k → spec_l07Find.f k a = some (fnd a.toList l 0) := fun k hk => by
    obtain ⟨l', hl', h⟩ := find_eq k hk a
    rw [hl] at hl'; cases hl'; exact h
  unfold spec_l07Names.f at hl
  cases hl
  generalize hx : a.toList = x at *
  unfold impl_SpeciesData.f
  rw [hx]
  by_cases h : Known x
  · left
    rcases h with h | h | h | h | h | h | h | h | h | h <;> subst h
    · exact ⟨0, 40, 20, 310, by decide, by decide, by decide, by decide, by decide, by decide, fun k hk => (hf k hk).trans (by simp [fnd, lit_toList]), rfl, by first | trivial | rfl⟩
    · exact ⟨1, 45, 35, 410, by decide, by decide, by decide, by decide, by decide, by decide, fun k hk => (hf k hk).trans (by simp [fnd, lit_toList]), rfl, by first | trivial | rfl⟩
    · exact ⟨2, 33, 15, 280, by decide, by decide, by decide, by decide, by decide, by decide, fun k hk => (hf k hk).trans (by simp [fnd, lit_toList]), rfl, by first | trivial | rfl⟩
    · exact ⟨3, 36, 50, 240, by decide, by decide, by decide, by decide, by decide, by decide, fun k hk => (hf k hk).trans (by simp [fnd, lit_toList]), rfl, by first | trivial | rfl⟩
    · exact ⟨4, 85, 95, 270, by decide, by decide, by decide, by decide, by decide, by decide, fun k hk => (hf k hk).trans (by simp [fnd, lit_toList]), rfl, by first | trivial | rfl⟩
    · exact ⟨5, 35, 5, 370, by decide, by decide, by decide, by decide, by decide, by decide, fun k hk => (hf k hk).trans (by simp [fnd, lit_toList]), rfl, by first | trivial | rfl⟩
    · exact ⟨6, 42, 10, 290, by decide, by decide, by decide, by decide, by decide, by decide, fun k hk => (hf k hk).trans (by simp [fnd, lit_toList]), rfl, by first | trivial | rfl⟩
    · exact ⟨7, 40, 40, 330, by decide, by decide, by decide, by decide, by decide, by decide, fun k hk => (hf k hk).trans (by simp [fnd, lit_toList]), rfl, by first | trivial | rfl⟩
    · exact ⟨8, 60, 80, 220, by decide, by decide, by decide, by decide, by decide, by decide, fun k hk => (hf k hk).trans (by simp [fnd, lit_toList]), rfl, by first | trivial | rfl⟩
    · exact ⟨9, 38, 70, 260, by decide, by decide, by decide, by decide, by decide, by decide, fun k hk => (hf k hk).trans (by simp [fnd, lit_toList]), rfl, by first | trivial | rfl⟩
  · right
    unfold Known at h
    simp only [not_or] at h
    obtain ⟨h0, h1, h2, h3, h4, h5, h6, h7, h8, h9⟩ := h
    have e : ∀ l : List UInt8, ¬ x = l → ¬ l = x := fun l h1 h2 => h1 h2.symm
    constructor
    · intro k hk
      rw [hf k hk]
      simp only [fnd, lit_toList]
      rw [if_neg (e _ h0), if_neg (e _ h1), if_neg (e _ h2), if_neg (e _ h3), if_neg (e _ h4), if_neg (e _ h5), if_neg (e _ h6), if_neg (e _ h7), if_neg (e _ h8), if_neg (e _ h9)]
    · rw [if_neg h0, if_neg h1, if_neg h2, if_neg h3, if_neg h4, if_neg h5, if_neg h6, if_neg h7, if_neg h8, if_neg h9]

theorem rd51_one (x : S51) : rd_T51 [x] 0 = x := rfl

theorem impl_valid (a : ByteArray) (wd : Int) : (∃ s h w : Int, impl_SpeciesData.f a = some (s, h, w, 0) ∧ impl_validBoard.f wd a = some (decide (1 ≤ wd ∧ wd ≤ 20000))) ∨ (impl_SpeciesData.f a = some (0, 0, 0, 3) ∧ impl_validBoard.f wd a = some false) := by
  unfold impl_validBoard.f impl_speciesShade.f
  rcases species a with ⟨i, h, s, w, i0, i1, _, _, _, _, hf, hd, ht⟩ | ⟨hf, hd⟩
  · left
    refine ⟨s, h, w, hd, ?_⟩
    rw [hd]; simp only [Option.bind_some, within_eq]; simp
  · right
    refine ⟨hd, ?_⟩
    rw [hd]; simp

theorem one_eq (a : ByteArray) (wd : Int) (k : Nat) (hk : 11 ≤ k) : ∃ b, spec_l20One.f k [(⟨wd, a⟩ : S51)] = some b ∧ impl_validBoard.f wd a = some b ∧
    (b = true → 1 ≤ wd ∧ wd ≤ 20000 ∧ ∃ s h w : Int, 200 ≤ w ∧ w ≤ 500 ∧ impl_SpeciesData.f a = some (s, h, w, 0) ∧ True) := by
  unfold spec_l20One.f impl_validBoard.f impl_speciesShade.f
  rw [if_pos (by simp), rd51_one]
  simp only [l00In_eq, Option.bind_some]
  rcases species a with ⟨i, h, s, w, i0, i1, _, _, w0, w1, hf, hd, ht⟩ | ⟨hf, hd⟩
  · rw [hd, hf k hk]
    simp only [Option.bind_some, within_eq]
    by_cases g : 1 ≤ wd ∧ wd ≤ 20000
    · refine ⟨true, by simp [g, i0], by simp [g], fun _ => ⟨g.1, g.2, s, h, w, w0, w1, rfl, trivial⟩⟩
    · refine ⟨false, by simp [g], by simp [g], fun h => by cases h⟩
  · rw [hd, hf k hk]
    simp only [Option.bind_some]
    refine ⟨false, ?_, by simp, fun h => by cases h⟩
    split <;> simp

theorem rd48 (xs : List S48) (i : Nat) (h : i < xs.length) : rd_T48 xs (i : Int) = xs[i] := by
  unfold rd_T48; simp [List.getD, h]
theorem rd51 (xs : List S51) (i : Nat) (h : i < xs.length) : rd_T51 xs (i : Int) = xs[i] := by
  unfold rd_T51; simp [List.getD, h]

def toBd (x : S48) : S51 := ⟨x.f0, x.f1⟩

theorem toBoardS_eq (l : List S48) (hl : l.length ≤ 1048576) (k : Nat) (hk : l.length < k) : laws_toBoardS.f k l = some (l.map toBd) := by
  unfold laws_toBoardS.f
  rw [if_pos (by omega), if_pos (by omega), show ((l.length : Int)).toNat = l.length by omega]
  refine loop_map l z51 toBd (fun k s i => laws_toBoardS.l0 k l s i) ?_ ?_ k hk
  · intro k s i h hs
    simp only [laws_toBoardS.l0]
    rw [if_pos (by omega), if_pos (by omega), rd48 l i h]
    unfold laws_toBoard.f
    simp only [Option.bind_some]
    rw [if_pos (by omega), wnat (by omega)]
    rfl
  · intro k s
    simp only [laws_toBoardS.l0]
    rw [if_neg (by omega)]

theorem eqBoardS_eq (l : List S51) (hl : l.length ≤ 1048576) (k : Nat) (hk : l.length < k) : laws_eqBoardS.f k l l = some true := by
  unfold laws_eqBoardS.f
  rw [if_pos rfl]
  refine loop_all l.length 0 (fun k i => laws_eqBoardS.l0 k l l i) true ?_ ?_ k (by omega)
  · intro k i _ h
    simp only [laws_eqBoardS.l0]
    rw [if_pos (by omega), if_pos (by omega), if_pos (by omega)]
    unfold laws_eqBoard.f
    simp only [if_true, Option.bind_some]
    rw [wnat (by omega)]
  · intro k
    simp only [laws_eqBoardS.l0]
    rw [if_neg (by omega)]

theorem szBoard_eq (w : Int) (s : ByteArray) (a : Int) (ha : 0 ≤ a) (ha2 : a ≤ 1048576) (hs : s.size ≤ maxLen) : laws_szBoard.f w s a = some (if a < s.size then -1 else a - s.size) := by
  unfold maxLen at hs
  unfold laws_szBoard.f
  rw [w64 (x := a - s.size) (by omega) (by omega)]
  by_cases h : a < s.size
  · rw [if_pos (by omega), if_pos h]
  · rw [if_neg (by omega), if_neg h]

def szSt (a : Int) (x : S48) (_ : Nat) : Int ⊕ Int := if a < x.f1.size then .inr (-1) else .inl (a - x.f1.size)

theorem run_sz : ∀ (l : List S48) (a : Int) (i : Nat), 0 ≤ a → run szSt (fun v => v) l a i < 0 ∨ 0 ≤ run szSt (fun v => v) l a i ∧ run szSt (fun v => v) l a i ≤ a
  | [], a, i, h => .inr ⟨h, Int.le_refl _⟩
  | x :: l, a, i, h => by
    simp only [run, szSt]
    by_cases g : a < x.f1.size
    · simp only [if_pos g]; exact .inl (by decide)
    · simp only [if_neg g]
      rcases run_sz l (a - x.f1.size) (i + 1) (by omega) with h | h
      · exact .inl h
      · refine .inr ⟨h.1, ?_⟩
        have := h.2
        show run szSt (fun v => v) l (a - x.f1.size) (i + 1) ≤ a
        omega

theorem szBoardS_eq (l : List S48) (a : Int) (ha : 0 ≤ a) (ha2 : a ≤ 1048576) (hl : l.length ≤ maxLen) (hg : ∀ y ∈ l, G48 y) :
    ∃ v, (∀ k, 1048577 < k → laws_szBoardS.f k l a = some v) ∧ (v < 0 ∨ 0 ≤ v ∧ v ≤ a ∧ l.length ≤ 1048576) := by
  unfold maxLen at hl
  by_cases h : a - l.length < 0
  · refine ⟨-1, fun k _ => ?_, .inl (by decide)⟩
    unfold laws_szBoardS.f
    rw [w64 (x := a - l.length) (by omega) (by omega), if_pos h]
  · refine ⟨run szSt (fun v => v) l (a - l.length) 0, fun k hk => ?_, ?_⟩
    · unfold laws_szBoardS.f
      rw [w64 (x := a - l.length) (by omega) (by omega), if_neg h]
      refine loop_run0 l 0 (fun v _ => 0 ≤ v ∧ v ≤ 1048576) (fun k s i => laws_szBoardS.l0 k l s i) szSt (fun v => v) ?_ ?_ k _ (by omega) ⟨by omega, by omega⟩
      · intro k s i hi _ ⟨s0, s1⟩
        simp only [laws_szBoardS.l0]
        rw [if_pos (by omega), if_pos (by omega), rd48 l i hi, szBoard_eq _ _ _ s0 s1 (hg _ (List.getElem_mem hi)).2]
        simp only [Option.bind_some]
        unfold szSt
        by_cases g : s < l[i].f1.size
        · simp only [if_pos g]; exact .inr ⟨-1, rfl, if_pos (by decide)⟩
        · simp only [if_neg g]
          exact .inl ⟨_, rfl, ⟨by omega, by omega⟩, by rw [if_neg (by omega), wnat (by omega)]⟩
      · intro k s _ _
        simp only [laws_szBoardS.l0]
        rw [if_neg (by omega)]
    · rcases run_sz l (a - l.length) 0 (by omega) with h | h
      · exact .inl h
      · exact .inr ⟨h.1, by omega, by omega⟩

def okSt (_ : Unit) (x : S51) (_ : Nat) : Unit ⊕ Bool := if impl_validBoard.f x.f0 x.f1 = some true then .inl () else .inr false
def okB (l : List S51) : Bool := run okSt (fun _ => decide (l.length ≤ 48)) l () 0

theorem specOk (l : List S51) (hl : l.length ≤ 1048576) (k : Nat) (hk : l.length + 20 < k) : spec_l20Ok.f k l = some (okB l) := by
  unfold spec_l20Ok.f okB
  refine loop_run0 l 15 (fun _ _ => True) (fun k _ i => spec_l20Ok.l0 k l i) okSt (fun _ => decide (l.length ≤ 48)) ?_ ?_ k () (by omega) trivial
  · intro k s i hi hk _
    simp only [spec_l20Ok.l0]
    rw [if_pos (by omega), if_pos (by omega), rd51 l i hi, wnat (by omega)]
    obtain ⟨b, e1, e2, _⟩ := one_eq l[i].f1 l[i].f0 k (by omega)
    have e1' : spec_l20One.f k [l[i]] = some b := e1
    rw [e1']
    unfold okSt
    rw [e2]
    cases b
    · exact .inr ⟨false, by simp, by simp⟩
    · exact .inl ⟨(), by simp, trivial, by simp⟩
  · intro k s _ _
    simp only [spec_l20Ok.l0]
    rw [if_neg (by omega)]
    simp; omega

theorem implOk (l : List S51) (hl : l.length ≤ 1048576) (k : Nat) (hk : l.length + 20 < k) : impl_ValidBoards.f k l = some (okB l) := by
  unfold impl_ValidBoards.f okB
  refine loop_run0 l 15 (fun _ _ => True) (fun k _ i => impl_ValidBoards.l0 k l l (l.length : Int) i) okSt (fun _ => decide (l.length ≤ 48)) ?_ ?_ k () (by omega) trivial
  · intro k s i hi hk _
    simp only [impl_ValidBoards.l0]
    rw [if_pos (by omega), if_pos (by omega), if_pos (by omega), rd51 l i hi, wnat (by omega)]
    obtain ⟨b, e1, e2, _⟩ := one_eq l[i].f1 l[i].f0 k (by omega)
    unfold okSt
    rw [e2]
    cases b
    · exact .inr ⟨false, by simp, by simp⟩
    · exact .inl ⟨(), by simp, trivial, by simp⟩
  · intro k s _ _
    simp only [impl_ValidBoards.l0]
    rw [if_neg (by omega)]
    simp; omega

theorem FnExactValidBoards : laws_FnExactValidBoards.Pure := by
  intro l ⟨hl, hg⟩
  obtain ⟨k, hk⟩ : ∃ k : Nat, k = 1048600 := ⟨_, rfl⟩
  refine ⟨k, ?_⟩
  unfold laws_FnExactValidBoards.f
  obtain ⟨v, e, h⟩ := szBoardS_eq l 1048576 (by omega) (by omega) hl hg
  rw [e k (by omega)]
  simp only [Option.bind_some]
  rcases h with h | ⟨h1, _, h2⟩
  · rw [if_pos h]
  rw [if_neg (by omega), toBoardS_eq l h2 k (by omega)]
  simp only [Option.bind_some]
  have q := eqBoardS_eq (l.map toBd) (by simpa using h2) k (by simp; omega)
  unfold spec_ValidBoards.f
  rw [specOk (l.map toBd) (by simpa using h2) k (by simp; omega), implOk (l.map toBd) (by simpa using h2) k (by simp; omega), q]
  simp

end Go.Proofs.Ytdmiihpblfkamaa.Pure

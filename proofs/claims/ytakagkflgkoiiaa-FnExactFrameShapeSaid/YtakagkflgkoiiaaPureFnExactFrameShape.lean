/- FnExactFrameShape: the program's FrameShape returns what the reference's returns, for all arguments; no condition. -/
import Derived.Test.YtakagkflgkoiiaaGFnExactFrameShapex
namespace Go.Proofs.Ytakagkflgkoiiaa.Pure
open Go.RowKit Go.Proofs.Ytakagkflgkoiiaa.GFnExactFrameShape Go.Proofs.YtakagkflgkoiiaaW.PrintWords Go.Proofs.YtakagkflgkoiiaaW.PrintLast
set_option linter.unusedSimpArgs false
set_option linter.unusedVariables false

theorem w64 {x : Int} (h0 : -9223372036854775808 ≤ x) (h1 : x ≤ 9223372036854775807) : wrap64 x = x := by
  unfold wrap64; omega

theorem within_eq (a b c : Int) : impl_within.f a b c = some (decide (b ≤ a ∧ a ≤ c)) := by
  unfold impl_within.f
  by_cases h : a ≥ b
  · rw [if_pos h]; simp [h]
  · rw [if_neg h]; simp; omega

theorem l00In_eq (a b c : Int) : spec_l00In.f a b c = some (decide (b ≤ a ∧ a ≤ c)) := by
  unfold spec_l00In.f
  by_cases h : a ≥ b
  · rw [if_pos h]; simp [h]
  · rw [if_neg h]; simp; omega

/-- a loop over a list: from one state to the next, or out of it -/
def run {α σ β : Type} (st : σ → α → Nat → σ ⊕ β) (en : σ → β) : List α → σ → Nat → β
  | [], s, _ => en s
  | x :: xs, s, i => match st s x i with
    | .inl s' => run st en xs s' (i + 1)
    | .inr r => r

theorem loop_run {α σ β : Type} (xs : List α) (K0 : Nat) (Inv : σ → Nat → Prop) (L : Nat → σ → Int → Option β) (st : σ → α → Nat → σ ⊕ β) (en : σ → β)
    (hs : ∀ (k : Nat) (s : σ) (i : Nat) (h : i < xs.length), K0 ≤ k → Inv s i →
      (∃ s', st s xs[i] i = .inl s' ∧ Inv s' (i + 1) ∧ L (k + 1) s (i : Int) = L k s' ((i + 1 : Nat) : Int)) ∨ (∃ r, st s xs[i] i = .inr r ∧ L (k + 1) s (i : Int) = some r))
    (he : ∀ (k : Nat) (s : σ), K0 ≤ k → Inv s xs.length → L (k + 1) s (xs.length : Int) = some (en s)) :
    ∀ (n i k : Nat) (s : σ), i + n = xs.length → K0 + n < k → Inv s i → L k s (i : Int) = some (run st en (xs.drop i) s i) := by
  intro n
  induction n with
  | zero =>
    intro i k s hi hk hI
    obtain ⟨k, rfl⟩ : ∃ m, k = m + 1 := ⟨k - 1, by omega⟩
    obtain rfl : i = xs.length := by omega
    rw [he k s (by omega) hI, List.drop_length]; rfl
  | succ n ih =>
    intro i k s hi hk hI
    obtain ⟨k, rfl⟩ : ∃ m, k = m + 1 := ⟨k - 1, by omega⟩
    have hlt : i < xs.length := by omega
    rw [List.drop_eq_getElem_cons hlt]
    rcases hs k s i hlt (by omega) hI with ⟨s', h1, h2, h3⟩ | ⟨r, h1, h3⟩
    · rw [h3, ih (i + 1) k s' (by omega) (by omega) h2]
      simp only [run, h1]
    · rw [h3]
      simp only [run, h1]

theorem loop_run0 {α σ β : Type} (xs : List α) (K0 : Nat) (Inv : σ → Nat → Prop) (L : Nat → σ → Int → Option β) (st : σ → α → Nat → σ ⊕ β) (en : σ → β)
    (hs : ∀ (k : Nat) (s : σ) (i : Nat) (h : i < xs.length), K0 ≤ k → Inv s i →
      (∃ s', st s xs[i] i = .inl s' ∧ Inv s' (i + 1) ∧ L (k + 1) s (i : Int) = L k s' ((i + 1 : Nat) : Int)) ∨ (∃ r, st s xs[i] i = .inr r ∧ L (k + 1) s (i : Int) = some r))
    (he : ∀ (k : Nat) (s : σ), K0 ≤ k → Inv s xs.length → L (k + 1) s (xs.length : Int) = some (en s)) (k : Nat) (s : σ) (hk : K0 + xs.length < k) (hI : Inv s 0) :
    L k s 0 = some (run st en xs s 0) := by
  have := loop_run xs K0 Inv L st en hs he xs.length 0 k s (by omega) hk hI
  simpa using this

/-- a row that is made and then filled, element by element -/
theorem loop_map {α β : Type} (xs : List α) (z : β) (c : α → β) (L : Nat → List β → Int → Option (List β))
    (hs : ∀ (k : Nat) (s : List β) (i : Nat) (h : i < xs.length), s.length = xs.length → L (k + 1) s (i : Int) = L k (s.set i (c xs[i])) ((i + 1 : Nat) : Int))
    (he : ∀ (k : Nat) (s : List β), L (k + 1) s (xs.length : Int) = some s) (k : Nat) (hk : xs.length < k) :
    L k (List.replicate xs.length z) 0 = some (xs.map c) := by
  have key : ∀ (n i k : Nat) (s : List β), i + n = xs.length → n < k → s.length = xs.length → s.take i = (xs.map c).take i → L k s (i : Int) = some (xs.map c) := by
    intro n
    induction n with
    | zero =>
      intro i k s hi hk hl ht
      obtain ⟨k, rfl⟩ : ∃ m, k = m + 1 := ⟨k - 1, by omega⟩
      obtain rfl : i = xs.length := by omega
      have h1 : s.take xs.length = s := List.take_of_length_le (by omega)
      rw [he, ← h1, ht, List.take_of_length_le (by simp)]
    | succ n ih =>
      intro i k s hi hk hl ht
      obtain ⟨k, rfl⟩ : ∃ m, k = m + 1 := ⟨k - 1, by omega⟩
      have hlt : i < xs.length := by omega
      rw [hs k s i hlt hl]
      refine ih (i + 1) k _ (by omega) (by omega) (by rw [List.length_set]; exact hl) ?_
      rw [List.take_succ_eq_append_getElem (by rw [List.length_set]; omega), List.take_succ_eq_append_getElem (by rw [List.length_map]; omega), List.take_set_of_le (by omega), ht]
      simp
  have := key xs.length 0 k (List.replicate xs.length z) (by omega) hk (by simp) (by simp)
  simpa using this

theorem wnat {n : Nat} (h : n < 9223372036854775807) : wrap64 ((n : Int) + 1) = ((n + 1 : Nat) : Int) := by
  unfold wrap64; omega

theorem loop_all {β : Type} (n K0 : Nat) (L : Nat → Int → Option β) (r : β) (hs : ∀ (k i : Nat), K0 ≤ k → i < n → L (k + 1) (i : Int) = L k ((i + 1 : Nat) : Int)) (he : ∀ k : Nat, L (k + 1) (n : Int) = some r)
    (k : Nat) (hk : K0 + n < k) : L k 0 = some r := by
  have key : ∀ (m i k : Nat), i + m = n → K0 + m < k → L k (i : Int) = some r := by
    intro m
    induction m with
    | zero =>
      intro i k hi hk
      obtain ⟨k, rfl⟩ : ∃ m, k = m + 1 := ⟨k - 1, by omega⟩
      obtain rfl : i = n := by omega
      exact he k
    | succ m ih =>
      intro i k hi hk
      obtain ⟨k, rfl⟩ : ∃ m, k = m + 1 := ⟨k - 1, by omega⟩
      rw [hs k i (by omega) (by omega)]
      exact ih (i + 1) k (by omega) (by omega)
  simpa using key n 0 k (by omega) hk

theorem rdi (xs : List Int) (i : Nat) (h : i < xs.length) : rd xs (i : Int) = xs[i] := by
  unfold rd; simp [List.getD, h]

theorem eqInt64S_eq (l : List Int) (hl : l.length ≤ 1048576) (k : Nat) (hk : l.length < k) : laws_eqInt64S.f k l l = some true := by
  unfold laws_eqInt64S.f
  rw [if_pos rfl]
  refine loop_all l.length 0 (fun k i => laws_eqInt64S.l0 k l l i) true ?_ ?_ k (by omega)
  · intro k i _ h
    simp only [laws_eqInt64S.l0]
    rw [if_pos (by omega), if_pos (by omega), if_pos (by omega), wnat (by omega)]; simp
  · intro k
    simp only [laws_eqInt64S.l0]
    rw [if_neg (by omega)]

def upTo : Nat → Int → List Int
  | 0, _ => []
  | n + 1, m => m :: upTo n (m + 1)

theorem upTo_len : ∀ (n : Nat) (m : Int), (upTo n m).length = n
  | 0, _ => rfl
  | n + 1, m => by simp [upTo, upTo_len n]

theorem upTo_get : ∀ (n : Nat) (m : Int) (i : Nat) (h : i < (upTo n m).length), (upTo n m)[i] = m + i
  | 0, m, i, h => by simp [upTo] at h
  | n + 1, m, 0, h => by simp [upTo]
  | n + 1, m, i + 1, h => by
    have h' : i < (upTo n (m + 1)).length := by simpa [upTo] using h
    have := upTo_get n (m + 1) i h'
    simp only [upTo, List.getElem_cons_succ, this]; omega

theorem markInts_eq (l : List Int) (hl : l.length ≤ 1048576) (m : Int) (h0 : 0 ≤ m) (h1 : m ≤ 100000000) (k : Nat) (hk : l.length < k) : laws_markInt64S.f k l m = some (m + l.length, upTo l.length m) := by
  have key : ∀ (n i k : Nat) (s : List Int), i + n = l.length → n < k → s.length = l.length → s.take i = (upTo l.length m).take i →
      laws_markInt64S.l0 k s (m + i) (i : Int) = some (m + l.length, upTo l.length m) := by
    intro n
    induction n with
    | zero =>
      intro i k s hi hk hs ht
      obtain ⟨k, rfl⟩ : ∃ m, k = m + 1 := ⟨k - 1, by omega⟩
      obtain rfl : i = l.length := by omega
      simp only [laws_markInt64S.l0]
      have e : s = upTo l.length m := by
        rw [List.take_of_length_le (by omega), List.take_of_length_le (by rw [upTo_len]; omega)] at ht; exact ht
      rw [if_neg (by omega), e]
    | succ n ih =>
      intro i k s hi hk hs ht
      obtain ⟨k, rfl⟩ : ∃ m, k = m + 1 := ⟨k - 1, by omega⟩
      simp only [laws_markInt64S.l0]
      rw [if_pos (by omega), if_pos (by omega), w64 (x := m + i + 1) (by omega) (by omega), wnat (by omega)]
      have hh := ih (i + 1) k (s.set (i : Int).toNat (m + i)) (by omega) (by omega) (by rw [List.length_set]; exact hs) (by
        have hlt : i < (upTo l.length m).length := by rw [upTo_len]; omega
        rw [List.take_succ_eq_append_getElem (by rw [List.length_set]; omega), List.take_succ_eq_append_getElem hlt, List.take_set_of_le (by omega), ht, upTo_get _ _ _ hlt]
        simp)
      rw [show m + ((i + 1 : Nat) : Int) = m + i + 1 by omega] at hh
      exact hh
  have := key l.length 0 k l (by omega) hk rfl (by simp)
  unfold laws_markInt64S.f
  simpa using this

theorem heldInts_eq (n : Nat) (hn : n ≤ 1048576) (m : Int) (h0 : 0 ≤ m) (h1 : m ≤ 100000000) (k : Nat) (hk : n < k) : laws_heldInt64S.f k (upTo n m) m = some (m + n) := by
  have key : ∀ (d i k : Nat), i + d = n → d < k → laws_heldInt64S.l0 k (upTo n m) (m + i) (i : Int) = some (m + n) := by
    intro d
    induction d with
    | zero =>
      intro i k hi hk
      obtain ⟨k, rfl⟩ : ∃ m, k = m + 1 := ⟨k - 1, by omega⟩
      obtain rfl : i = n := by omega
      simp only [laws_heldInt64S.l0]
      rw [if_neg (by rw [upTo_len]; omega)]
    | succ d ih =>
      intro i k hi hk
      obtain ⟨k, rfl⟩ : ∃ m, k = m + 1 := ⟨k - 1, by omega⟩
      simp only [laws_heldInt64S.l0]
      have hlt : i < (upTo n m).length := by rw [upTo_len]; omega
      rw [if_pos (by omega), if_pos (by omega), rdi _ i hlt, upTo_get _ _ _ hlt, if_pos rfl, w64 (x := m + i + 1) (by omega) (by omega), wnat (by omega)]
      have hh := ih (i + 1) k (by omega) (by omega)
      rw [show m + ((i + 1 : Nat) : Int) = m + i + 1 by omega] at hh
      exact hh
  have := key n 0 k (by omega) hk
  unfold laws_heldInt64S.f
  simpa using this

def rowG (c : Int → Int → Int) (y : Int) : Nat → Int → List Int → List Int
  | 0, _, out => out
  | n + 1, x, out => rowG c y n (x + 1) (out ++ [c x y])
def gridG (c : Int → Int → Int) (W : Nat) : Nat → Int → List Int → List Int
  | 0, _, out => out
  | n + 1, y, out => gridG c W n (y + 1) (rowG c y W 0 out)
theorem rowG_len (c : Int → Int → Int) (y : Int) : ∀ (n : Nat) (x : Int) (out : List Int), (rowG c y n x out).length = out.length + n
  | 0, x, out => rfl
  | n + 1, x, out => by rw [rowG, rowG_len c y n, List.length_append, List.length_singleton]; omega
theorem gridG_len (c : Int → Int → Int) (W : Nat) : ∀ (n : Nat) (y : Int) (out : List Int), (gridG c W n y out).length = out.length + n * W
  | 0, y, out => by simp [gridG]
  | n + 1, y, out => by rw [gridG, gridG_len c W n, rowG_len, Nat.succ_mul]; omega

theorem grid_row {β : Type} (c : Int → Int → Int) (W : Nat) (hW : W ≤ 12) (L0 : Nat → Int → List Int → Option β) (L1 : Nat → Int → Int → List Int → Option β) (y : Int) (y' : Int)
    (h1 : ∀ (k : Nat) (x : Int) (out : List Int), 0 ≤ x → x < W → out.length ≤ 1000 → L1 (k + 1) y x out = L1 k y (x + 1) (out ++ [c x y]))
    (h1e : ∀ (k : Nat) (out : List Int), L1 (k + 1) y W out = L0 k y' out) :
    ∀ (m : Nat) (x : Int) (out : List Int), x + m = W → 0 ≤ x → out.length + m ≤ 1000 → ∀ k f, f = k + m + 1 → L1 f y x out = L0 k y' (rowG c y m x out) := by
  intro m
  induction m with
  | zero =>
    intro x out hx x0 ho k f hf
    obtain rfl : f = k + 1 := by omega
    obtain rfl : x = W := by omega
    rw [h1e]; rfl
  | succ m ih =>
    intro x out hx x0 ho k f hf
    obtain ⟨f, rfl⟩ : ∃ g, f = g + 1 := ⟨f - 1, by omega⟩
    rw [h1 f x out x0 (by omega) (by omega), ih (x + 1) (out ++ [c x y]) (by omega) (by omega) (by rw [List.length_append, List.length_singleton]; omega) k f (by omega)]
    rfl

theorem grid_loop {β : Type} (c : Int → Int → Int) (W H : Nat) (hW : W ≤ 12) (hH : H ≤ 12) (L0 : Nat → Int → List Int → Option β) (L1 : Nat → Int → Int → List Int → Option β) (E : List Int → β)
    (h1 : ∀ (k : Nat) (x y : Int) (out : List Int), 0 ≤ y → y < H → 0 ≤ x → x < W → out.length ≤ 1000 → L1 (k + 1) y x out = L1 k y (x + 1) (out ++ [c x y]))
    (h1e : ∀ (k : Nat) (y : Int) (out : List Int), 0 ≤ y → y < H → L1 (k + 1) y W out = L0 k (y + 1) out)
    (h0 : ∀ (k : Nat) (y : Int) (out : List Int), 0 ≤ y → y < H → L0 (k + 1) y out = L1 k y 0 out)
    (h0e : ∀ (k : Nat) (out : List Int), L0 (k + 1) H out = some (E out)) :
    ∀ (n : Nat) (y : Int) (out : List Int), y + n = H → 0 ≤ y → out.length + n * 12 ≤ 900 → ∀ k, 20 * n + 20 < k → L0 k y out = some (E (gridG c W n y out)) := by
  intro n
  induction n with
  | zero =>
    intro y out hy y0 ho k hk
    obtain ⟨k, rfl⟩ : ∃ m, k = m + 1 := ⟨k - 1, by omega⟩
    obtain rfl : y = H := by omega
    rw [h0e]; rfl
  | succ n ih =>
    intro y out hy y0 ho k hk
    obtain ⟨k, rfl⟩ : ∃ m, k = m + 1 := ⟨k - 1, by omega⟩
    rw [h0 k y out y0 (by omega), grid_row c W hW L0 L1 y (y + 1) (fun k x out a b d => h1 k x y out y0 (by omega) a b d) (fun k out => h1e k y out y0 (by omega)) W 0 out (by omega) (by omega) (by omega) (k - W - 1) k (by omega)]
    rw [ih (y + 1) _ (by omega) (by omega) (by rw [rowG_len]; omega) (k - W - 1) (by omega)]
    rfl

theorem make_law (a0 a1 a2 : Int) (r : Int × Int × List Int × Int) (hr : r.2.2.1.length ≤ 1000) (h : ∀ k, 3000 ≤ k → spec_FrameShape.f k a0 a1 a2 = some r ∧ impl_FrameShape.f k a0 a1 a2 = some r) : ∃ k, laws_FnExactFrameShape.f k a0 a1 a2 = some true := by
  obtain ⟨k, hk⟩ : ∃ k : Nat, k = 5000 := ⟨_, rfl⟩
  refine ⟨k + 1 + 1, ?_⟩
  obtain ⟨x, y, l, c⟩ := r
  have e : ∀ k, 2000 ≤ k → laws_eqShape.f k x y l x y l = some true := by
    intro k hk
    unfold laws_eqShape.f
    rw [if_pos rfl, if_pos rfl, eqInt64S_eq l (by simp at hr; omega) k (by simp at hr; omega)]
    rfl
  simp only at hr
  have hm := markInts_eq l (by omega) 1 (by omega) (by omega) (k + 1) (by omega)
  have hh1 := heldInts_eq l.length (by omega) 1 (by omega) (by omega) (k + 1) (by omega)
  have hh2 := heldInts_eq l.length (by omega) 1 (by omega) (by omega) k (by omega)
  unfold laws_FnExactFrameShape.f
  rw [(h (k + 1 + 1) (by omega)).1, (h (k + 1 + 1) (by omega)).2]
  simp only [Option.bind_some, e (k + 1 + 1) (by omega), if_true, bne_self_eq_false, laws_FnExactFrameShape.j0, Bool.false_eq_true, if_false]
  unfold laws_markShape.f laws_heldShape.f
  rw [hm]
  simp only [Option.bind_some, hh1]
  rw [if_neg (by omega)]
  simp only [Option.bind_some]
  rw [if_neg (by omega)]
  simp only [if_true]
  rw [(h (k + 1) (by omega)).2]
  simp only [Option.bind_some, e (k + 1) (by omega), if_true, bne_self_eq_false, laws_FnExactFrameShape.j1, Bool.false_eq_true, if_false]
  unfold laws_heldShape.f
  rw [hh2]
  simp only [Option.bind_some]
  rw [if_neg (by omega)]
  simp only [Option.bind_some]
  rw [if_neg (by omega)]
  simp only [if_true]

def cellF (a : Int) (w h : Nat) (x y : Int) : Int := if (a ≤ x ∧ x ≤ (w : Int) - 1 - a) ∧ (a ≤ y ∧ y ≤ (h : Int) - 1 - a) then 0 else 1

theorem specGrid (a : Int) (ha : 1 ≤ a ∧ a ≤ 12) (W H : Nat) (hW : W ≤ 12) (hH : H ≤ 12) (k : Nat) (hk : 1000 < k) : spec_FrameShape.l0 k W H a 0 W H [] = some ((W : Int), (H : Int), gridG (cellF a W H) W H 0 [], 0) := by
  refine grid_loop (cellF a W H) W H hW hH (fun k y out => spec_FrameShape.l0 k W H a y W H out) (fun k y x out => spec_FrameShape.l1 k W H a y x W H out) (fun out => ((W : Int), (H : Int), out, 0)) ?_ ?_ ?_ ?_ H 0 [] (by omega) (by omega) (by simp; omega) k (by omega)
  · intro k x y out y0 y1 x0 x1 ho
    simp only [spec_FrameShape.l1, cellF]
    have hw : wrap64 (x + 1) = x + 1 := w64 (by omega) (by omega)
    have hl : out.length < 17592186044416 := by omega
    have hx : x < (W : Int) := by omega
    have e1 : wrap64 (wrap64 ((W : Int) - 1) - a) = (W : Int) - 1 - a := by rw [w64 (x := (W : Int) - 1) (by omega) (by omega), w64 (by omega) (by omega)]
    have e2 : wrap64 (wrap64 ((H : Int) - 1) - a) = (H : Int) - 1 - a := by rw [w64 (x := (H : Int) - 1) (by omega) (by omega), w64 (by omega) (by omega)]
    rw [l00In_eq, l00In_eq, e1, e2]
    simp only [Option.bind_some, hx, hl, hw, if_true, decide_eq_true_eq]
    by_cases h1 : a ≤ x ∧ x ≤ (W : Int) - 1 - a
    · by_cases h2 : a ≤ y ∧ y ≤ (H : Int) - 1 - a
      · rw [if_pos h1, if_pos h2, if_pos ⟨h1, h2⟩]
      · rw [if_pos h1, if_neg h2, if_neg (fun h => h2 h.2)]
    · rw [if_neg h1, if_neg (fun h => h1 h.1)]
  · intro k y out y0 y1
    simp only [spec_FrameShape.l1]
    rw [if_neg (by omega), w64 (x := y + 1) (by omega) (by omega)]
  · intro k y out y0 y1
    simp only [spec_FrameShape.l0]
    rw [if_pos (by omega)]
  · intro k out
    simp only [spec_FrameShape.l0]
    rw [if_neg (by omega)]

theorem implGrid (a : Int) (ha : 1 ≤ a ∧ a ≤ 12) (W H : Nat) (hW : W ≤ 12) (hH : H ≤ 12) (k : Nat) (hk : 1000 < k) : fi61_63.f k W H [a] [(W : Int)] [(H : Int)] = some ((W : Int), (H : Int), gridG (cellF a W H) W H 0 []) := by
  unfold fi61_63.f
  refine grid_loop (cellF a W H) W H hW hH (fun k y out => fi61_63.l0 k W H y [a] [(W : Int)] [(H : Int)] W H out) (fun k y x out => fi61_63.l1 k W y H y W x [a] [(W : Int)] [(H : Int)] W H out) (fun out => ((W : Int), (H : Int), out)) ?_ ?_ ?_ ?_ H 0 [] (by omega) (by omega) (by simp; omega) k (by omega)
  · intro k x y out y0 y1 x0 x1 ho
    have e1 : wrap64 (wrap64 ((W : Int) - 1) - a) = (W : Int) - 1 - a := by rw [w64 (x := (W : Int) - 1) (by omega) (by omega), w64 (by omega) (by omega)]
    have e2 : wrap64 (wrap64 ((H : Int) - 1) - a) = (H : Int) - 1 - a := by rw [w64 (x := (H : Int) - 1) (by omega) (by omega), w64 (by omega) (by omega)]
    have hw : wrap64 (x + 1) = x + 1 := w64 (by omega) (by omega)
    have hl : out.length < 17592186044416 := by omega
    have hx : x < (W : Int) := by omega
    have r1 : rd [a] 0 = a := rfl
    have r2 : rd [(W : Int)] 0 = (W : Int) := rfl
    have r3 : rd [(H : Int)] 0 = (H : Int) := rfl
    simp only [fi61_63.l1, cellF]
    unfold impl_FrameShape_1.f
    simp only [r1, r2, r3, e1, e2, within_eq, List.length_singleton, Option.bind_some, hx, hl, hw, if_true, decide_eq_true_eq, show (0 : Int) < ((1 : Nat) : Int) by omega]
    by_cases h1 : a ≤ x ∧ x ≤ (W : Int) - 1 - a
    · by_cases h2 : a ≤ y ∧ y ≤ (H : Int) - 1 - a
      · simp [h1, h2]
      · simp [h1, h2]
    · simp [h1]
  · intro k y out y0 y1
    simp only [fi61_63.l1]
    rw [if_neg (by omega), w64 (x := y + 1) (by omega) (by omega)]
  · intro k y out y0 y1
    simp only [fi61_63.l0]
    rw [if_pos (by omega)]
  · intro k out
    simp only [fi61_63.l0]
    rw [if_neg (by omega)]

theorem FnExactFrameShape : laws_FnExactFrameShape.Pure := by
  intro a0 a1 a2 _ _ _
  by_cases g0 : 1 ≤ a0 ∧ a0 ≤ 12
  · by_cases g1 : 1 ≤ a1 ∧ a1 ≤ 12
    · by_cases g2 : 1 ≤ a2 ∧ a2 ≤ 12
      · obtain ⟨W, rfl⟩ := Int.eq_ofNat_of_zero_le (show 0 ≤ a0 by omega)
        obtain ⟨H, rfl⟩ := Int.eq_ofNat_of_zero_le (show 0 ≤ a1 by omega)
        refine make_law _ _ _ ((W : Int), (H : Int), gridG (cellF a2 W H) W H 0 [], 0) ?_ (fun k hk => ?_)
        · have : H * W ≤ 12 * 12 := Nat.mul_le_mul (by omega) (by omega)
          simp only [gridG_len, List.length_nil]; omega
        · obtain ⟨k, rfl⟩ : ∃ m, k = m + 1 := ⟨k - 1, by omega⟩
          have q1 := specGrid a2 g2 W H (by omega) (by omega) k (by omega)
          have q2 := implGrid a2 g2 W H (by omega) (by omega) (k + 1) (by omega)
          unfold spec_FrameShape.f impl_FrameShape.f
          simp only [l00In_eq, within_eq, Option.bind_some, decide_eq_true g0, decide_eq_true g1, decide_eq_true g2, if_true, Bool.not_true, spec_FrameShape.j0, Bool.false_eq_true, if_false, q1, q2, and_self]
      · refine make_law _ _ _ (0, 0, [], 2) (by simp) (fun k hk => ?_)
        obtain ⟨k, rfl⟩ : ∃ m, k = m + 1 := ⟨k - 1, by omega⟩
        unfold spec_FrameShape.f impl_FrameShape.f
        simp only [l00In_eq, within_eq, Option.bind_some, decide_eq_true g0, decide_eq_true g1, decide_eq_false g2, if_true, Bool.not_false, spec_FrameShape.j0, Bool.false_eq_true, if_false, and_self]
    · refine make_law _ _ _ (0, 0, [], 2) (by simp) (fun k hk => ?_)
      obtain ⟨k, rfl⟩ : ∃ m, k = m + 1 := ⟨k - 1, by omega⟩
      unfold spec_FrameShape.f impl_FrameShape.f
      simp only [l00In_eq, within_eq, Option.bind_some, decide_eq_true g0, decide_eq_false g1, if_true, Bool.not_false, spec_FrameShape.j0, Bool.false_eq_true, if_false, and_self]
  · refine make_law _ _ _ (0, 0, [], 2) (by simp) (fun k hk => ?_)
    obtain ⟨k, rfl⟩ : ∃ m, k = m + 1 := ⟨k - 1, by omega⟩
    unfold spec_FrameShape.f impl_FrameShape.f
    simp only [l00In_eq, within_eq, Option.bind_some, decide_eq_false g0, if_true, Bool.not_false, spec_FrameShape.j0, Bool.false_eq_true, if_false, and_self]

end Go.Proofs.Ytakagkflgkoiiaa.Pure

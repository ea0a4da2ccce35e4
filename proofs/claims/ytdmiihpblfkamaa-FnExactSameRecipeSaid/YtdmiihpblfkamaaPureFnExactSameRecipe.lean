/- FnExactSameRecipe: the program's SameRecipe returns what the reference's returns, for all arguments; no condition. -/
import Derived.Test.YtdmiihpblfkamaaGFnExactSameRecipex4
namespace Go.Proofs.Ytdmiihpblfkamaa.Pure
open Go.RowKit Go.Proofs.Ytdmiihpblfkamaa.GFnExactSameRecipe Go.Proofs.YtdmiihpblfkamaaW.PrintWords Go.Proofs.YtdmiihpblfkamaaW.PrintLast

theorem w64 {x : Int} (h0 : -9223372036854775808 ≤ x) (h1 : x ≤ 9223372036854775807) : wrap64 x = x := by
  unfold wrap64; omega

/-- a loop over a list: from one state to the next, or out of it -/
def run {α σ β : Type} (st : σ → α → Nat → σ ⊕ β) (en : σ → β) : List α → σ → Nat → β
  | [], s, _ => en s
  | x :: xs, s, i => match st s x i with
    | .inl s' => run st en xs s' (i + 1)
    | .inr r => r

theorem loop_run {α σ β : Type} (xs : List α) (K0 : Nat) (Inv : σ → Nat → Prop) (L : Nat → σ → Int → Option β) (st : σ → α → Nat → σ ⊕ β) (en : σ → β)
    (hs : ∀ (k : Nat) (s : σ) (i : Nat) (h : i < xs.length), K0 ≤ k → Inv s i →
      (∃ s', st s xs[i] i = .inl s' ∧ Inv s' (i + 1) ∧ L (k + 1) s (i : Int) = L k s' ((i + 1 : Nat) : Int)) ∨ (∃ r, st s xs[i] i = .inr r ∧ L (k + 1) s (i : Int) = some r))
    (he : ∀ (k : Nat) (s : σ), K0 ≤ k → Inv s xs.length → L (k + 1) s (xs.length : Int) = some (en s)) :
    ∀ (n i k : Nat) (s : σ), i + n = xs.length → K0 + n < k → Inv s i → L k s (i : Int) = some (run st en (xs.drop i) s i) := by
  intro n
  induction n with
  | zero =>
    intro i k s hi hk hI
    obtain ⟨k, rfl⟩ : ∃ m, k = m + 1 := ⟨k - 1, by omega⟩
    obtain rfl : i = xs.length := by omega
    rw [he k s (by omega) hI, List.drop_length]; rfl
  | succ n ih =>
    intro i k s hi hk hI
    obtain ⟨k, rfl⟩ : ∃ m, k = m + 1 := ⟨k - 1, by omega⟩
    have hlt : i < xs.length := by omega
    rw [List.drop_eq_getElem_cons hlt]
    rcases hs k s i hlt (by omega) hI with ⟨s', h1, h2, h3⟩ | ⟨r, h1, h3⟩
    · rw [h3, ih (i + 1) k s' (by omega) (by omega) h2]
      simp only [run, h1]
    · rw [h3]
      simp only [run, h1]

theorem loop_run0 {α σ β : Type} (xs : List α) (K0 : Nat) (Inv : σ → Nat → Prop) (L : Nat → σ → Int → Option β) (st : σ → α → Nat → σ ⊕ β) (en : σ → β)
    (hs : ∀ (k : Nat) (s : σ) (i : Nat) (h : i < xs.length), K0 ≤ k → Inv s i →
      (∃ s', st s xs[i] i = .inl s' ∧ Inv s' (i + 1) ∧ L (k + 1) s (i : Int) = L k s' ((i + 1 : Nat) : Int)) ∨ (∃ r, st s xs[i] i = .inr r ∧ L (k + 1) s (i : Int) = some r))
    (he : ∀ (k : Nat) (s : σ), K0 ≤ k → Inv s xs.length → L (k + 1) s (xs.length : Int) = some (en s)) (k : Nat) (s : σ) (hk : K0 + xs.length < k) (hI : Inv s 0) :
    L k s 0 = some (run st en xs s 0) := by
  have := loop_run xs K0 Inv L st en hs he xs.length 0 k s (by omega) hk hI
  simpa using this

/-- a row that is made and then filled, element by element -/
theorem loop_map {α β : Type} (xs : List α) (z : β) (c : α → β) (L : Nat → List β → Int → Option (List β))
    (hs : ∀ (k : Nat) (s : List β) (i : Nat) (h : i < xs.length), s.length = xs.length → L (k + 1) s (i : Int) = L k (s.set i (c xs[i])) ((i + 1 : Nat) : Int))
    (he : ∀ (k : Nat) (s : List β), L (k + 1) s (xs.length : Int) = some s) (k : Nat) (hk : xs.length < k) :
    L k (List.replicate xs.length z) 0 = some (xs.map c) := by
  have key : ∀ (n i k : Nat) (s : List β), i + n = xs.length → n < k → s.length = xs.length → s.take i = (xs.map c).take i → L k s (i : Int) = some (xs.map c) := by
    intro n
    induction n with
    | zero =>
      intro i k s hi hk hl ht
      obtain ⟨k, rfl⟩ : ∃ m, k = m + 1 := ⟨k - 1, by omega⟩
      obtain rfl : i = xs.length := by omega
      have h1 : s.take xs.length = s := List.take_of_length_le (by omega)
      rw [he, ← h1, ht, List.take_of_length_le (by simp)]
    | succ n ih =>
      intro i k s hi hk hl ht
      obtain ⟨k, rfl⟩ : ∃ m, k = m + 1 := ⟨k - 1, by omega⟩
      have hlt : i < xs.length := by omega
      rw [hs k s i hlt hl]
      refine ih (i + 1) k _ (by omega) (by omega) (by rw [List.length_set]; exact hl) ?_
      rw [List.take_succ_eq_append_getElem (by rw [List.length_set]; omega), List.take_succ_eq_append_getElem (by rw [List.length_map]; omega), List.take_set_of_le (by omega), ht]
      simp
  have := key xs.length 0 k (List.replicate xs.length z) (by omega) hk (by simp) (by simp)
  simpa using this

theorem wnat {n : Nat} (h : n < 9223372036854775807) : wrap64 ((n : Int) + 1) = ((n + 1 : Nat) : Int) := by
  unfold wrap64; omega

theorem loop_all {β : Type} (n K0 : Nat) (L : Nat → Int → Option β) (r : β) (hs : ∀ (k i : Nat), K0 ≤ k → i < n → L (k + 1) (i : Int) = L k ((i + 1 : Nat) : Int)) (he : ∀ k : Nat, L (k + 1) (n : Int) = some r)
    (k : Nat) (hk : K0 + n < k) : L k 0 = some r := by
  have key : ∀ (m i k : Nat), i + m = n → K0 + m < k → L k (i : Int) = some r := by
    intro m
    induction m with
    | zero =>
      intro i k hi hk
      obtain ⟨k, rfl⟩ : ∃ m, k = m + 1 := ⟨k - 1, by omega⟩
      obtain rfl : i = n := by omega
      exact he k
    | succ m ih =>
      intro i k hi hk
      obtain ⟨k, rfl⟩ : ∃ m, k = m + 1 := ⟨k - 1, by omega⟩
      rw [hs k i (by omega) (by omega)]
      exact ih (i + 1) k (by omega) (by omega)
  simpa using key n 0 k (by omega) hk

theorem rd23 (xs : List S23) (i : Nat) (h : i < xs.length) : rd_T23 xs (i : Int) = xs[i] := by
  unfold rd_T23; simp [List.getD, h]
theorem rd25 (xs : List S25) (i : Nat) (h : i < xs.length) : rd_T25 xs (i : Int) = xs[i] := by
  unfold rd_T25; simp [List.getD, h]

def toSt (x : S23) : S25 := ⟨x.f0, x.f1, x.f2⟩

theorem toStepS_eq (l : List S23) (hl : l.length ≤ 1048576) (k : Nat) (hk : l.length < k) : laws_toStepS.f k l = some (l.map toSt) := by
  unfold laws_toStepS.f
  rw [if_pos (by omega), if_pos (by omega), show ((l.length : Int)).toNat = l.length by omega]
  refine loop_map l z25 toSt (fun k s i => laws_toStepS.l0 k l s i) ?_ ?_ k hk
  · intro k s i h hs
    simp only [laws_toStepS.l0]
    rw [if_pos (by omega), if_pos (by omega), rd23 l i h]
    unfold laws_toStep.f
    simp only [Option.bind_some]
    rw [if_pos (by omega), wnat (by omega)]
    rfl
  · intro k s
    simp only [laws_toStepS.l0]
    rw [if_neg (by omega)]

theorem eqStepS_eq (l : List S25) (hl : l.length ≤ 1048576) (k : Nat) (hk : l.length < k) : laws_eqStepS.f k l l = some true := by
  unfold laws_eqStepS.f
  rw [if_pos rfl]
  refine loop_all l.length 0 (fun k i => laws_eqStepS.l0 k l l i) true ?_ ?_ k (by omega)
  · intro k i _ h
    simp only [laws_eqStepS.l0]
    rw [if_pos (by omega), if_pos (by omega), if_pos (by omega)]
    unfold laws_eqStep.f
    simp only [if_true, Option.bind_some]
    rw [wnat (by omega)]
  · intro k
    simp only [laws_eqStepS.l0]
    rw [if_neg (by omega)]

theorem szStepS_eq (l : List S23) (a : Int) (ha : 0 ≤ a) (ha2 : a ≤ 1048576) (hl : l.length ≤ maxLen) : laws_szStepS.f l a = some (if a < l.length then -1 else a - l.length) := by
  unfold maxLen at hl
  unfold laws_szStepS.f
  rw [w64 (x := a - l.length) (by omega) (by omega)]
  by_cases h : a < l.length
  · rw [if_pos (by omega), if_pos h]
  · rw [if_neg (by omega), if_neg h]

theorem szRecipe_eq (s : ByteArray) (l : List S23) (a : Int) (ha : 0 ≤ a) (ha2 : a ≤ 1048576) (hs : s.size ≤ maxLen) (hl : l.length ≤ maxLen) :
    ∃ v, laws_szRecipe.f s l a = some v ∧ (v < 0 ∨ 0 ≤ v ∧ v ≤ a ∧ s.size ≤ 1048576 ∧ l.length ≤ 1048576) := by
  unfold maxLen at hs
  unfold laws_szRecipe.f
  rw [w64 (x := a - s.size) (by omega) (by omega)]
  by_cases h : a - s.size < 0
  · rw [if_pos h]; exact ⟨_, rfl, .inl (by omega)⟩
  · rw [if_neg h, szStepS_eq l _ (by omega) (by omega) hl]
    simp only [Option.bind_some]
    by_cases h2 : a - s.size < l.length
    · rw [if_pos h2, if_pos (by omega)]; exact ⟨_, rfl, .inl (by omega)⟩
    · rw [if_neg h2, if_neg (by omega)]; exact ⟨_, rfl, .inr ⟨by omega, by omega, by omega, by omega⟩⟩

def sameSt (b : List S25) (_ : Unit) (x : S25) (i : Nat) : Unit ⊕ Bool :=
  if (!(x.f0 == (rd_T25 b i).f0) || (!(x.f1 == (rd_T25 b i).f1) || !(x.f2 == (rd_T25 b i).f2))) = true then .inr false else .inl ()
def same (a b : List S25) : Bool := if a.length = b.length then run (sameSt b) (fun _ => true) a () 0 else false

theorem specEqual (a b : List S25) (ha : a.length ≤ 1048576) (k : Nat) (hk : a.length < k) : spec_l21Equal.f k a b = some (same a b) := by
  unfold spec_l21Equal.f same
  by_cases h : a.length = b.length
  · rw [if_pos (by omega), if_pos h]
    refine loop_run0 a 0 (fun _ _ => True) (fun k _ i => spec_l21Equal.l0 k a b i) (sameSt b) (fun _ => true) ?_ ?_ k () (by omega) trivial
    · intro k s i hi _ _
      simp only [spec_l21Equal.l0]
      rw [if_pos (by omega), if_pos (by omega), if_pos (by omega), rd25 a i hi, wnat (by omega)]
      by_cases g : (!(a[i].f0 == (rd_T25 b i).f0) || (!(a[i].f1 == (rd_T25 b i).f1) || !(a[i].f2 == (rd_T25 b i).f2))) = true
      · exact .inr ⟨false, if_pos g, if_pos g⟩
      · exact .inl ⟨(), if_neg g, trivial, if_neg g⟩
    · intro k s _ _
      simp only [spec_l21Equal.l0]
      rw [if_neg (by omega)]
  · rw [if_neg (by omega), if_neg h]

theorem implEqual (a b : List S25) (ha : a.length ≤ 1048576) (k : Nat) (hk : a.length < k) : impl_Step.f k a b = some (same a b) := by
  unfold impl_Step.f same
  by_cases h : a.length = b.length
  · rw [if_pos (by omega), if_pos h]
    refine loop_run0 a 0 (fun _ _ => True) (fun k _ i => impl_Step.l0 k a b (a.length : Int) i) (sameSt b) (fun _ => true) ?_ ?_ k () (by omega) trivial
    · intro k s i hi _ _
      simp only [impl_Step.l0]
      rw [if_pos (by omega), if_pos (by omega), if_pos (by omega), if_pos (by omega), rd25 a i hi, wnat (by omega)]
      by_cases g : (!(a[i].f0 == (rd_T25 b i).f0) || (!(a[i].f1 == (rd_T25 b i).f1) || !(a[i].f2 == (rd_T25 b i).f2))) = true
      · exact .inr ⟨false, if_pos g, if_pos g⟩
      · exact .inl ⟨(), if_neg g, trivial, if_neg g⟩
    · intro k s _ _
      simp only [impl_Step.l0]
      rw [if_neg (by omega)]
  · rw [if_neg (by omega), if_neg h]

theorem FnExactSameRecipe : laws_FnExactSameRecipe.Pure := by
  intro s a t b ⟨hs, ha, _⟩ ⟨ht, hb, _⟩
  have k0 : ∃ k : Nat, k = 1048577 := ⟨_, rfl⟩
  obtain ⟨k, hk⟩ := k0
  refine ⟨k, ?_⟩
  unfold laws_FnExactSameRecipe.f
  obtain ⟨v, e1, h1⟩ := szRecipe_eq s a 1048576 (by omega) (by omega) hs ha
  rw [e1]
  simp only [Option.bind_some]
  rcases h1 with h1 | ⟨h1, h2, h3, h4⟩
  · rw [if_pos h1]
  rw [if_neg (by omega)]
  obtain ⟨v', e2, g1⟩ := szRecipe_eq t b v (by omega) (by omega) ht hb
  rw [e2]
  simp only [Option.bind_some]
  rcases g1 with g1 | ⟨g1, g2, g3, g4⟩
  · rw [if_pos g1]
  rw [if_neg (by omega)]
  have ea := toStepS_eq a h4 k (by omega)
  have eb := toStepS_eq b g4 k (by omega)
  have qa := eqStepS_eq (a.map toSt) (by simpa using h4) k (by simp; omega)
  have qb := eqStepS_eq (b.map toSt) (by simpa using g4) k (by simp; omega)
  have c1 := specEqual (a.map toSt) (b.map toSt) (by simpa using h4) k (by simp; omega)
  have c2 := implEqual (a.map toSt) (b.map toSt) (by simpa using h4) k (by simp; omega)
  unfold laws_toRecipe.f spec_SameRecipe.f impl_SameRecipe.f laws_eqRecipe.f
  rw [ea, eb]
  simp only [Option.bind_some]
  by_cases hn : s.toList = t.toList
  · simp [hn, c1, c2, qa, qb]
  · simp [hn, qa, qb]

end Go.Proofs.Ytdmiihpblfkamaa.Pure

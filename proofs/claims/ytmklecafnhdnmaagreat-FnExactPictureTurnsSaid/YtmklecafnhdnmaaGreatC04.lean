/- The law in plain Lean; no condition. -/
import Derived.Test.YtmklecafnhdnmaaGreatC03
set_option linter.all false
section
/- Polygons under another beginning are as good; no condition. -/
namespace Go.Proofs.YtmklecafnhdnmaaGreatV
open Go Go.RowKit
/-- equal up to where the list begins -/
def Rot {α : Type} (a b : List α) : Prop := ∃ x y, a = x ++ y ∧ b = y ++ x
theorem Rot.refl {α : Type} (a : List α) : Rot a a := ⟨[], a, rfl, by simp⟩
theorem Rot.symm {α : Type} {a b : List α} (h : Rot a b) : Rot b a := by
  obtain ⟨x, y, h1, h2⟩ := h
  exact ⟨y, x, h2, h1⟩
theorem Rot.trans {α : Type} {a b c : List α} (h : Rot a b) (h' : Rot b c) : Rot a c := by
  obtain ⟨x, y, rfl, h2⟩ := h
  obtain ⟨u, v, h3, rfl⟩ := h'
  rw [h2] at h3
  rcases List.append_eq_append_iff.1 h3 with ⟨s, h4, h5⟩ | ⟨s, h4, h5⟩
  · subst h4 h5
    exact ⟨s, v ++ y, by simp, by simp⟩
  · subst h4 h5
    exact ⟨x ++ u, s, by simp, by simp⟩
theorem Rot.map {α β : Type} (f : α → β) {a b : List α} (h : Rot a b) : Rot (a.map f) (b.map f) := by
  obtain ⟨x, y, rfl, rfl⟩ := h
  exact ⟨x.map f, y.map f, by simp, by simp⟩
theorem Rot.rev {α : Type} {a b : List α} (h : Rot a b) : Rot a.reverse b.reverse := by
  obtain ⟨x, y, rfl, rfl⟩ := h
  exact ⟨y.reverse, x.reverse, by simp, by simp⟩
theorem rot_ind {α : Type} (C : List α → Prop) (h : ∀ c l, C (c :: l) → C (l ++ [c])) : ∀ (x y : List α), C (x ++ y) → C (y ++ x)
  | [], y, hc => by simpa using hc
  | c :: x, y, hc => by
    have h1 := h c (x ++ y) hc
    rw [List.append_assoc] at h1
    have h2 := rot_ind C h x (y ++ [c]) h1
    simpa using h2
theorem around_rot {a b : List Pt'} (hb : b ≠ []) : aroundB a b = true ↔ Rot a b := by
  unfold aroundB
  rw [List.any_eq_true]
  constructor
  · rintro ⟨j, _, h⟩
    rw [decide_eq_true_eq] at h
    exact ⟨b.drop j, b.take j, h, by simp⟩
  · rintro ⟨x, y, h1, h2⟩
    by_cases hx : x = []
    · refine ⟨0, ?_, ?_⟩
      · rw [List.mem_range'_1]
        have := List.length_pos_iff.2 hb
        omega
      · subst hx
        simp only [List.append_nil, List.nil_append] at h1 h2
        rw [decide_eq_true_eq, h1, h2]
        unfold rot; simp
    · refine ⟨y.length, ?_, ?_⟩
      · rw [List.mem_range'_1, h2, List.length_append]
        have := List.length_pos_iff.2 hx
        omega
      · rw [decide_eq_true_eq, h1, h2]
        unfold rot; simp
/-! one step -/
def nx (n i : Nat) : Nat := if i + 1 = n then 0 else i + 1
theorem nx_mod {n i : Nat} (h : i < n) : (i + 1) % n = nx n i := by
  unfold nx
  by_cases e : i + 1 = n
  · rw [if_pos e, e, Nat.mod_self]
  · rw [if_neg e, Nat.mod_eq_of_lt (by omega)]
theorem nx2_mod {n i : Nat} (h : i < n) (h2 : 2 ≤ n) : (i + 2) % n = nx n (nx n i) := by
  unfold nx
  by_cases e : i + 1 = n
  · rw [if_pos e, if_neg (by omega), show i + 2 = n + 1 by omega, Nat.add_mod_left, Nat.mod_eq_of_lt (by omega)]
  · rw [if_neg e]
    by_cases e2 : i + 1 + 1 = n
    · rw [if_pos e2, show i + 2 = n by omega, Nat.mod_self]
    · rw [if_neg e2, Nat.mod_eq_of_lt (by omega)]
theorem nx_lt {n i : Nat} (h : i < n) : nx n i < n := by unfold nx; split <;> omega
theorem pt_step (c : Pt') (l : List Pt') {i : Nat} (hi : i < l.length + 1) : pt (l ++ [c]) i = pt (c :: l) (nx (l.length + 1) i) := by
  unfold pt nx
  by_cases e : i + 1 = l.length + 1
  · have : i = l.length := by omega
    subst this
    rw [if_pos rfl]; simp
  · rw [if_neg e, List.getD_cons_succ, List.getD_eq_getElem?_getD, List.getD_eq_getElem?_getD, List.getElem?_append_left (by omega)]
theorem touch_symm (a b c d : Pt') : touchB a b c d = touchB c d a b := by
  unfold touchB crossB
  rw [Bool.and_comm]
  cases onB a b c <;> cases onB a b d <;> cases onB c d a <;> cases onB c d b <;> rfl
/-- no corner is bad, told without an order of the edges -/
structure Ok (p : List Pt') (n : Nat) : Prop where
  one : ∀ i, i < n → (eqP (pt p i) (pt p (nx n i)) || (onB (pt p i) (pt p (nx n i)) (pt p (nx n (nx n i))) || onB (pt p (nx n i)) (pt p (nx n (nx n i))) (pt p i))) = false
  two : ∀ i j, i < n → j < n → i ≠ j → nx n i ≠ j → nx n j ≠ i → touchB (pt p i) (pt p (nx n i)) (pt p j) (pt p (nx n j)) = false
theorem ok_iff {p : List Pt'} {n : Nat} (hn : 2 ≤ n) : ((List.range' 0 n).any (bad p n)) = false ↔ Ok p n := by
  rw [List.any_eq_false]
  constructor
  · intro h
    have h1 : ∀ i, i < n → bad p n i = false := fun i hi => by have := h i (by simpa using hi); simpa using this
    have hlt : ∀ i j, i < j → j < n → nx n i ≠ j → nx n j ≠ i → touchB (pt p i) (pt p (nx n i)) (pt p j) (pt p (nx n j)) = false := by
      intro i j hij hj h3 h4
      have h2 := h1 i (by omega)
      unfold bad at h2
      rw [Bool.or_eq_false_iff, List.any_eq_false] at h2
      have hne : j ≠ i + 1 := by
        intro e
        apply h3
        unfold nx
        rw [if_neg (by omega), e]
      have h5 := h2.2 j (by rw [List.mem_range'_1]; omega)
      unfold badI at h5
      rw [nx_mod hj, nx_mod (show i < n by omega), bne_iff_ne.2 h4, Bool.true_and] at h5
      simpa using h5
    constructor
    · intro i hi
      have h2 := h1 i hi
      unfold bad at h2
      rw [Bool.or_eq_false_iff, nx_mod hi, nx2_mod hi hn] at h2
      exact h2.1
    · intro i j hi hj h2 h3 h4
      rcases Nat.lt_or_gt_of_ne h2 with h5 | h5
      · exact hlt i j h5 hj h3 h4
      · rw [touch_symm]
        exact hlt j i h5 hi h4 h3
  · intro h i hi
    have hi' : i < n := by simpa using hi
    have h1 := h.one i hi'
    unfold bad
    rw [nx_mod hi', nx2_mod hi' hn, h1, Bool.false_or, Bool.not_eq_true, List.any_eq_false]
    intro j hj
    rw [List.mem_range'_1] at hj
    unfold badI
    rw [nx_mod (show j < n by omega), nx_mod hi']
    by_cases e : nx n j = i
    · rw [e]; simp
    · have hne : nx n i ≠ j := by
        unfold nx; split <;> omega
      rw [h.two i j hi' (by omega) (by omega) hne e]; simp
theorem ok_step {c : Pt'} {l : List Pt'} (h : Ok (c :: l) (l.length + 1)) : Ok (l ++ [c]) (l.length + 1) := by
  have inj : ∀ i j, i < l.length + 1 → j < l.length + 1 → nx (l.length + 1) i = nx (l.length + 1) j → i = j := by
    intro i j hi hj
    unfold nx
    split <;> split <;> omega
  constructor
  · intro i hi
    rw [pt_step c l hi, pt_step c l (nx_lt hi), pt_step c l (nx_lt (nx_lt hi))]
    exact h.one _ (nx_lt hi)
  · intro i j hi hj h1 h2 h3
    rw [pt_step c l hi, pt_step c l (nx_lt hi), pt_step c l hj, pt_step c l (nx_lt hj)]
    exact h.two _ _ (nx_lt hi) (nx_lt hj) (fun e => h1 (inj _ _ hi hj e)) (fun e => h2 (inj _ _ (nx_lt hi) hj e)) (fun e => h3 (inj _ _ (nx_lt hj) hi e))
/-! the area -/
theorem sum_from (f : Nat → Int) : ∀ (d i : Nat) (s : Int), (List.range' i d).foldl (fun s i => s + f i) s = s + (List.range' i d).foldl (fun s i => s + f i) 0
  | 0, _, s => by simp
  | d + 1, i, s => by
    simp only [List.range'_succ, List.foldl_cons]
    rw [sum_from f d (i + 1) (s + f i), sum_from f d (i + 1) (0 + f i)]
    omega
theorem sum_congr {f g : Nat → Int} : ∀ (d i : Nat) (s : Int), (∀ j, i ≤ j → j < i + d → f j = g j) → (List.range' i d).foldl (fun s i => s + f i) s = (List.range' i d).foldl (fun s i => s + g i) s
  | 0, _, s, _ => rfl
  | d + 1, i, s, h => by
    simp only [List.range'_succ, List.foldl_cons]
    rw [h i (by omega) (by omega)]
    exact sum_congr d (i + 1) _ (fun j h1 h2 => h j (by omega) (by omega))
theorem sum_shift (f : Nat → Int) : ∀ (d i : Nat) (s : Int), (List.range' (i + 1) d).foldl (fun s i => s + f i) s = (List.range' i d).foldl (fun s i => s + f (i + 1)) s
  | 0, _, s => rfl
  | d + 1, i, s => by
    simp only [List.range'_succ, List.foldl_cons]
    exact sum_shift f d (i + 1) _
theorem area_step2 (c : Pt') (l : List Pt') : area (l ++ [c]) = area (c :: l) := by
  unfold area
  have e1 : (l ++ [c]).length = l.length + 1 := by simp
  have e2 : (c :: l).length = l.length + 1 := rfl
  rw [e1, e2]
  generalize hg : term (c :: l) (l.length + 1) = g
  have h1 : ∀ i, i < l.length + 1 → term (l ++ [c]) (l.length + 1) i = g (nx (l.length + 1) i) := by
    intro i hi
    rw [← hg]
    unfold term
    rw [nx_mod hi, nx_mod (nx_lt hi), pt_step c l hi, pt_step c l (nx_lt hi)]
  rw [sum_congr (g := fun i => g (nx (l.length + 1) i)) _ _ _ (fun j _ h => h1 j (by omega))]
  have e3 : List.range' 0 (l.length + 1) = List.range' 0 l.length ++ [l.length] := by
    have := List.range'_concat (s := 0) (n := l.length) (step := 1)
    simpa using this
  have e4 : nx (l.length + 1) l.length = 0 := by unfold nx; rw [if_pos rfl]
  have hL : (List.range' 0 (l.length + 1)).foldl (fun s i => s + g (nx (l.length + 1) i)) 0 = (List.range' 0 l.length).foldl (fun s i => s + g (i + 1)) 0 + g 0 := by
    rw [e3, List.foldl_append, List.foldl_cons, List.foldl_nil, e4]
    rw [sum_congr (f := fun i => g (nx (l.length + 1) i)) (g := fun i => g (i + 1)) _ _ _ (fun j _ h => by unfold nx; rw [if_neg (by omega)])]
  have hR : (List.range' 0 (l.length + 1)).foldl (fun s i => s + g i) 0 = g 0 + (List.range' 0 l.length).foldl (fun s i => s + g (i + 1)) 0 := by
    rw [List.range'_succ, List.foldl_cons, sum_shift g, sum_from (fun i => g (i + 1)), Int.zero_add]
  rw [hL, hR, Int.add_comm]
theorem poly_step {c : Pt'} {l : List Pt'} (h : polyB (c :: l) = true) : polyB (l ++ [c]) = true := by
  have e1 : (l ++ [c]).length = l.length + 1 := by simp
  have e2 : (c :: l).length = l.length + 1 := rfl
  unfold polyB at h ⊢
  rw [e1, area_step2]
  rw [e2] at h
  simp only [Bool.and_eq_true, decide_eq_true_eq, Bool.not_eq_true'] at h ⊢
  obtain ⟨h1, h2, h3, h4, h5⟩ := h
  refine ⟨h1, h2, ?_, ?_, h5⟩
  · simpa [and_comm] using h3
  · exact (ok_iff (by omega)).2 (ok_step ((ok_iff (by omega)).1 h4))
theorem poly_rot {a b : List Pt'} (h : Rot a b) (ha : polyB a = true) : polyB b = true := by
  obtain ⟨x, y, rfl, rfl⟩ := h
  exact rot_ind (fun p => polyB p = true) (fun c l => poly_step) x y ha
theorem same_rot {a b : List Pt'} (ha : polyB a = true) : sameB a b = true ↔ Rot a b := by
  unfold sameB
  rw [ha, Bool.true_and, Bool.and_eq_true]
  constructor
  · rintro ⟨hb, h⟩
    refine (around_rot ?_).1 h
    intro e
    have := (poly_facts hb).1
    rw [e] at this
    simp at this
  · intro h
    have hb := poly_rot h ha
    refine ⟨hb, (around_rot ?_).2 h⟩
    intro e
    have := (poly_facts hb).1
    rw [e] at this
    simp at this
end Go.Proofs.YtmklecafnhdnmaaGreatV
end

section
/- A turn taken four times is no turn; the two questions are one; no condition. -/
namespace Go.Proofs.YtmklecafnhdnmaaGreatV
open Go Go.RowKit
theorem four_law {α : Type} (S : α → α → Prop) (tr : ∀ {a b c}, S a b → S b c → S a c) (sy : ∀ {a b}, S a b → S b a) (T : α → α) (hT : ∀ {a b}, S a b → S (T a) (T b)) (n : Nat) (x : Nat → α) (h4 : ∀ i, i < n → S (T (T (T (T (x i))))) (x i)) :
    (∀ i, i < n → ∃ j, j < n ∧ S (x i) (T (x j))) ↔ ∀ j, j < n → ∃ i, i < n ∧ S (x i) (T (x j)) := by
  constructor
  · intro h j hj
    obtain ⟨a, ha, h1⟩ := h j hj
    obtain ⟨b, hb, h2⟩ := h a ha
    obtain ⟨c, hc, h3⟩ := h b hb
    exact ⟨c, hc, sy (tr (hT (tr h1 (hT (tr h2 (hT h3))))) (h4 c hc))⟩
  · intro h i hi
    obtain ⟨a, ha, h1⟩ := h i hi
    obtain ⟨b, hb, h2⟩ := h a ha
    obtain ⟨c, hc, h3⟩ := h b hb
    exact ⟨c, hc, sy (tr (hT (tr h3 (hT (tr h2 (hT h1))))) (h4 i hi))⟩
/-! lists -/
def turnL {α : Type} (t : Nat) (l : List α) : List α := if 4 ≤ t then l.take 1 ++ (l.drop 1).reverse else l
theorem turnL_map {α β : Type} (t : Nat) (f : α → β) (l : List α) : turnL t (l.map f) = (turnL t l).map f := by
  unfold turnL
  split
  · simp
  · rfl
theorem turnL_two {α : Type} (t : Nat) (l : List α) : turnL t (turnL t l) = l := by
  unfold turnL
  split
  · cases l with
    | nil => rfl
    | cons a l => simp
  · rfl
theorem turnL_rot {α : Type} (t : Nat) {a b : List α} (h : Rot a b) : Rot (turnL t a) (turnL t b) := by
  unfold turnL
  split
  · have h1 : ∀ l : List α, Rot (l.take 1 ++ (l.drop 1).reverse) l.reverse := by
      intro l
      cases l with
      | nil => exact Rot.refl _
      | cons c l => exact ⟨[c], l.reverse, by simp, by simp⟩
    exact ((h1 a).trans h.rev).trans (h1 b).symm
  · exact h
theorem turnL_mem {α : Type} {t : Nat} {l : List α} {x : α} (h : x ∈ turnL t l) : x ∈ l := by
  unfold turnL at h
  split at h
  · rw [List.mem_append, List.mem_reverse] at h
    rcases h with h | h
    · exact List.mem_of_mem_take h
    · exact List.mem_of_mem_drop h
  · exact h
theorem turnR_L (t : Nat) (r : List Int) : turnR t r = turnL t r := rfl
/-! points and grains -/
theorem cases8 {t : Nat} (h : t < 8) : t = 0 ∨ t = 1 ∨ t = 2 ∨ t = 3 ∨ t = 4 ∨ t = 5 ∨ t = 6 ∨ t = 7 := by omega
theorem fpt4 {t : Nat} (ht : t < 8) {W H : Int} (hw : 0 ≤ W) (hh : 0 ≤ H) (hd : t % 2 = 1 → H = W) (p : Pt') : fpt t W H (fpt t W H (fpt t W H (fpt t W H p))) = p := by
  have m1 : mn 0 W = 0 := by unfold mn; split <;> omega
  have m2 : mn 0 H = 0 := by unfold mn; split <;> omega
  have m3 : mn 0 (-W) = -W := by unfold mn; split <;> omega
  have m4 : mn 0 (-H) = -H := by unfold mn; split <;> omega
  rcases cases8 ht with rfl | rfl | rfl | rfl | rfl | rfl | rfl | rfl
  all_goals (first | (have hd' := hd rfl; subst hd') | skip)
  all_goals (apply Prod.ext <;> simp [fpt, turnP, rotI, m1, m2, m3, m4] <;> omega)
theorem turnG_bd {t : Nat} (g : Int) : 0 ≤ turnG t g ∧ turnG t g ≤ 179 := by unfold turnG; split <;> omega
theorem turnG4 {t : Nat} (ht : t < 8) {g : Int} (h0 : 0 ≤ g) (h1 : g ≤ 179) : turnG t (turnG t (turnG t (turnG t g))) = g := by
  rcases cases8 ht with rfl | rfl | rfl | rfl | rfl | rfl | rfl | rfl
  all_goals (simp [turnG]; omega)
/-! a face of a picture: its veneer and its polygon -/
def tr1 (t : Nat) (W H : Int) (x : Vn × List Pt') : Vn × List Pt' := (fvn t x.1, turnL t (x.2.map (fpt t W H)))
def eqR (x y : Vn × List Pt') : Prop := x.1 = y.1 ∧ Rot x.2 y.2
theorem eqR_tr1 (t : Nat) (W H : Int) {x y : Vn × List Pt'} (h : eqR x y) : eqR (tr1 t W H x) (tr1 t W H y) := by
  refine ⟨?_, turnL_rot t (h.2.map _)⟩
  unfold tr1; simp only; rw [h.1]
theorem tr1_four {t : Nat} (ht : t < 8) {W H : Int} (hw : 0 ≤ W) (hh : 0 ≤ H) (hd : t % 2 = 1 → H = W) {x : Vn × List Pt'} (h0 : 0 ≤ x.1.2.2) (h1 : x.1.2.2 ≤ 179) : tr1 t W H (tr1 t W H (tr1 t W H (tr1 t W H x))) = x := by
  unfold tr1
  simp only
  apply Prod.ext
  · unfold fvn
    simp only [turnG4 ht h0 h1]
  · simp only [turnL_map, turnL_two, List.map_map]
    conv => rhs; rw [← List.map_id x.2]
    apply List.map_congr_left
    intro p _
    exact fpt4 ht hw hh hd p
section
variable {W H : Int} {P : List Pt'} {F : List Fc} {V : List Vn}
theorem fc_map {t i : Nat} (hi : i < F.length) : fc (F.map (frf t)) i = frf t (fc F i) := by
  unfold fc
  rw [List.getD_eq_getElem?_getD, List.getD_eq_getElem?_getD, List.getElem?_map, List.getElem?_eq_getElem hi]; rfl
theorem vn_map {t i : Nat} (hi : i < V.length) : vn (V.map (fvn t)) i = fvn t (vn V i) := by
  unfold vn
  rw [List.getD_eq_getElem?_getD, List.getD_eq_getElem?_getD, List.getElem?_map, List.getElem?_eq_getElem hi]; rfl
theorem ringB_turn {t : Nat} {f : Pt' → Pt'} {r : List Int} (h : ringB P r = true) : ringB (P.map f) (turnR t r) = true := by
  unfold ringB at h ⊢
  rw [List.all_eq_true] at h ⊢
  intro x hx
  rw [List.length_map]
  exact h x (turnL_mem (by rw [← turnR_L]; exact hx))
theorem poly_map {f : Pt' → Pt'} {r : List Int} (h : ringB P r = true) : poly (P.map f) r = (poly P r).map f := by
  unfold poly
  rw [List.map_map]
  apply List.map_congr_left
  intro x hx
  unfold ringB at h
  rw [List.all_eq_true] at h
  obtain ⟨j, rfl, hj⟩ := in_nat (h x hx)
  simp only [Function.comp, Int.toNat_natCast]
  unfold pt
  rw [List.getD_eq_getElem?_getD, List.getD_eq_getElem?_getD, List.getElem?_map, List.getElem?_eq_getElem hj]; rfl
theorem ringB_turnR {t : Nat} {r : List Int} (h : ringB P r = true) : ringB P (turnR t r) = true := by
  unfold ringB at h ⊢
  rw [List.all_eq_true] at h ⊢
  intro x hx
  exact h x (turnL_mem (by rw [← turnR_L]; exact hx))
theorem poly_turn {t : Nat} {f : Pt' → Pt'} {r : List Int} (h : ringB P r = true) : poly (P.map f) (turnR t r) = turnL t ((poly P r).map f) := by
  rw [poly_map (ringB_turnR h), turnL_map, turnR_L]
  unfold poly
  rw [turnL_map]
theorem fine_of (hv : Valid W H P F V) : Fine P F V := by
  have h1 := hv.np
  have h2 := hv.nf
  exact ⟨by omega, by omega, fun f hf => ⟨by have := ring_len (hv.f f hf).2; omega, (hv.f f hf).1⟩, hv.v⟩
theorem fine_trn (hv : Valid W H P F V) (t : Nat) : Fine (P.map (fpt t W H)) (F.map (frf t)) (V.map (fvn t)) := by
  have h1 := hv.np
  have h2 := hv.nf
  refine ⟨by rw [List.length_map]; omega, by rw [List.length_map]; omega, fun f hf => ?_, by rw [List.length_map, List.length_map]; exact hv.v⟩
  obtain ⟨g, hg, rfl⟩ := List.mem_map.1 hf
  have h3 := ring_len (hv.f g hg).2
  refine ⟨?_, ringB_turn (hv.f g hg).1⟩
  unfold frf turnR
  simp only
  split
  · simp; omega
  · omega
/-- the i-th face -/
def itm (P : List Pt') (F : List Fc) (V : List Vn) (i : Nat) : Vn × List Pt' := (vn V i, poly P (fc F i).2)
theorem sm_iff (hv : Valid W H P F V) (t : Nat) {i j : Nat} (hi : i < V.length) (hj : j < V.length) : sm P F V (P.map (fpt t W H)) (F.map (frf t)) (V.map (fvn t)) i j = true ↔ eqR (itm P F V i) (tr1 t W H (itm P F V j)) := by
  have hiF : i < F.length := by rw [← hv.v]; exact hi
  have hjF : j < F.length := by rw [← hv.v]; exact hj
  unfold sm
  rw [fc_map hjF, vn_map hj]
  unfold frf
  simp only
  rw [poly_turn (hv.f _ (fc_mem hjF)).1, Bool.and_eq_true, vEq_iff, same_rot (hv.f _ (fc_mem hiF)).2]
  rfl
theorem like_same (hv : Valid W H P F V) {t : Nat} (ht : t < 8) :
    likeI W H P F V (trn t W H P F V).1 (trn t W H P F V).2.1 (trn t W H P F V).2.2.1 (trn t W H P F V).2.2.2.1 (trn t W H P F V).2.2.2.2 = likeB W H P F V (trn t W H P F V).1 (trn t W H P F V).2.1 (trn t W H P F V).2.2.1 (trn t W H P F V).2.2.2.1 (trn t W H P F V).2.2.2.2 := by
  unfold trn likeI likeB
  simp only
  have hw := hv.w
  have hh := hv.h
  by_cases hd : t % 2 = 1 → H = W
  · have e1 : (if t % 2 = 1 then H else W) = W := by
      split
      · exact hd (by assumption)
      · rfl
    have e2 : (if t % 2 = 1 then W else H) = H := by
      split
      · exact (hd (by assumption)).symm
      · rfl
    rw [e1, e2]
    simp only [beq_self_eq_true, bne_self_eq_false, Bool.not_false, Bool.true_and, List.length_map]
    have h := four_law eqR (fun {a b c} h h' => ⟨h.1.trans h'.1, h.2.trans h'.2⟩) (fun {a b} h => ⟨h.1.symm, h.2.symm⟩) (tr1 t W H) (fun h => eqR_tr1 t W H h) V.length (itm P F V) (fun i hi => by
      have hg := hv.g _ (show vn V i ∈ V from getD_mem hi)
      rw [tr1_four ht (by omega) (by omega) hd hg.1 hg.2]
      exact ⟨rfl, Rot.refl _⟩)
    rw [Bool.eq_iff_iff, List.all_eq_true, Bool.not_eq_true', List.any_eq_false]
    have hI : (∀ x ∈ List.range' 0 V.length, ((List.range' 0 V.length).any fun i => sm P F V (P.map (fpt t W H)) (F.map (frf t)) (V.map (fvn t)) i x) = true) ↔ ∀ j, j < V.length → ∃ i, i < V.length ∧ eqR (itm P F V i) (tr1 t W H (itm P F V j)) := by
      constructor
      · intro h1 j hj
        obtain ⟨i, hi, h2⟩ := List.any_eq_true.1 (h1 j (by simpa using hj))
        have hi' : i < V.length := by simpa using hi
        exact ⟨i, hi', (sm_iff hv t hi' hj).1 h2⟩
      · intro h1 j hj
        have hj' : j < V.length := by simpa using hj
        obtain ⟨i, hi, h2⟩ := h1 j hj'
        exact List.any_eq_true.2 ⟨i, by simpa using hi, (sm_iff hv t hi hj').2 h2⟩
    have hS : (∀ x ∈ List.range' 0 V.length, ¬ (!((List.range' 0 V.length).any (sm P F V (P.map (fpt t W H)) (F.map (frf t)) (V.map (fvn t)) x))) = true) ↔ ∀ i, i < V.length → ∃ j, j < V.length ∧ eqR (itm P F V i) (tr1 t W H (itm P F V j)) := by
      constructor
      · intro h1 i hi
        have h3 := h1 i (by simpa using hi)
        rw [Bool.not_eq_true', Bool.not_eq_false] at h3
        obtain ⟨j, hj, h2⟩ := List.any_eq_true.1 h3
        have hj' : j < V.length := by simpa using hj
        exact ⟨j, hj', (sm_iff hv t hi hj').1 h2⟩
      · intro h1 i hi
        have hi' : i < V.length := by simpa using hi
        obtain ⟨j, hj, h2⟩ := h1 i hi'
        rw [Bool.not_eq_true', Bool.not_eq_false]
        exact List.any_eq_true.2 ⟨j, by simpa using hj, (sm_iff hv t hi' hj).2 h2⟩
    rw [hI, hS]
    exact h.symm
  · have ho : t % 2 = 1 := Classical.byContradiction fun h => hd fun h' => absurd h' h
    have hne : H ≠ W := fun e => hd fun _ => e
    rw [if_pos ho, if_pos ho, beq_eq_false_iff_ne.2 hne, bne_iff_ne.2 (Ne.symm hne)]
    rfl
end
end Go.Proofs.YtmklecafnhdnmaaGreatV
end

section
/- The list of a picture's symmetric turns: program and reference; no condition. -/
namespace Go.Proofs.YtmklecafnhdnmaaGreatV
open Go Go.RowKit
section
variable {k : Nat} {W H : Int} {P : List Pt'} {F : List Fc} {V : List Vn}
/-- is the turned picture like the picture? -/
def okT (W H : Int) (P : List Pt') (F : List Fc) (V : List Vn) (t : Nat) : Bool := likeB W H P F V (trn t W H P F V).1 (trn t W H P F V).2.1 (trn t W H P F V).2.2.1 (trn t W H P F V).2.2.2.1 (trn t W H P F V).2.2.2.2
def stepT (W H : Int) (P : List Pt') (F : List Fc) (V : List Vn) (s : List Int) (t : Nat) : List Int := bif okT W H P F V t then s ++ [(t : Int)] else s
def turnsL (W H : Int) (P : List Pt') (F : List Fc) (V : List Vn) : List Int := (List.range' 0 8).foldl (stepT W H P F V) []
theorem stepT_len (s : List Int) (t : Nat) : (stepT W H P F V s t).length ≤ s.length + 1 := by
  unfold stepT
  cases okT W H P F V t <;> simp
theorem fold_len : ∀ (d i : Nat) (s : List Int), ((List.range' i d).foldl (stepT W H P F V) s).length ≤ s.length + d
  | 0, _, s => by simp
  | d + 1, i, s => by
    simp only [List.range'_succ, List.foldl_cons]
    have h1 := fold_len d (i + 1) (stepT W H P F V s i)
    have h2 := stepT_len (W := W) (H := H) (P := P) (F := F) (V := V) s i
    omega
theorem turnsL_len : (turnsL W H P F V).length ≤ 8 := by
  have := fold_len (W := W) (H := H) (P := P) (F := F) (V := V) 8 0 []
  simpa [turnsL] using this
theorem spec5 (hs : Small P F V) (hp : picB W H P F V = true) (hk : 1048577 < k) : spec_PictureTurns_5 k k (0, W, H, P, F, V, []) = some (turnsL W H P F V) := by
  have hv := valid_of hp
  have h := runF (fun g t s => spec_PictureTurns_5 k g ((t : Int), W, H, P, F, V, s)) 8 (fun t s => stepT W H P F V s t) id (fun t s => s.length ≤ t)
    (fun g s _ => rfl)
    (fun g t s ht hl => by
      have hlk : spec_l18Like k (W, H, P, F, V, (trn t W H P F V).1, (trn t W H P F V).2.1, (trn t W H P F V).2.2.1, (trn t W H P F V).2.2.2.1, (trn t W H P F V).2.2.2.2) = _ := like_eq W H (trn t W H P F V).1 (trn t W H P F V).2.1 (fine_of hv) (fine_trn hv t) hk
      simp only [spec_PictureTurns_5]
      rw [decide_eq_true (show (t : Int) < 8 by omega)]
      simp only [cond_true, turnPicture_spec hs hp t ht hk, Option.bind_some, hlk, w64_s ht (show 8 ≤ 1000000000000 by decide)]
      rw [decide_eq_true (show (s.length + ((t : Int) :: ([] : List Int)).length) * 8 ≤ 140737488355328 by simp only [List.length_singleton]; omega)]
      unfold stepT okT
      cases likeB W H P F V (trn t W H P F V).1 (trn t W H P F V).2.1 (trn t W H P F V).2.2.1 (trn t W H P F V).2.2.2.1 (trn t W H P F V).2.2.2.2 <;> rfl)
    (fun t s _ hl => by
      have := stepT_len (W := W) (H := H) (P := P) (F := F) (V := V) s t
      omega) 8 k 0 [] (by omega) (by omega) (by simp)
  simp only [z0, id] at h
  exact h
theorem impl5 (hs : Small P F V) (hp : picB W H P F V = true) (hk : 1048577 < k) : impl_PictureTurns_5 k k (0, W, H, P, F, V, []) = some (turnsL W H P F V) := by
  have hv := valid_of hp
  have h := runF (fun g t s => impl_PictureTurns_5 k g ((t : Int), W, H, P, F, V, s)) 8 (fun t s => stepT W H P F V s t) id (fun t s => s.length ≤ t)
    (fun g s _ => rfl)
    (fun g t s ht hl => by
      have hVU : V.length = (V.map (fvn t)).length := by simp
      have hsame := like_same hv ht
      have h10 : ∀ good, impl_PictureTurns_10 k k ((t : Int), good, 0, (t : Int), W, H, P, F, V, s, (trn t W H P F V).1, (trn t W H P F V).2.1, (trn t W H P F V).2.2.1, (trn t W H P F V).2.2.2.1, (trn t W H P F V).2.2.2.2) = _ := fun good => turns10 (k := k) (t : Int) (t : Int) W H (trn t W H P F V).1 (trn t W H P F V).2.1 s good (fine_of hv) (fine_trn hv t) hVU hk
      simp only [impl_PictureTurns_5]
      rw [decide_eq_true (show (t : Int) < 8 by omega)]
      simp only [cond_true, turnPicture_impl hs hp t ht hk, Option.bind_some, w64_s ht (show 8 ≤ 1000000000000 by decide), h10]
      rw [decide_eq_true (show (s.length + ((t : Int) :: ([] : List Int)).length) * 8 ≤ 140737488355328 by simp only [List.length_singleton]; omega)]
      unfold stepT okT
      rw [← hsame]
      unfold likeI
      simp only [Bool.false_and]
      cases (trn t W H P F V).1 == W with
      | false => rfl
      | true =>
        simp only [cond_true, Bool.true_and]
        generalize ((trn t W H P F V).2.1 == H && (List.range' 0 V.length).all fun j => (List.range' 0 V.length).any fun i => sm P F V (trn t W H P F V).2.2.1 (trn t W H P F V).2.2.2.1 (trn t W H P F V).2.2.2.2 i j) = b
        cases b <;> rfl)
    (fun t s _ hl => by
      have := stepT_len (W := W) (H := H) (P := P) (F := F) (V := V) s t
      omega) 8 k 0 [] (by omega) (by omega) (by simp)
  simp only [z0, id] at h
  exact h
/-- the answer -/
def ansT (W H : Int) (P : List Pt') (F : List Fc) (V : List Vn) : List Int × Int := bif picB W H P F V then (turnsL W H P F V, 0) else ([], 1)
theorem ansT_len : (ansT W H P F V).1.length ≤ 8 := by
  unfold ansT
  cases picB W H P F V with
  | true => exact turnsL_len
  | false => simp
theorem turns_spec (hs : Small P F V) (hk : 1048577 < k) : spec_PictureTurns k (W, H, P, F, V) = some (ansT W H P F V) := by
  unfold spec_PictureTurns ansT
  simp only [pic_spec W H hs hk, Option.bind_some]
  cases hp : picB W H P F V with
  | true =>
    simp only [Bool.not_true, cond_false, spec5 hs hp hk, Option.bind_some]; rfl
  | false => rfl
theorem turns_impl (hs : Small P F V) (hk : 1048577 < k) : impl_PictureTurns k (W, H, P, F, V) = some (ansT W H P F V) := by
  unfold impl_PictureTurns ansT
  simp only [pic_impl W H hs hk, Option.bind_some]
  cases hp : picB W H P F V with
  | true =>
    simp only [Bool.not_true, cond_false, impl5 hs hp hk, Option.bind_some]; rfl
  | false => rfl
theorem law_eq (hp : P.length ≤ 9223372036854775807) (hf : F.length ≤ 9223372036854775807) (hf2 : ∀ f ∈ F, f.1.size ≤ 9223372036854775807 ∧ f.2.length ≤ 9223372036854775807) (hv : V.length ≤ 9223372036854775807) (hv2 : ∀ f ∈ V, f.1.size ≤ 9223372036854775807) (hk : 1048577 < k) : laws_FnExactPictureTurns k (W, H, P, F, V) = some true := by
  unfold laws_FnExactPictureTurns
  simp only
  obtain ⟨y, hy, hs'⟩ := szPicture_ok (k := k) W H P F V hp hf hf2 hv hv2 hk
  rw [hy]
  simp only [Option.bind_some]
  by_cases h0 : y < 0
  · rw [decide_eq_true h0]; rfl
  · rw [decide_eq_false h0]
    have hs := hs' (by omega)
    have hl := ansT_len (W := W) (H := H) (P := P) (F := F) (V := V)
    obtain ⟨m, a, b, c, hm, hm0⟩ := markPicture_ok (k := k) W H hs hk
    simp only [cond_false, toPicture_eq W H hs hk, Option.bind_some, turns_spec hs hk, turns_impl hs hk]
    rw [eqInt64S_self _ (by omega) hk]
    simp only [Option.bind_some, Bool.not_true, cond_false, bne_self_eq_false, eqPicture_self W H hs hk, hm]
    rw [decide_eq_false (show ¬ m < 0 by omega), markInt64S_eq _ 1 (by omega) (by omega) (by omega) hk]
    simp only [Option.bind_some, cond_false, heldInt64S_eq _ (show (ansT W H P F V).1.length ≤ 1048576 by omega) hk, bne_self_eq_false]
    rw [decide_eq_false (show ¬ (1 : Int) + ((ansT W H P F V).1.length : Int) < 0 by omega)]
    rfl
end
end Go.Proofs.YtmklecafnhdnmaaGreatV
end

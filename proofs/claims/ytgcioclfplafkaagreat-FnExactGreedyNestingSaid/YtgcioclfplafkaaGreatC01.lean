/- Numbers, copies, marks, polygons; no condition. -/
import Derived.Test.YtgcioclfplafkaaGreatB01
import Derived.Laws.BitsLemmas
set_option linter.all false
section
namespace Go.Proofs.YtgcioclfplafkaaGreatV
open Go Go.RowKit
abbrev Pt' := Int × Int
abbrev Fc := ByteArray × List Int
abbrev Vn := ByteArray × Int × Int
theorem w64_id {x : Int} (h0 : -9223372036854775808 ≤ x) (h1 : x ≤ 9223372036854775807) : w64 x = x := by
 unfold w64; rw [IntKind.wrap_i64]; omega
theorem w64_s {i n : Nat} (h : i < n) (hn : n ≤ 1000000000000) : w64 ((i : Int) + 1) = ((i + 1 : Nat) : Int) := by
 rw [w64_id (by omega) (by omega)]; omega
theorem dlt {i n : Nat} (h : i < n) : decide ((i : Int) < (n : Int)) = true := decide_eq_true (by omega)
theorem dge {i n : Nat} (h : n ≤ i) : decide ((i : Int) < (n : Int)) = false := decide_eq_false (by omega)
theorem d0 (i : Nat) : decide ((0 : Int) ≤ (i : Int)) = true := decide_eq_true (by omega)
theorem rd_nat (r : CT) (xs : List (El r)) (i : Nat) : rd r xs (i : Int) = xs.getD i (dflt r) := by unfold rd; rw [Int.toNat_natCast]
def runR {σ ρ : Type} (body : Nat → σ → σ ⊕ ρ) (out : σ → ρ) : Nat → Nat → σ → ρ
 | 0, _, s => out s
 | d + 1, i, s => match body i s with | .inl s' => runR body out d (i + 1) s' | .inr r => r
theorem run {σ ρ : Type} (L : Nat → Nat → σ → Option ρ) (n : Nat) (body : Nat → σ → σ ⊕ ρ) (out : σ → ρ) (inv : Nat → σ → Prop) (hd : ∀ g s, inv n s → L (g + 1) n s = some (out s))
  (hs : ∀ g i s, i < n → inv i s → L (g + 1) i s = match body i s with | .inl s' => L g (i + 1) s' | .inr r => some r) (hi : ∀ i s s', i < n → inv i s → body i s = .inl s' → inv (i + 1) s') :
  ∀ d g i s, i + d = n → d < g → inv i s → L g i s = some (runR body out d i s)
 | 0, g + 1, i, s, h, _, hv => by
  have : i = n := by omega
  subst this
  rw [hd g s hv]; rfl
 | d + 1, g + 1, i, s, h, hg, hv => by
  rw [hs g i s (by omega) hv]
  unfold runR
  cases hb : body i s with
  | inl s' => exact run L n body out inv hd hs hi d g (i + 1) s' (by omega) (by omega) (hi i s s' (by omega) hv hb)
  | inr r => rfl
 | d, 0, _, _, _, hg, _ => by omega
theorem runF {σ ρ : Type} (L : Nat → Nat → σ → Option ρ) (n : Nat) (f : Nat → σ → σ) (out : σ → ρ) (inv : Nat → σ → Prop) (hd : ∀ g s, inv n s → L (g + 1) n s = some (out s))
  (hs : ∀ g i s, i < n → inv i s → L (g + 1) i s = L g (i + 1) (f i s)) (hi : ∀ i s, i < n → inv i s → inv (i + 1) (f i s)) :
  ∀ d g i s, i + d = n → d < g → inv i s → L g i s = some (out ((List.range' i d).foldl (fun s i => f i s) s)) := by
 intro d
 induction d with
 | zero =>
  intro g i s h hg hv
  cases g with
  | zero => omega
  | succ g =>
   have : i = n := by omega
   subst this
   rw [hd g s hv]; rfl
 | succ d ih =>
  intro g i s h hg hv
  cases g with
  | zero => omega
  | succ g =>
   rw [hs g i s (by omega) hv, ih g (i + 1) (f i s) (by omega) (by omega) (hi i s (by omega) hv)]
   rfl
theorem runS {ρ : Type} (L : Nat → Nat → Option ρ) (n : Nat) (P : Nat → Bool) (stop : Nat → ρ) (fin : ρ) (hd : ∀ g, L (g + 1) n = some fin) (hs : ∀ g i, i < n → L (g + 1) i = bif P i then some (stop i) else L g (i + 1)) :
  ∀ d g i, i + d = n → d < g → L g i = some (match (List.range' i d).find? P with | some j => stop j | none => fin) := by
 intro d
 induction d with
 | zero =>
  intro g i h hg
  cases g with
  | zero => omega
  | succ g =>
   have : i = n := by omega
   subst this
   rw [hd g]; rfl
 | succ d ih =>
  intro g i h hg
  cases g with
  | zero => omega
  | succ g =>
   rw [hs g i (by omega)]
   simp only [List.range'_succ, List.find?_cons]
   cases hP : P i with
   | true => rfl
   | false => simp only [cond_false]; exact ih g (i + 1) (by omega) (by omega)
theorem find_any {P : Nat → Bool} {ρ : Type} (l : List Nat) (a b : ρ) : (match l.find? P with | some _ => a | none => b) = bif l.any P then a else b := by
 induction l with
 | nil => rfl
 | cons x l ih =>
  simp only [List.find?_cons, List.any_cons]
  cases P x with
  | true => rfl
  | false => simpa using ih
theorem any_f (l : List Nat) : (l.any fun _ => false) = false := by induction l <;> simp_all
theorem set_fold {α : Type} (d : α) (xs : List α) : ∀ (n i : Nat) (ys : List α), ys.length = xs.length → i + n = xs.length → (∀ j, j < i → ys.getD j d = xs.getD j d) → (List.range' i n).foldl (fun s i => s.set i (xs.getD i d)) ys = xs
 | 0, i, ys, h, hi, hj => by
  simp only [List.range'_zero, List.foldl_nil]
  apply List.ext_getElem (by omega)
  intro k h1 h2
  have := hj k (by omega)
  rw [List.getD_eq_getElem?_getD, List.getD_eq_getElem?_getD, List.getElem?_eq_getElem h1, List.getElem?_eq_getElem h2] at this
  simpa using this
 | n + 1, i, ys, h, hi, hj => by
  simp only [List.range'_succ, List.foldl_cons]
  refine set_fold d xs n (i + 1) _ (by simpa using h) (by omega) (fun j hji => ?_)
  rw [List.getD_eq_getElem?_getD, List.getElem?_set]
  by_cases e : i = j
  ·subst e
   rw [if_pos rfl, if_pos (by omega)]; rfl
  ·rw [if_neg e, ← List.getD_eq_getElem?_getD]
   exact hj j (by omega)
theorem z0 : ((0 : Nat) : Int) = 0 := rfl
section
variable {k : Nat}
theorem toPointS_eq (xs : List Pt') (hl : xs.length ≤ 1048576) (hk : 1048577 < k) : laws_toPointS k xs = some xs := by
 have h := runF (fun g i s => laws_toPointS_3 k g (xs, (i : Int), s)) xs.length (fun i s => s.set i (xs.getD i (0, 0))) id (fun i s => s.length = xs.length) (fun g s hv => by simp only [laws_toPointS_3, dge (Nat.le_refl _), cond_false]; rfl)
  (fun g i s hi hv => by simp only [laws_toPointS_3, laws_toPoint, dlt hi, d0, hv, cond_true, Option.bind_some, rd_nat, w64_s hi (by omega), Int.toNat_natCast]; rfl) (fun i s hi hv => by simpa using hv) xs.length k 0 (List.replicate xs.length (0, 0)) (by omega) (by omega) (by simp)
 rw [set_fold (0, 0) xs xs.length 0 _ (by simp) (by omega) (fun j hj => by omega)] at h
 have e : (dflt (.pair (.int .i64) (.int .i64))) = ((0, 0) : Pt') := rfl
 unfold laws_toPointS
 simp only [Int.toNat_natCast]
 rw [decide_eq_true (by omega), decide_eq_true (by omega), decide_eq_true (by omega), e]
 simp only [cond_true]
 simp only [z0, id] at h
 rw [h]; rfl
theorem toInt64S_eq (xs : List Int) (hl : xs.length ≤ 1048576) (hk : 1048577 < k) : laws_toInt64S k xs = some xs := by
 have h := runF (fun g i s => laws_toInt64S_3 k g (xs, (i : Int), s)) xs.length (fun i s => s.set i (xs.getD i 0)) id (fun i s => s.length = xs.length) (fun g s hv => by simp only [laws_toInt64S_3, dge (Nat.le_refl _), cond_false]; rfl)
  (fun g i s hi hv => by simp only [laws_toInt64S_3, dlt hi, d0, hv, cond_true, Option.bind_some, rd_nat, w64_s hi (by omega), Int.toNat_natCast]; rfl) (fun i s hi hv => by simpa using hv) xs.length k 0 (List.replicate xs.length 0) (by omega) (by omega) (by simp)
 rw [set_fold 0 xs xs.length 0 _ (by simp) (by omega) (fun j hj => by omega)] at h
 have e : (dflt (.int .i64)) = (0 : Int) := rfl
 unfold laws_toInt64S
 simp only [Int.toNat_natCast]
 rw [decide_eq_true (by omega), decide_eq_true (by omega), decide_eq_true (by omega), e]
 simp only [cond_true]
 simp only [z0, id] at h
 rw [h]; rfl
theorem getD_mem {α : Type} {xs : List α} {i : Nat} {d : α} (h : i < xs.length) : xs.getD i d ∈ xs := by
 rw [List.getD_eq_getElem?_getD, List.getElem?_eq_getElem h]; exact List.getElem_mem h
theorem toFaceS_eq (xs : List Fc) (hl : xs.length ≤ 1048576) (hr : ∀ f ∈ xs, f.2.length ≤ 1048576) (hk : 1048577 < k) : laws_toFaceS k xs = some xs := by
 have e : (dflt (.pair .str (.sl (.int .i64)))) = ((ByteArray.empty, []) : Fc) := rfl
 have h := runF (fun g i s => laws_toFaceS_3 k g (xs, (i : Int), s)) xs.length (fun i s => s.set i (xs.getD i (ByteArray.empty, []))) id (fun i s => s.length = xs.length) (fun g s hv => by simp only [laws_toFaceS_3, dge (Nat.le_refl _), cond_false]; rfl)
  (fun g i s hi hv => by
   simp only [laws_toFaceS_3, laws_toFace, dlt hi, d0, hv, cond_true, rd_nat, e]
   rw [toInt64S_eq _ (hr _ (getD_mem hi)) hk]
   simp only [Option.bind_some, w64_s hi (by omega), Int.toNat_natCast]) (fun i s hi hv => by simpa using hv) xs.length k 0 (List.replicate xs.length (ByteArray.empty, [])) (by omega) (by omega) (by simp)
 rw [set_fold (ByteArray.empty, []) xs xs.length 0 _ (by simp) (by omega) (fun j hj => by omega)] at h
 unfold laws_toFaceS
 simp only [Int.toNat_natCast]
 rw [decide_eq_true (by omega), decide_eq_true (by omega), decide_eq_true (by omega), e]
 simp only [cond_true]
 simp only [z0, id] at h
 rw [h]; rfl
theorem toVeneerS_eq (xs : List Vn) (hl : xs.length ≤ 1048576) (hk : 1048577 < k) : laws_toVeneerS k xs = some xs := by
 have e : (dflt (.pair .str (.pair (.int .i64) (.int .i64)))) = ((ByteArray.empty, 0, 0) : Vn) := rfl
 have h := runF (fun g i s => laws_toVeneerS_3 k g (xs, (i : Int), s)) xs.length (fun i s => s.set i (xs.getD i (ByteArray.empty, 0, 0))) id (fun i s => s.length = xs.length) (fun g s hv => by simp only [laws_toVeneerS_3, dge (Nat.le_refl _), cond_false]; rfl)
  (fun g i s hi hv => by simp only [laws_toVeneerS_3, laws_toVeneer, dlt hi, d0, hv, cond_true, Option.bind_some, rd_nat, e, w64_s hi (by omega), Int.toNat_natCast]) (fun i s hi hv => by simpa using hv) xs.length k 0 (List.replicate xs.length (ByteArray.empty, 0, 0)) (by omega) (by omega) (by simp)
 rw [set_fold (ByteArray.empty, 0, 0) xs xs.length 0 _ (by simp) (by omega) (fun j hj => by omega)] at h
 unfold laws_toVeneerS
 simp only [Int.toNat_natCast]
 rw [decide_eq_true (by omega), decide_eq_true (by omega), decide_eq_true (by omega), e]
 simp only [cond_true]
 simp only [z0, id] at h
 rw [h]; rfl
structure Small (P : List Pt') (F : List Fc) (V : List Vn) : Prop where
 p : P.length ≤ 1048576
 f : F.length ≤ 1048576
 r : ∀ x ∈ F, x.2.length ≤ 1048576
 v : V.length ≤ 1048576
theorem toPicture_eq (W H : Int) {P : List Pt'} {F : List Fc} {V : List Vn} (hs : Small P F V) (hk : 1048577 < k) : laws_toPicture k (W, H, P, F, V) = some (W, H, P, F, V) := by
 unfold laws_toPicture laws_toDrawing
 simp only [toPointS_eq P hs.p hk, toFaceS_eq F hs.f hs.r hk, toVeneerS_eq V hs.v hk, Option.bind_some]
theorem eqInt64S_self (xs : List Int) (hl : xs.length ≤ 1048576) (hk : 1048577 < k) : laws_eqInt64S k (xs, xs) = some true := by
 have h := runS (fun g i => laws_eqInt64S_4 k g (xs, xs, (i : Int))) xs.length (fun _ => false) (fun _ => .inr false) (.inl ()) (fun g => by simp only [laws_eqInt64S_4, dge (Nat.le_refl _), cond_false])
  (fun g i hi => by simp only [laws_eqInt64S_4, dlt hi, d0, cond_true, bne_self_eq_false, cond_false, w64_s hi (by omega)]) xs.length k 0 (by omega) (by omega)
 rw [find_any, any_f, cond_false] at h
 unfold laws_eqInt64S
 simp only [z0] at h
 simp only [bne_self_eq_false, cond_false]
 rw [h]
 rfl
theorem eqPointS_self (xs : List Pt') (hl : xs.length ≤ 1048576) (hk : 1048577 < k) : laws_eqPointS k (xs, xs) = some true := by
 have h := runS (fun g i => laws_eqPointS_4 k g (xs, xs, (i : Int))) xs.length (fun _ => false) (fun _ => .inr false) (.inl ()) (fun g => by simp only [laws_eqPointS_4, dge (Nat.le_refl _), cond_false])
  (fun g i hi => by simp only [laws_eqPointS_4, laws_eqPoint, dlt hi, d0, cond_true, bne_self_eq_false, cond_false, w64_s hi (by omega), Option.bind_some, Bool.not_true]) xs.length k 0 (by omega) (by omega)
 rw [find_any, any_f, cond_false] at h
 unfold laws_eqPointS
 simp only [z0] at h
 simp only [bne_self_eq_false, cond_false]
 rw [h]
 rfl
theorem eqFaceS_self (xs : List Fc) (hl : xs.length ≤ 1048576) (hr : ∀ f ∈ xs, f.2.length ≤ 1048576) (hk : 1048577 < k) : laws_eqFaceS k (xs, xs) = some true := by
 have h := runS (fun g i => laws_eqFaceS_4 k g (xs, xs, (i : Int))) xs.length (fun _ => false) (fun _ => .inr false) (.inl ()) (fun g => by simp only [laws_eqFaceS_4, dge (Nat.le_refl _), cond_false])
  (fun g i hi => by
   simp only [laws_eqFaceS_4, laws_eqFace, dlt hi, d0, cond_true, beq_self_eq_true, Bool.not_true, cond_false, w64_s hi (by omega), rd_nat]
   rw [eqInt64S_self _ (hr _ (getD_mem hi)) hk]
   simp only [Option.bind_some, Bool.not_true, cond_false]) xs.length k 0 (by omega) (by omega)
 rw [find_any, any_f, cond_false] at h
 unfold laws_eqFaceS
 simp only [z0] at h
 simp only [bne_self_eq_false, cond_false]
 rw [h]
 rfl
theorem eqVeneerS_self (xs : List Vn) (hl : xs.length ≤ 1048576) (hk : 1048577 < k) : laws_eqVeneerS k (xs, xs) = some true := by
 have h := runS (fun g i => laws_eqVeneerS_4 k g (xs, xs, (i : Int))) xs.length (fun _ => false) (fun _ => .inr false) (.inl ()) (fun g => by simp only [laws_eqVeneerS_4, dge (Nat.le_refl _), cond_false])
  (fun g i hi => by simp only [laws_eqVeneerS_4, laws_eqVeneer, dlt hi, d0, cond_true, bne_self_eq_false, beq_self_eq_true, cond_false, w64_s hi (by omega), Option.bind_some, Bool.not_true]) xs.length k 0 (by omega) (by omega)
 rw [find_any, any_f, cond_false] at h
 unfold laws_eqVeneerS
 simp only [z0] at h
 simp only [bne_self_eq_false, cond_false]
 rw [h]
 rfl
theorem eqPicture_self (W H : Int) {P : List Pt'} {F : List Fc} {V : List Vn} (hs : Small P F V) (hk : 1048577 < k) : laws_eqPicture k (W, H, P, F, V, W, H, P, F, V) = some true := by
 unfold laws_eqPicture laws_eqDrawing
 simp only [bne_self_eq_false, cond_false, eqPointS_self P hs.p hk, eqFaceS_self F hs.f hs.r hk, eqVeneerS_self V hs.v hk, Option.bind_some, Bool.not_true]
theorem szPointS_eq (xs : List Pt') (l : Int) (h0 : 0 ≤ l) (h1 : l ≤ 1048576) (hx : xs.length ≤ 9223372036854775807) : laws_szPointS k (xs, l) = some (if l - xs.length < 0 then -1 else l - xs.length) := by
 unfold laws_szPointS
 simp only [w64_id (x := l - xs.length) (by omega) (by omega)]
 by_cases h : l - (xs.length : Int) < 0
 ·rw [decide_eq_true h, if_pos h]; rfl
 ·rw [decide_eq_false h, if_neg h]; rfl
theorem szInt64S_eq (xs : List Int) (l : Int) (h0 : 0 ≤ l) (h1 : l ≤ 1048576) (hx : xs.length ≤ 9223372036854775807) : laws_szInt64S k (xs, l) = some (if l - xs.length < 0 then -1 else l - xs.length) := by
 unfold laws_szInt64S
 simp only [w64_id (x := l - xs.length) (by omega) (by omega)]
 by_cases h : l - (xs.length : Int) < 0
 ·rw [decide_eq_true h, if_pos h]; rfl
 ·rw [decide_eq_false h, if_neg h]; rfl
theorem szFace_ok (f : Fc) (l : Int) (h0 : 0 ≤ l) (h1 : l ≤ 1048576) (hn : f.1.size ≤ 9223372036854775807) (hx : f.2.length ≤ 9223372036854775807) : ∃ y, laws_szFace k (f.1, f.2, l) = some y ∧ y ≤ l ∧ (0 ≤ y → f.2.length ≤ 1048576) := by
 unfold laws_szFace
 simp only [w64_id (x := l - f.1.size) (by omega) (by omega)]
 by_cases h : l - (f.1.size : Int) < 0
 ·rw [decide_eq_true h]; exact ⟨-1, rfl, by omega, by omega⟩
 ·rw [decide_eq_false h]
  simp only [cond_false]
  rw [szInt64S_eq f.2 _ (by omega) (by omega) hx]
  simp only [Option.bind_some]
  by_cases h2 : l - (f.1.size : Int) - f.2.length < 0
  ·rw [if_pos h2]; exact ⟨-1, rfl, by omega, by omega⟩
  ·rw [if_neg h2, decide_eq_false h2]; exact ⟨_, rfl, by omega, by omega⟩
theorem szFaceS_loop (xs : List Fc) (hx : xs.length ≤ 1048576) (hf : ∀ f ∈ xs, f.1.size ≤ 9223372036854775807 ∧ f.2.length ≤ 9223372036854775807) : ∀ (d g i : Nat) (l : Int), i + d = xs.length → d < g → 0 ≤ l → l ≤ 1048576 →
  ∃ r, laws_szFaceS_5 k g (xs, l, (i : Int)) = some r ∧ match r with | .inl y => 0 ≤ y ∧ y ≤ l ∧ ∀ j, i ≤ j → j < xs.length → (xs.getD j (ByteArray.empty, [])).2.length ≤ 1048576 | .inr y => y = -1
 | 0, g + 1, i, l, h, _, h0, h1 => by
  have : i = xs.length := by omega
  subst this
  refine ⟨.inl l, by simp only [laws_szFaceS_5, dge (Nat.le_refl _), cond_false], h0, by omega, fun j hj hj2 => by omega⟩
 | d + 1, g + 1, i, l, h, hg, h0, h1 => by
  have hi : i < xs.length := by omega
  have hm := getD_mem (d := (ByteArray.empty, [])) hi
  obtain ⟨y, hy, hy1, hy2⟩ := szFace_ok (k := k) (xs.getD i (ByteArray.empty, [])) l h0 h1 (hf _ hm).1 (hf _ hm).2
  have e : (dflt (.pair .str (.sl (.int .i64)))) = ((ByteArray.empty, []) : Fc) := rfl
  simp only [laws_szFaceS_5, dlt hi, d0, cond_true, rd_nat, e, hy, Option.bind_some]
  by_cases hn : y < 0
  ·rw [decide_eq_true hn]; exact ⟨.inr (-1), rfl, rfl⟩
  ·rw [decide_eq_false hn]
   simp only [cond_false, w64_s hi (by omega)]
   obtain ⟨r, hr, hr2⟩ := szFaceS_loop xs hx hf d g (i + 1) y (by omega) (by omega) (by omega) (by omega)
   refine ⟨r, hr, ?_⟩
   cases r with
   | inl z =>
    obtain ⟨a, b, c⟩ := hr2
    refine ⟨a, by omega, fun j hj hj2 => ?_⟩
    by_cases e : j = i
    ·subst e; exact hy2 (by omega)
    ·exact c j (by omega) hj2
   | inr z => exact hr2
 | _, 0, _, _, _, hg, _, _ => by omega
theorem szFaceS_ok (xs : List Fc) (l : Int) (h0 : 0 ≤ l) (h1 : l ≤ 1048576) (hx : xs.length ≤ 9223372036854775807) (hf : ∀ f ∈ xs, f.1.size ≤ 9223372036854775807 ∧ f.2.length ≤ 9223372036854775807) (hk : 1048577 < k) :
  ∃ y, laws_szFaceS k (xs, l) = some y ∧ y ≤ l ∧ (0 ≤ y → xs.length ≤ 1048576 ∧ ∀ f ∈ xs, f.2.length ≤ 1048576) := by
 unfold laws_szFaceS
 simp only [w64_id (x := l - xs.length) (by omega) (by omega)]
 by_cases h : l - (xs.length : Int) < 0
 ·rw [decide_eq_true h]; exact ⟨-1, rfl, by omega, by omega⟩
 ·rw [decide_eq_false h]
  simp only [cond_false]
  obtain ⟨r, hr, hr2⟩ := szFaceS_loop (k := k) xs (by omega) hf xs.length k 0 (l - xs.length) (by omega) (by omega) (by omega) (by omega)
  simp only [z0] at hr
  rw [hr]
  cases r with
  | inl y =>
   obtain ⟨a, b, c⟩ := hr2
   refine ⟨y, rfl, by omega, fun _ => ⟨by omega, fun f hf => ?_⟩⟩
   obtain ⟨j, hj, e⟩ := List.getElem_of_mem hf
   have := c j (by omega) hj
   rw [List.getD_eq_getElem?_getD, List.getElem?_eq_getElem hj, Option.getD_some, e] at this
   exact this
  | inr y =>
   have hr2 : y = -1 := hr2
   exact ⟨y, rfl, by omega, by omega⟩
theorem szVeneerS_loop (xs : List Vn) (hx : xs.length ≤ 1048576) (hf : ∀ f ∈ xs, f.1.size ≤ 9223372036854775807) : ∀ (d g i : Nat) (l : Int), i + d = xs.length → d < g → 0 ≤ l → l ≤ 1048576 →
  ∃ r, laws_szVeneerS_5 k g (xs, l, (i : Int)) = some r ∧ match r with | .inl y => y ≤ l | .inr y => y = -1
 | 0, g + 1, i, l, h, _, h0, h1 => by
  have : i = xs.length := by omega
  subst this
  exact ⟨.inl l, by simp only [laws_szVeneerS_5, dge (Nat.le_refl _), cond_false], Int.le_refl _⟩
 | d + 1, g + 1, i, l, h, hg, h0, h1 => by
  have hi : i < xs.length := by omega
  have hm := getD_mem (d := (ByteArray.empty, 0, 0)) hi
  have hsz := hf _ hm
  have e : (dflt (.pair .str (.pair (.int .i64) (.int .i64)))) = ((ByteArray.empty, 0, 0) : Vn) := rfl
  simp only [laws_szVeneerS_5, laws_szVeneer, dlt hi, d0, cond_true, rd_nat, e]
  generalize (xs.getD i (ByteArray.empty, 0, 0)).1 = nm at hsz
  simp only [w64_id (x := l - nm.size) (by omega) (by omega)]
  by_cases hn : l - (nm.size : Int) < 0
  ·rw [decide_eq_true hn]; exact ⟨.inr (-1), rfl, rfl⟩
  ·rw [decide_eq_false hn]
   simp only [cond_false, Option.bind_some]
   rw [decide_eq_false hn]
   simp only [cond_false, w64_s hi (by omega)]
   obtain ⟨r, hr, hr2⟩ := szVeneerS_loop xs hx hf d g (i + 1) (l - nm.size) (by omega) (by omega) (by omega) (by omega)
   refine ⟨r, hr, ?_⟩
   cases r with
   | inl z =>
    have hr2 : z ≤ l - nm.size := hr2
    show z ≤ l
    omega
   | inr z => exact hr2
 | _, 0, _, _, _, hg, _, _ => by omega
theorem szVeneerS_ok (xs : List Vn) (l : Int) (h0 : 0 ≤ l) (h1 : l ≤ 1048576) (hx : xs.length ≤ 9223372036854775807) (hf : ∀ f ∈ xs, f.1.size ≤ 9223372036854775807) (hk : 1048577 < k) :
  ∃ y, laws_szVeneerS k (xs, l) = some y ∧ y ≤ l ∧ (0 ≤ y → xs.length ≤ 1048576) := by
 unfold laws_szVeneerS
 simp only [w64_id (x := l - xs.length) (by omega) (by omega)]
 by_cases h : l - (xs.length : Int) < 0
 ·rw [decide_eq_true h]; exact ⟨-1, rfl, by omega, by omega⟩
 ·rw [decide_eq_false h]
  simp only [cond_false]
  obtain ⟨r, hr, hr2⟩ := szVeneerS_loop (k := k) xs (by omega) hf xs.length k 0 (l - xs.length) (by omega) (by omega) (by omega) (by omega)
  simp only [z0] at hr
  rw [hr]
  cases r with
  | inl y =>
   have hr2 : y ≤ l - xs.length := hr2
   exact ⟨y, rfl, by omega, fun _ => by omega⟩
  | inr y =>
   have hr2 : y = -1 := hr2
   exact ⟨y, rfl, by omega, fun _ => by omega⟩
theorem szPicture_ok (W H : Int) (P : List Pt') (F : List Fc) (V : List Vn) (hp : P.length ≤ 9223372036854775807) (hf : F.length ≤ 9223372036854775807) (hf2 : ∀ f ∈ F, f.1.size ≤ 9223372036854775807 ∧ f.2.length ≤ 9223372036854775807) (hv : V.length ≤ 9223372036854775807) (hv2 : ∀ f ∈ V, f.1.size ≤ 9223372036854775807) (hk : 1048577 < k) :
  ∃ y, laws_szPicture k (W, H, P, F, V, 1048576) = some y ∧ y ≤ 1048576 ∧ (0 ≤ y → Small P F V) := by
 unfold laws_szPicture laws_szDrawing
 simp only
 rw [szPointS_eq P _ (by omega) (by omega) hp]
 simp only [Option.bind_some]
 by_cases h : (1048576 : Int) - P.length < 0
 ·rw [if_pos h]; exact ⟨-1, rfl, by omega, by omega⟩
 ·rw [if_neg h, decide_eq_false h]
  simp only [cond_false]
  obtain ⟨y, hy, hy1, hy2⟩ := szFaceS_ok (k := k) F (1048576 - P.length) (by omega) (by omega) hf hf2 hk
  rw [hy]
  simp only [Option.bind_some]
  by_cases h2 : y < 0
  ·rw [decide_eq_true h2]; exact ⟨-1, rfl, by omega, by omega⟩
  ·rw [decide_eq_false h2]
   simp only [cond_false, Option.bind_some]
   rw [decide_eq_false h2]
   simp only [cond_false]
   obtain ⟨z, hz, hz1, hz2⟩ := szVeneerS_ok (k := k) V y (by omega) (by omega) hv hv2 hk
   rw [hz]
   simp only [Option.bind_some]
   by_cases h3 : z < 0
   ·rw [decide_eq_true h3]; exact ⟨-1, rfl, by omega, by omega⟩
   ·rw [decide_eq_false h3]
    exact ⟨z, rfl, by omega, fun _ => ⟨by omega, (hy2 (by omega)).1, (hy2 (by omega)).2, hz2 (by omega)⟩⟩
end
end Go.Proofs.YtgcioclfplafkaaGreatV
end
section
namespace Go.Proofs.YtgcioclfplafkaaGreatV
open Go Go.RowKit
theorem w64_1 {x : Int} (h0 : 0 ≤ x) (h1 : x ≤ 1000000000000000000) : w64 (x + 1) = x + 1 := w64_id (by omega) (by omega)
section
variable {k : Nat}
theorem set_fold2 (f : Nat → Int) : ∀ (n i : Nat) (ys : List Int), i + n = ys.length → (∀ j, j < i → ys.getD j 0 = f j) → (List.range' i n).foldl (fun s i => s.set i (f i)) ys = (List.range ys.length).map f
 | 0, i, ys, hi, hj => by
  simp only [List.range'_zero, List.foldl_nil]
  apply List.ext_getElem (by simp)
  intro k h1 h2
  have := hj k (by omega)
  rw [List.getD_eq_getElem?_getD, List.getElem?_eq_getElem h1] at this
  simpa using this
 | n + 1, i, ys, hi, hj => by
  simp only [List.range'_succ, List.foldl_cons]
  rw [set_fold2 f n (i + 1) _ (by simp; omega) (fun j hji => ?_)]
  ·rw [List.length_set]
  ·rw [List.getD_eq_getElem?_getD, List.getElem?_set]
   by_cases e : i = j
   ·subst e
    rw [if_pos rfl, if_pos (by omega)]; rfl
   ·rw [if_neg e, ← List.getD_eq_getElem?_getD]
    exact hj j (by omega)
theorem markInt64S_eq (xs : List Int) (c : Int) (h0 : 0 ≤ c) (h1 : c ≤ 100000000000000000) (hl : xs.length ≤ 1048576) (hk : 1048577 < k) : laws_markInt64S k (xs, c) = some (c + xs.length, (List.range xs.length).map fun (i : Nat) => c + (i : Int)) := by
 have h := runF (fun g i s => laws_markInt64S_2 k g (c + (i : Int), (i : Int), s)) xs.length (fun i s => s.set i (c + (i : Int))) (fun s => (c + (xs.length : Int), s)) (fun i s => s.length = xs.length)
  (fun g s hv => by simp only [laws_markInt64S_2, hv, dge (Nat.le_refl _), cond_false])
  (fun g i s hi hv => by
   simp only [laws_markInt64S_2, hv, dlt hi, d0, cond_true, w64_s hi (by omega), Int.toNat_natCast]
   rw [w64_1 (by omega) (by omega)]
   have : c + (i : Int) + 1 = c + ((i + 1 : Nat) : Int) := by omega
   rw [this]) (fun i s hi hv => by simpa using hv) xs.length k 0 xs (by omega) (by omega) rfl
 rw [set_fold2 (fun i => c + (i : Int)) xs.length 0 xs (by omega) (fun j hj => by omega)] at h
 unfold laws_markInt64S
 simp only [z0, Int.add_zero] at h
 simp only [h]
 rfl
theorem markPointS_loop (n : Nat) (hn : n ≤ 1048576) : ∀ (d g i : Nat) (c : Int) (xs : List Pt'), i + d = n → xs.length = n → d < g → 0 ≤ c → c + 2 * d ≤ 100000000000000000 → ∃ ys, laws_markPointS_2 k g (c, (i : Int), xs) = some (c + 2 * d, ys)
 | 0, g + 1, i, c, xs, h, hl, _, h0, h1 => by
  have : i = n := by omega
  subst this
  exact ⟨xs, by simp only [laws_markPointS_2, hl, dge (Nat.le_refl _), cond_false]; simp⟩
 | d + 1, g + 1, i, c, xs, h, hl, hg, h0, h1 => by
  have hi : i < n := by omega
  simp only [laws_markPointS_2, List.length_set, hl, dlt hi, d0, cond_true, w64_s hi (by omega), Int.toNat_natCast]
  rw [w64_1 (x := c) (by omega) (by omega), w64_1 (x := c + 1) (by omega) (by omega)]
  rw [show c + 2 * ((d + 1 : Nat) : Int) = c + 1 + 1 + 2 * (d : Int) by omega]
  exact markPointS_loop n hn d g (i + 1) (c + 1 + 1) _ (by omega) (by rw [List.length_set, List.length_set, hl]) (by omega) (by omega) (by omega)
 | _, 0, _, _, _, _, _, hg, _, _ => by omega
theorem markPointS_ok (xs : List Pt') (c : Int) (h0 : 0 ≤ c) (h1 : c ≤ 10000000000000000) (hl : xs.length ≤ 1048576) (hk : 1048577 < k) : ∃ ys, laws_markPointS k (xs, c) = some (c + 2 * xs.length, ys) := by
 obtain ⟨ys, hy⟩ := markPointS_loop (k := k) xs.length hl xs.length k 0 c xs (by omega) rfl (by omega) h0 (by omega)
 simp only [z0] at hy
 exact ⟨ys, by unfold laws_markPointS; simp only [hy]; rfl⟩
theorem markText_loop : ∀ (d g : Nat) (x : Int) (s : ByteArray), d < g → 0 ≤ x → x ≤ 100000000000000000 → x < 10 ^ d → s.size + d ≤ 1000 → ∃ t, laws_markText_4 k g (x, s) = some t ∧ t.size ≤ 1000
 | 0, g + 1, x, s, _, h0, _, h1, hs => by
  have : x = 0 := by omega
  subst this
  exact ⟨s, rfl, by omega⟩
 | d + 1, g + 1, x, s, hg, h0, hb, h1, hs => by
  simp only [laws_markText_4]
  by_cases hx : x > 0
  ·rw [decide_eq_true hx]
   simp only [cond_true]
   have hdiv : Int.tdiv x 10 = x / 10 := Int.tdiv_eq_ediv_of_nonneg h0
   have hw : w64 (Int.tdiv x 10) = x / 10 := by rw [hdiv]; exact w64_id (by omega) (by omega)
   rw [hw]
   have h1b : ∀ z : Int, (ByteArray.mk (List.toArray (List.map (fun n => (UInt8.ofNat (Int.toNat n))) (z :: [])))).size = 1 := fun _ => rfl
   rw [decide_eq_false (by rw [h1b]; omega)]
   simp only [cond_false]
   refine markText_loop d g (x / 10) _ (by omega) (by omega) (by omega) (by rw [Int.pow_succ] at h1; omega) ?_
   rw [ByteArray.size_append, h1b]
   omega
  ·rw [decide_eq_false hx]; exact ⟨s, rfl, by omega⟩
 | _, 0, _, _, hg, _, _, _, _ => by omega
theorem markText_ok (x : Int) (h0 : 0 ≤ x) (h1 : x ≤ 100000000000000000) (hk : 1048577 < k) : ∃ t, laws_markText k x = some t := by
 unfold laws_markText
 by_cases hx : x ≤ 0
 ·rw [decide_eq_true hx]; exact ⟨_, rfl⟩
 ·rw [decide_eq_false hx]
  simp only [cond_false]
  obtain ⟨t, ht, ht2⟩ := markText_loop (k := k) 18 k x (ByteArray.mk (List.toArray [])) (by omega) h0 h1 (by omega) (by decide)
  rw [ht]
  simp only [Option.bind_some]
  have h1b : (ByteArray.mk (List.toArray ((109 : UInt8) :: []))).size = 1 := rfl
  rw [decide_eq_false (by rw [h1b]; omega)]
  exact ⟨_, rfl⟩
theorem markFaceS_loop (n : Nat) (hn : n ≤ 1048576) (hk : 1048577 < k) : ∀ (d g i : Nat) (c : Int) (xs : List Fc), i + d = n → xs.length = n → (∀ f ∈ xs, f.2.length ≤ 1048576) → d < g → 0 ≤ c → c + 2000000 * d ≤ 10000000000000000 → ∃ y ys, laws_markFaceS_2 k g (c, (i : Int), xs) = some (y, ys) ∧ 0 ≤ y ∧ y ≤ c + 2000000 * d
 | 0, g + 1, i, c, xs, h, hl, _, _, h0, h1 => by
  have : i = n := by omega
  subst this
  exact ⟨c, xs, by simp only [laws_markFaceS_2, hl, dge (Nat.le_refl _), cond_false], h0, by omega⟩
 | d + 1, g + 1, i, c, xs, h, hl, hr, hg, h0, h1 => by
  have hi : i < n := by omega
  obtain ⟨t, ht⟩ := markText_ok (k := k) c h0 (by omega) hk
  have e : (dflt (.pair .str (.sl (.int .i64)))) = ((ByteArray.empty, []) : Fc) := rfl
  simp only [laws_markFaceS_2, List.length_set, hl, dlt hi, d0, cond_true, w64_s hi (by omega), Int.toNat_natCast, ht, Option.bind_some, e]
  rw [w64_1 (x := c) (by omega) (by omega)]
  have hxi : i < xs.length := by omega
  have hg1 : ∀ (l : List Fc) (v : Fc), i < l.length → (l.set i v).getD i (ByteArray.empty, []) = v := fun l v hl => by
   rw [List.getD_eq_getElem?_getD, List.getElem?_set_self hl]; rfl
  rw [hg1 xs _ hxi]
  have hri := hr _ (getD_mem (d := (ByteArray.empty, [])) hxi)
  generalize hring : xs.getD i (ByteArray.empty, []) = f at *
  rw [markInt64S_eq f.2 (c + 1) (by omega) (by omega) hri hk]
  simp only [Option.bind_some]
  refine (markFaceS_loop n hn hk d g (i + 1) (c + 1 + f.2.length) _ (by omega) ?_ ?_ (by omega) (by omega) (by omega)).imp (fun y hy => hy.imp (fun ys hys => ⟨hys.1, hys.2.1, by have := hys.2.2; omega⟩))
  ·rw [List.length_set, List.length_set, hl]
  ·intro f' hf'
   rcases List.mem_or_eq_of_mem_set hf' with h2 | h2
   ·rcases List.mem_or_eq_of_mem_set h2 with h3 | h3
    ·exact hr _ h3
    ·rw [h3]; exact hri
   ·rw [h2]; simpa using hri
 | _, 0, _, _, _, _, _, _, hg, _, _ => by omega
theorem markVeneerS_loop (n : Nat) (hn : n ≤ 1048576) (hk : 1048577 < k) : ∀ (d g i : Nat) (c : Int) (xs : List Vn), i + d = n → xs.length = n → d < g → 0 ≤ c → c + 3 * d ≤ 100000000000000000 → ∃ y ys, laws_markVeneerS_2 k g (c, (i : Int), xs) = some (y, ys) ∧ 0 ≤ y ∧ y ≤ c + 3 * d
 | 0, g + 1, i, c, xs, h, hl, _, h0, h1 => by
  have : i = n := by omega
  subst this
  exact ⟨c, xs, by simp only [laws_markVeneerS_2, hl, dge (Nat.le_refl _), cond_false], h0, by omega⟩
 | d + 1, g + 1, i, c, xs, h, hl, hg, h0, h1 => by
  have hi : i < n := by omega
  obtain ⟨t, ht⟩ := markText_ok (k := k) c h0 (by omega) hk
  simp only [laws_markVeneerS_2, List.length_set, hl, dlt hi, d0, cond_true, w64_s hi (by omega), Int.toNat_natCast, ht, Option.bind_some]
  rw [w64_1 (x := c) (by omega) (by omega), w64_1 (x := c + 1) (by omega) (by omega), w64_1 (x := c + 1 + 1) (by omega) (by omega)]
  exact (markVeneerS_loop n hn hk d g (i + 1) (c + 1 + 1 + 1) _ (by omega) (by rw [List.length_set, List.length_set, List.length_set, hl]) (by omega) (by omega) (by omega)).imp (fun y hy => hy.imp (fun ys hys => ⟨hys.1, hys.2.1, by have := hys.2.2; omega⟩))
 | _, 0, _, _, _, _, _, hg, _, _ => by omega
theorem markPicture_ok (W H : Int) {P : List Pt'} {F : List Fc} {V : List Vn} (hs : Small P F V) (hk : 1048577 < k) : ∃ y a b c, laws_markPicture k (W, H, P, F, V, 1) = some (y, a, b, c) ∧ 0 ≤ y ∧ y ≤ 10000000000000 := by
 unfold laws_markPicture laws_markDrawing
 simp only
 obtain ⟨a, ha⟩ := markPointS_ok (k := k) P 1 (by omega) (by omega) hs.p hk
 rw [ha]
 simp only [Option.bind_some]
 have hp := hs.p
 have hf := hs.f
 obtain ⟨y, b, hb, h0, h1⟩ := markFaceS_loop (k := k) F.length hs.f hk F.length k 0 (1 + 2 * (P.length : Int)) F (by omega) rfl hs.r (by omega) (by omega) (by omega)
 have hb2 : laws_markFaceS k (F, 1 + 2 * (P.length : Int)) = some (y, b) := by
  simp only [z0] at hb
  unfold laws_markFaceS; simp only [hb]; rfl
 rw [hb2]
 simp only [Option.bind_some]
 have hv := hs.v
 obtain ⟨z, c, hc, h2, h3⟩ := markVeneerS_loop (k := k) V.length hs.v hk V.length k 0 y V (by omega) rfl (by omega) h0 (by omega)
 have hc2 : laws_markVeneerS k (V, y) = some (z, c) := by
  simp only [z0] at hc
  unfold laws_markVeneerS; simp only [hc]; rfl
 rw [hc2]
 exact ⟨z, a, b, c, rfl, h2, by omega⟩
end
end Go.Proofs.YtgcioclfplafkaaGreatV
end
section
namespace Go.Proofs.YtgcioclfplafkaaGreatV
open Go Go.RowKit
def cross (a b c : Pt') : Int := (b.1 - a.1) * (c.2 - a.2) - (b.2 - a.2) * (c.1 - a.1)
def sg (x : Int) : Int := if x > 0 then 1 else if x < 0 then -1 else 0
def mn (a b : Int) : Int := if b < a then b else a
def mx (a b : Int) : Int := if b > a then b else a
def okP (p : Pt') : Bool := decide (0 ≤ p.1) && decide (p.1 ≤ 20000) && (decide (0 ≤ p.2) && decide (p.2 ≤ 20000))
def inB (x lo hi : Int) : Bool := decide (x ≥ lo) && decide (x ≤ hi)
def onB (a b p : Pt') : Bool := (sg (cross a b p) == 0) && (inB p.1 (mn a.1 b.1) (mx a.1 b.1) && inB p.2 (mn a.2 b.2) (mx a.2 b.2))
def crossB (a b c d : Pt') : Bool := decide (sg (cross a b c) * sg (cross a b d) < 0) && decide (sg (cross c d a) * sg (cross c d b) < 0)
def touchB (a b c d : Pt') : Bool := crossB a b c d || (onB a b c || (onB a b d || (onB c d a || onB c d b)))
def pt (p : List Pt') (i : Nat) : Pt' := p.getD i (0, 0)
def eqP (a b : Pt') : Bool := (a.1 == b.1) && ((a.2 == b.2) && true)
def badI (p : List Pt') (n i k : Nat) : Bool := ((k + 1) % n != i) && touchB (pt p i) (pt p ((i + 1) % n)) (pt p k) (pt p ((k + 1) % n))
def bad (p : List Pt') (n i : Nat) : Bool := (eqP (pt p i) (pt p ((i + 1) % n)) || (onB (pt p i) (pt p ((i + 1) % n)) (pt p ((i + 2) % n)) || onB (pt p ((i + 1) % n)) (pt p ((i + 2) % n)) (pt p i))) || (List.range' (i + 2) (n - (i + 2))).any (badI p n i)
def term (p : List Pt') (n i : Nat) : Int := (pt p i).1 * (pt p ((i + 1) % n)).2 - (pt p i).2 * (pt p ((i + 1) % n)).1
def area (p : List Pt') : Int := (List.range' 0 p.length).foldl (fun s i => s + term p p.length i) 0
def polyB (p : List Pt') : Bool := decide (3 ≤ p.length) && (decide (p.length ≤ 24) && (p.all okP && (!((List.range' 0 p.length).any (bad p p.length)) && decide (area p > 0))))
theorem mul_bd {x y : Int} (h1 : -20000 ≤ x) (h2 : x ≤ 20000) (h3 : -20000 ≤ y) (h4 : y ≤ 20000) : -400000000 ≤ x * y ∧ x * y ≤ 400000000 := by
 have h := Nat.mul_le_mul (show x.natAbs ≤ 20000 by omega) (show y.natAbs ≤ 20000 by omega)
 rw [← Int.natAbs_mul] at h
 omega
theorem okP_iff {p : Pt'} : okP p = true ↔ (0 ≤ p.1 ∧ p.1 ≤ 20000) ∧ 0 ≤ p.2 ∧ p.2 ≤ 20000 := by
 unfold okP; simp only [Bool.and_eq_true, decide_eq_true_eq]
theorem sg_bd (x : Int) : -1 ≤ sg x ∧ sg x ≤ 1 := by unfold sg; split <;> (try split) <;> omega
section
variable {k : Nat}
theorem within_eq (x lo hi : Int) : impl_within k (x, lo, hi) = some (inB x lo hi) := by
 unfold impl_within inB
 simp only
 cases decide (x ≥ lo) <;> rfl
theorem l00In_eq (x lo hi : Int) : spec_l00In k (x, lo, hi) = some (inB x lo hi) := by
 unfold spec_l00In inB
 simp only
 cases decide (x ≥ lo) <;> rfl
theorem cross_w {a b c : Pt'} (ha : okP a = true) (hb : okP b = true) (hc : okP c = true) : w64 ((w64 ((w64 (b.1 - a.1)) * (w64 (c.2 - a.2)))) - (w64 ((w64 (b.2 - a.2)) * (w64 (c.1 - a.1))))) = cross a b c := by
 rw [okP_iff] at ha hb hc
 have m1 := mul_bd (x := b.1 - a.1) (y := c.2 - a.2) (by omega) (by omega) (by omega) (by omega)
 have m2 := mul_bd (x := b.2 - a.2) (y := c.1 - a.1) (by omega) (by omega) (by omega) (by omega)
 rw [w64_id (x := b.1 - a.1) (by omega) (by omega), w64_id (x := c.2 - a.2) (by omega) (by omega), w64_id (x := b.2 - a.2) (by omega) (by omega), w64_id (x := c.1 - a.1) (by omega) (by omega),
  w64_id (x := (b.1 - a.1) * (c.2 - a.2)) (by omega) (by omega), w64_id (x := (b.2 - a.2) * (c.1 - a.1)) (by omega) (by omega), w64_id (by omega) (by omega)]
 rfl
theorem side_eq {a b c : Pt'} (ha : okP a = true) (hb : okP b = true) (hc : okP c = true) : impl_side k (a.1, a.2, b.1, b.2, c.1, c.2) = some (sg (cross a b c)) := by
 unfold impl_side
 simp only [cross_w ha hb hc]
 unfold sg
 by_cases h : cross a b c > 0
 ·rw [decide_eq_true h, if_pos h]; rfl
 ·rw [decide_eq_false h, if_neg h]
  by_cases h2 : cross a b c < 0
  ·rw [decide_eq_true h2, if_pos h2]; rfl
  ·rw [decide_eq_false h2, if_neg h2]; rfl
theorem l02Side_eq {a b c : Pt'} (ha : okP a = true) (hb : okP b = true) (hc : okP c = true) : spec_l02Side k (a.1, a.2, b.1, b.2, c.1, c.2) = some (sg (cross a b c)) := by
 unfold spec_l02Side spec_l02Cross
 simp only [cross_w ha hb hc, Option.bind_some]
 unfold sg
 by_cases h : cross a b c > 0
 ·rw [decide_eq_true h, if_pos h]; rfl
 ·rw [decide_eq_false h, if_neg h]
  by_cases h2 : cross a b c < 0
  ·rw [decide_eq_true h2, if_pos h2]; rfl
  ·rw [decide_eq_false h2, if_neg h2]; rfl
theorem on_eq {a b c : Pt'} (ha : okP a = true) (hb : okP b = true) (hc : okP c = true) : impl_on k (a.1, a.2, b.1, b.2, c.1, c.2) = some (onB a b c) := by
 unfold impl_on
 simp only [side_eq ha hb hc, Option.bind_some, within_eq]
 unfold onB mn mx
 cases sg (cross a b c) == 0 with
 | false => rfl
 | true =>
  simp only [cond_true, Bool.true_and]
  cases inB c.1 (if b.1 < a.1 then b.1 else a.1) (if b.1 > a.1 then b.1 else a.1) <;> rfl
theorem min_eq (a b : Int) : spec_l00Min k (a, b) = some (mn a b) := by
 unfold spec_l00Min mn
 simp only
 by_cases h : a < b
 ·rw [decide_eq_true h, if_neg (by omega)]; rfl
 ·rw [decide_eq_false h]
  by_cases h2 : b < a
  ·rw [if_pos h2]; rfl
  ·rw [if_neg h2]; have : a = b := by omega
   subst this; rfl
theorem max_eq (a b : Int) : spec_l00Max k (a, b) = some (mx a b) := by
 unfold spec_l00Max mx
 simp only
 by_cases h : a > b
 ·rw [decide_eq_true h, if_neg (by omega)]; rfl
 ·rw [decide_eq_false h]
  by_cases h2 : b > a
  ·rw [if_pos h2]; rfl
  ·rw [if_neg h2]; have : a = b := by omega
   subst this; rfl
theorem l02On_eq {a b c : Pt'} (ha : okP a = true) (hb : okP b = true) (hc : okP c = true) : spec_l02On k (a.1, a.2, b.1, b.2, c.1, c.2) = some (onB a b c) := by
 unfold spec_l02On
 simp only [l02Side_eq ha hb hc, Option.bind_some, min_eq, max_eq, l00In_eq]
 unfold onB
 cases sg (cross a b c) == 0 with
 | false => rfl
 | true =>
  simp only [cond_true, Bool.true_and]
  cases inB c.1 (mn a.1 b.1) (mx a.1 b.1) <;> rfl
theorem sg_w (x y : Int) : w64 (sg x * sg y) = sg x * sg y := by
 have h1 := sg_bd x
 have h2 := sg_bd y
 have := mul_bd (x := sg x) (y := sg y) (by omega) (by omega) (by omega) (by omega)
 exact w64_id (by omega) (by omega)
theorem crossing_eq {a b c d : Pt'} (ha : okP a = true) (hb : okP b = true) (hc : okP c = true) (hd : okP d = true) : impl_crossing k (a.1, a.2, b.1, b.2, c.1, c.2, d.1, d.2) = some (crossB a b c d) := by
 unfold impl_crossing
 simp only [side_eq ha hb hc, side_eq ha hb hd, side_eq hc hd ha, side_eq hc hd hb, Option.bind_some, sg_w]
 unfold crossB
 cases decide (sg (cross a b c) * sg (cross a b d) < 0) <;> rfl
theorem l02Crosses_eq {a b c d : Pt'} (ha : okP a = true) (hb : okP b = true) (hc : okP c = true) (hd : okP d = true) : spec_l02Crosses k (a.1, a.2, b.1, b.2, c.1, c.2, d.1, d.2) = some (crossB a b c d) := by
 unfold spec_l02Crosses
 simp only [l02Side_eq ha hb hc, l02Side_eq ha hb hd, l02Side_eq hc hd ha, l02Side_eq hc hd hb, Option.bind_some, sg_w]
 unfold crossB
 cases decide (sg (cross a b c) * sg (cross a b d) < 0) <;> rfl
theorem touching_eq {a b c d : Pt'} (ha : okP a = true) (hb : okP b = true) (hc : okP c = true) (hd : okP d = true) : impl_touching k (a.1, a.2, b.1, b.2, c.1, c.2, d.1, d.2) = some (touchB a b c d) := by
 unfold impl_touching
 simp only [crossing_eq ha hb hc hd, on_eq ha hb hc, on_eq ha hb hd, on_eq hc hd ha, on_eq hc hd hb, Option.bind_some]
 unfold touchB
 cases crossB a b c d <;> cases onB a b c <;> cases onB a b d <;> cases onB c d a <;> rfl
theorem l03Meet_eq {a b c d : Pt'} (ha : okP a = true) (hb : okP b = true) (hc : okP c = true) (hd : okP d = true) : spec_l03Meet k (a.1, a.2, b.1, b.2, c.1, c.2, d.1, d.2) = some (touchB a b c d) := by
 unfold spec_l03Meet
 simp only [l02Crosses_eq ha hb hc hd, l02On_eq ha hb hc, l02On_eq ha hb hd, l02On_eq hc hd ha, l02On_eq hc hd hb, Option.bind_some]
 unfold touchB
 cases crossB a b c d <;> cases onB a b c <;> cases onB a b d <;> cases onB c d a <;> rfl
theorem validPoint_eq (p : Pt') : impl_ValidPoint k (p.1, p.2) = some (okP p) := by
 unfold impl_ValidPoint
 simp only [within_eq, Option.bind_some]
 unfold okP inB
 cases decide (p.1 ≥ 0) <;> cases decide (p.1 ≤ 20000) <;> rfl
theorem l02Ok_eq (p : Pt') : spec_l02Ok k (p.1, p.2) = some (okP p) := by
 unfold spec_l02Ok
 simp only [l00In_eq, Option.bind_some]
 unfold okP inB
 cases decide (p.1 ≥ 0) <;> cases decide (p.1 ≤ 20000) <;> rfl
end
end Go.Proofs.YtgcioclfplafkaaGreatV
end
section
namespace Go.Proofs.YtgcioclfplafkaaGreatV
open Go Go.RowKit
theorem tm (i n : Nat) : Int.tmod (i : Int) (n : Int) = ((i % n : Nat) : Int) := by
 rw [Int.tmod_eq_emod_of_nonneg (by omega)]; rfl
theorem w64_2 {i n : Nat} (h : i < n) (hn : n ≤ 1000000000000) : w64 ((i : Int) + 2) = ((i + 2 : Nat) : Int) := by
 rw [w64_id (by omega) (by omega)]; omega
theorem bnec (a b : Nat) : ((a : Int) != (b : Int)) = (a != b) := by
 by_cases h : a = b
 ·subst h; simp
 ·have : ¬ ((a : Int) = (b : Int)) := by omega
  rw [bne_iff_ne.2 this, bne_iff_ne.2 h]
theorem deq0 {n : Nat} (h : 0 < n) : decide ((n : Int) = 0) = false := decide_eq_false (by omega)
theorem dfP : dflt (.pair (.int .i64) (.int .i64)) = ((0, 0) : Pt') := rfl
theorem pt_ok {p : List Pt'} (hp : p.all okP = true) {i : Nat} (hi : i < p.length) : okP (pt p i) = true := (List.all_eq_true.1 hp) _ (getD_mem hi)
theorem term_bd {p : List Pt'} (hp : p.all okP = true) {i : Nat} (hi : i < p.length) : -400000000 ≤ (pt p i).1 * (pt p ((i + 1) % p.length)).2 ∧ (pt p i).1 * (pt p ((i + 1) % p.length)).2 ≤ 400000000 ∧ -400000000 ≤ (pt p i).2 * (pt p ((i + 1) % p.length)).1 ∧ (pt p i).2 * (pt p ((i + 1) % p.length)).1 ≤ 400000000 := by
 have h1 := okP_iff.1 (pt_ok hp hi)
 have h2 := okP_iff.1 (pt_ok hp (Nat.mod_lt (i + 1) (show 0 < p.length by omega)))
 have a := mul_bd (x := (pt p i).1) (y := (pt p ((i + 1) % p.length)).2) (by omega) (by omega) (by omega) (by omega)
 have b := mul_bd (x := (pt p i).2) (y := (pt p ((i + 1) % p.length)).1) (by omega) (by omega) (by omega) (by omega)
 exact ⟨a.1, a.2, b.1, b.2⟩
section
variable {k : Nat}
theorem validPoints_eq (p : List Pt') (hl : p.length ≤ 1048576) (hk : 1048577 < k) : impl_validPoints k p = some (p.all okP) := by
 have h := runS (fun g i => impl_validPoints_2 k g (p, (p.length : Int), (i : Int))) p.length (fun i => !okP (pt p i)) (fun _ => .inr false) (.inl ()) (fun g => by simp only [impl_validPoints_2, dge (Nat.le_refl _), cond_false])
  (fun g i hi => by
   simp only [impl_validPoints_2, dlt hi, d0, cond_true, rd_nat, dfP, w64_s hi (by omega)]
   rw [show p.getD i (0, 0) = pt p i from rfl, validPoint_eq]
   simp only [Option.bind_some]) p.length k 0 (by omega) (by omega)
 rw [find_any] at h
 unfold impl_validPoints
 simp only [z0] at h
 simp only [h, Option.bind_some]
 have : ((List.range' 0 p.length).any fun i => !okP (pt p i)) = !(p.all okP) := by
  rw [Bool.eq_iff_iff]
  simp only [List.any_eq_true, Bool.not_eq_true', List.mem_range'_1, Nat.zero_le, Nat.zero_add, true_and]
  constructor
  ·rintro ⟨i, hi, h⟩
   refine Bool.eq_false_iff.2 (fun hall => ?_)
   rw [pt_ok hall hi] at h; cases h
  ·intro h
   rw [List.all_eq_false] at h
   obtain ⟨x, hx, hne⟩ := h
   obtain ⟨i, hi, e⟩ := List.getElem_of_mem hx
   refine ⟨i, hi, ?_⟩
   have : pt p i = x := by unfold pt; rw [List.getD_eq_getElem?_getD, List.getElem?_eq_getElem hi, Option.getD_some, e]
   rw [this]
   simpa using hne
 rw [this]
 cases p.all okP <;> rfl
theorem points5_eq (p : List Pt') (hl : p.length ≤ 1048576) (hk : 1048577 < k) : spec_l03Ok_5 k k (p, (p.length : Int), 0) = some (bif p.all okP then .inl (p, (p.length : Int)) else .inr false) := by
 have h := runS (fun g i => spec_l03Ok_5 k g (p, (p.length : Int), (i : Int))) p.length (fun i => !okP (pt p i)) (fun _ => .inr false) (.inl (p, (p.length : Int))) (fun g => by simp only [spec_l03Ok_5, dge (Nat.le_refl _), cond_false])
  (fun g i hi => by
   simp only [spec_l03Ok_5, dlt hi, d0, cond_true, rd_nat, dfP, w64_s hi (by omega)]
   rw [show p.getD i (0, 0) = pt p i from rfl, l02Ok_eq]
   simp only [Option.bind_some]) p.length k 0 (by omega) (by omega)
 rw [find_any] at h
 simp only [z0] at h
 rw [h]
 have : ((List.range' 0 p.length).any fun i => !okP (pt p i)) = !(p.all okP) := by
  rw [Bool.eq_iff_iff]
  simp only [List.any_eq_true, Bool.not_eq_true', List.mem_range'_1, Nat.zero_le, Nat.zero_add, true_and]
  constructor
  ·rintro ⟨i, hi, h⟩
   refine Bool.eq_false_iff.2 (fun hall => ?_)
   rw [pt_ok hall hi] at h; cases h
  ·intro h
   rw [List.all_eq_false] at h
   obtain ⟨x, hx, hne⟩ := h
   obtain ⟨i, hi, e⟩ := List.getElem_of_mem hx
   refine ⟨i, hi, ?_⟩
   have : pt p i = x := by unfold pt; rw [List.getD_eq_getElem?_getD, List.getElem?_eq_getElem hi, Option.getD_some, e]
   rw [this]
   simpa using hne
 rw [this]
 cases p.all okP <;> rfl
theorem area_step (p : List Pt') (hp : p.all okP = true) {i : Nat} (hi : i < p.length) (s : Int) (hs : -(800000000 * (i : Int)) ≤ s ∧ s ≤ 800000000 * (i : Int)) (hl : p.length ≤ 24) :
  w64 (s + (w64 ((w64 ((pt p i).1 * (pt p ((i + 1) % p.length)).2)) - (w64 ((pt p i).2 * (pt p ((i + 1) % p.length)).1))))) = s + term p p.length i ∧ (-(800000000 * ((i + 1 : Nat) : Int)) ≤ s + term p p.length i ∧ s + term p p.length i ≤ 800000000 * ((i + 1 : Nat) : Int)) := by
 have h := term_bd hp hi
 unfold term
 rw [w64_id (x := (pt p i).1 * (pt p ((i + 1) % p.length)).2) (by omega) (by omega), w64_id (x := (pt p i).2 * (pt p ((i + 1) % p.length)).1) (by omega) (by omega), w64_id (x := _ - _) (by omega) (by omega), w64_id (by omega) (by omega)]
 exact ⟨rfl, by omega, by omega⟩
theorem doubled_eq (p : List Pt') (hp : p.all okP = true) (hl : p.length ≤ 24) (hk : 1048577 < k) : impl_doubled k p = some (area p) := by
 have h := runF (fun g i s => impl_doubled_3 k g (p, s, p, (p.length : Int), (i : Int))) p.length (fun i s => s + term p p.length i) id (fun i s => -(800000000 * (i : Int)) ≤ s ∧ s ≤ 800000000 * (i : Int))
  (fun g s hv => by simp only [impl_doubled_3, dge (Nat.le_refl _), cond_false]; rfl)
  (fun g i s hi hv => by
   have hm := Nat.mod_lt (i + 1) (show 0 < p.length by omega)
   simp only [impl_doubled_3, dlt hi, d0, cond_true, w64_s hi (by omega), deq0 (show 0 < p.length by omega), cond_false, tm, dlt hm, rd_nat, dfP]
   have := (area_step p hp hi s hv hl).1
   unfold pt at this
   rw [this]) (fun i s hi hv => (area_step p hp hi s hv hl).2) p.length k 0 0 (by omega) (by omega) (by simp)
 unfold impl_doubled
 simp only [z0] at h
 simp only [h]
 rfl
theorem l03Area_eq (p : List Pt') (hp : p.all okP = true) (hl : p.length ≤ 24) (hk : 1048577 < k) : spec_l03Area k p = some (area p) := by
 have h := runF (fun g i s => spec_l03Area_3 k g (p, s, (i : Int))) p.length (fun i s => s + term p p.length i) id (fun i s => -(800000000 * (i : Int)) ≤ s ∧ s ≤ 800000000 * (i : Int))
  (fun g s hv => by simp only [spec_l03Area_3, dge (Nat.le_refl _), cond_false]; rfl)
  (fun g i s hi hv => by
   have hm := Nat.mod_lt (i + 1) (show 0 < p.length by omega)
   simp only [spec_l03Area_3, dlt hi, d0, cond_true, w64_s hi (by omega), deq0 (show 0 < p.length by omega), cond_false, tm, dlt hm, rd_nat, dfP]
   have := (area_step p hp hi s hv hl).1
   unfold pt at this
   rw [this]) (fun i s hi hv => (area_step p hp hi s hv hl).2) p.length k 0 0 (by omega) (by omega) (by simp)
 unfold spec_l03Area
 simp only [z0] at h
 simp only [h]
 rfl
theorem inner_spec (p : List Pt') (hp : p.all okP = true) (hl : p.length ≤ 24) (hk : 1048577 < k) {i : Nat} (hi : i < p.length) :
  spec_l03Ok_18 k k (p, (p.length : Int), (i : Int), ((i + 2 : Nat) : Int), (pt p i).1, (pt p i).2, (pt p ((i + 1) % p.length)).1, (pt p ((i + 1) % p.length)).2) = some (bif (List.range' (i + 2) (p.length - (i + 2))).any (badI p p.length i) then .inr false else .inl (p, (p.length : Int), (i : Int))) := by
 by_cases hb : p.length ≤ i + 2
 ·have : p.length - (i + 2) = 0 := by omega
  rw [this]
  cases k with
  | zero => omega
  | succ k => simp only [spec_l03Ok_18, dge hb, cond_false]; rfl
 ·have h := runS (fun g j => spec_l03Ok_18 k g (p, (p.length : Int), (i : Int), (j : Int), (pt p i).1, (pt p i).2, (pt p ((i + 1) % p.length)).1, (pt p ((i + 1) % p.length)).2)) p.length (badI p p.length i) (fun _ => .inr false) (.inl (p, (p.length : Int), (i : Int)))
   (fun g => by simp only [spec_l03Ok_18, dge (Nat.le_refl _), cond_false])
   (fun g j hj => by
    have hm := Nat.mod_lt (j + 1) (show 0 < p.length by omega)
    have hm1 := Nat.mod_lt (i + 1) (show 0 < p.length by omega)
    simp only [spec_l03Ok_18, dlt hj, d0, cond_true, w64_s hj (by omega), deq0 (show 0 < p.length by omega), cond_false, tm, dlt hm, rd_nat, dfP, bnec]
    rw [show p.getD j (0, 0) = pt p j from rfl, show p.getD ((j + 1) % p.length) (0, 0) = pt p ((j + 1) % p.length) from rfl, l03Meet_eq (pt_ok hp hi) (pt_ok hp hm1) (pt_ok hp hj) (pt_ok hp hm)]
    simp only [Option.bind_some]
    unfold badI
    cases (j + 1) % p.length != i with
    | true => simp only [cond_true, Option.bind_some, Bool.true_and]
    | false => rfl) (p.length - (i + 2)) k (i + 2) (by omega) (by omega)
  rw [find_any] at h
  exact h
theorem inner_impl (p : List Pt') (hp : p.all okP = true) (hl : p.length ≤ 24) (hk : 1048577 < k) {i : Nat} (hi : i < p.length) (u v : Int) :
  impl_ValidPolygon_11 k k (p, (p.length : Int), (i : Int), ((i + 2 : Nat) : Int), u, v, (pt p i).1, (pt p i).2, (pt p ((i + 1) % p.length)).1, (pt p ((i + 1) % p.length)).2) = some (bif (List.range' (i + 2) (p.length - (i + 2))).any (badI p p.length i) then .inr false else .inl (p, (p.length : Int), u, v)) := by
 by_cases hb : p.length ≤ i + 2
 ·have : p.length - (i + 2) = 0 := by omega
  rw [this]
  cases k with
  | zero => omega
  | succ k => simp only [impl_ValidPolygon_11, dge hb, cond_false]; rfl
 ·have h := runS (fun g j => impl_ValidPolygon_11 k g (p, (p.length : Int), (i : Int), (j : Int), u, v, (pt p i).1, (pt p i).2, (pt p ((i + 1) % p.length)).1, (pt p ((i + 1) % p.length)).2)) p.length (badI p p.length i) (fun _ => .inr false) (.inl (p, (p.length : Int), u, v))
   (fun g => by simp only [impl_ValidPolygon_11, dge (Nat.le_refl _), cond_false])
   (fun g j hj => by
    have hm := Nat.mod_lt (j + 1) (show 0 < p.length by omega)
    have hm1 := Nat.mod_lt (i + 1) (show 0 < p.length by omega)
    simp only [impl_ValidPolygon_11, dlt hj, d0, cond_true, w64_s hj (by omega), deq0 (show 0 < p.length by omega), cond_false, tm, dlt hm, rd_nat, dfP, bnec]
    rw [show p.getD j (0, 0) = pt p j from rfl, show p.getD ((j + 1) % p.length) (0, 0) = pt p ((j + 1) % p.length) from rfl, touching_eq (pt_ok hp hi) (pt_ok hp hm1) (pt_ok hp hj) (pt_ok hp hm)]
    simp only [Option.bind_some]
    unfold badI
    cases (j + 1) % p.length != i with
    | true => simp only [cond_true, Option.bind_some, Bool.true_and]
    | false => rfl) (p.length - (i + 2)) k (i + 2) (by omega) (by omega)
  rw [find_any] at h
  exact h
theorem outer_spec (p : List Pt') (hp : p.all okP = true) (hl : p.length ≤ 24) (hk : 1048577 < k) : spec_l03Ok_10 k k (p, (p.length : Int), 0) = some (bif (List.range' 0 p.length).any (bad p p.length) then .inr false else .inl p) := by
 have h := runS (fun g i => spec_l03Ok_10 k g (p, (p.length : Int), (i : Int))) p.length (bad p p.length) (fun _ => .inr false) (.inl p) (fun g => by simp only [spec_l03Ok_10, dge (Nat.le_refl _), cond_false])
  (fun g i hi => by
   have hm1 := Nat.mod_lt (i + 1) (show 0 < p.length by omega)
   have hm2 := Nat.mod_lt (i + 2) (show 0 < p.length by omega)
   simp only [spec_l03Ok_10, dlt hi, d0, cond_true, w64_s hi (by omega), w64_2 hi (by omega), deq0 (show 0 < p.length by omega), cond_false, tm, dlt hm1, dlt hm2, rd_nat, dfP]
   rw [show p.getD i (0, 0) = pt p i from rfl, show p.getD ((i + 1) % p.length) (0, 0) = pt p ((i + 1) % p.length) from rfl, show p.getD ((i + 2) % p.length) (0, 0) = pt p ((i + 2) % p.length) from rfl,
    l02On_eq (pt_ok hp hi) (pt_ok hp hm1) (pt_ok hp hm2), l02On_eq (pt_ok hp hm1) (pt_ok hp hm2) (pt_ok hp hi), inner_spec p hp hl hk hi]
   simp only [Option.bind_some]
   unfold bad eqP
   cases ((pt p i).1 == (pt p ((i + 1) % p.length)).1) && (((pt p i).2 == (pt p ((i + 1) % p.length)).2) && true) with
   | true => rfl
   | false =>
    cases onB (pt p i) (pt p ((i + 1) % p.length)) (pt p ((i + 2) % p.length)) with
    | true => rfl
    | false =>
     cases onB (pt p ((i + 1) % p.length)) (pt p ((i + 2) % p.length)) (pt p i) with
     | true => rfl
     | false =>
      simp only [cond_false, Option.bind_some, Bool.false_or]
      cases (List.range' (i + 2) (p.length - (i + 2))).any (badI p p.length i) with
      | true => rfl
      | false => simp only [cond_false, w64_s hi (show p.length ≤ 1000000000000 by omega)]) p.length k 0 (by omega) (by omega)
 rw [find_any] at h
 simp only [z0] at h
 exact h
theorem outer_impl (p : List Pt') (hp : p.all okP = true) (hl : p.length ≤ 24) (hk : 1048577 < k) : impl_ValidPolygon_5 k k (p, (p.length : Int), (p.length : Int), 0) = some (bif (List.range' 0 p.length).any (bad p p.length) then .inr false else .inl p) := by
 have h := runS (fun g i => impl_ValidPolygon_5 k g (p, (p.length : Int), (p.length : Int), (i : Int))) p.length (bad p p.length) (fun _ => .inr false) (.inl p) (fun g => by simp only [impl_ValidPolygon_5, dge (Nat.le_refl _), cond_false])
  (fun g i hi => by
   have hm1 := Nat.mod_lt (i + 1) (show 0 < p.length by omega)
   have hm2 := Nat.mod_lt (i + 2) (show 0 < p.length by omega)
   simp only [impl_ValidPolygon_5, dlt hi, d0, cond_true, w64_s hi (by omega), w64_2 hi (by omega), deq0 (show 0 < p.length by omega), cond_false, tm, dlt hm1, dlt hm2, rd_nat, dfP]
   rw [show p.getD i (0, 0) = pt p i from rfl, show p.getD ((i + 1) % p.length) (0, 0) = pt p ((i + 1) % p.length) from rfl, show p.getD ((i + 2) % p.length) (0, 0) = pt p ((i + 2) % p.length) from rfl,
    on_eq (pt_ok hp hi) (pt_ok hp hm1) (pt_ok hp hm2), on_eq (pt_ok hp hm1) (pt_ok hp hm2) (pt_ok hp hi), inner_impl p hp hl hk hi]
   simp only [Option.bind_some]
   unfold bad eqP
   cases ((pt p i).1 == (pt p ((i + 1) % p.length)).1) && (((pt p i).2 == (pt p ((i + 1) % p.length)).2) && true) with
   | true => rfl
   | false =>
    cases onB (pt p i) (pt p ((i + 1) % p.length)) (pt p ((i + 2) % p.length)) with
    | true => rfl
    | false =>
     cases onB (pt p ((i + 1) % p.length)) (pt p ((i + 2) % p.length)) (pt p i) with
     | true => rfl
     | false =>
      simp only [cond_false, Option.bind_some, Bool.false_or]
      cases (List.range' (i + 2) (p.length - (i + 2))).any (badI p p.length i) with
      | true => rfl
      | false => simp only [cond_false, w64_s hi (show p.length ≤ 1000000000000 by omega)]) p.length k 0 (by omega) (by omega)
 rw [find_any] at h
 simp only [z0] at h
 exact h
theorem l03Ok_eq (p : List Pt') (hl : p.length ≤ 1048576) (hk : 1048577 < k) : spec_l03Ok k p = some (polyB p) := by
 unfold spec_l03Ok polyB
 by_cases h3 : 3 ≤ p.length
 ·rw [decide_eq_false (show ¬ (p.length : Int) < 3 by omega), decide_eq_true h3]
  by_cases h24 : p.length ≤ 24
  ·rw [decide_eq_false (show ¬ (p.length : Int) > 24 by omega), decide_eq_true h24]
   simp only [cond_false, Option.bind_some, points5_eq p hl hk, Bool.true_and]
   cases hp : p.all okP with
   | false => rfl
   | true =>
    simp only [cond_true, outer_spec p hp h24 hk, Option.bind_some, Bool.true_and]
    cases (List.range' 0 p.length).any (bad p p.length) with
    | true => rfl
    | false => simp only [cond_false, l03Area_eq p hp h24 hk, Option.bind_some]; rfl
  ·rw [decide_eq_true (show (p.length : Int) > 24 by omega), decide_eq_false h24]; rfl
 ·rw [decide_eq_true (show (p.length : Int) < 3 by omega), decide_eq_false h3]; rfl
theorem validPolygon_eq (p : List Pt') (hl : p.length ≤ 1048576) (hk : 1048577 < k) : impl_ValidPolygon k p = some (polyB p) := by
 unfold impl_ValidPolygon polyB
 by_cases h3 : 3 ≤ p.length
 ·rw [decide_eq_false (show ¬ (p.length : Int) < 3 by omega), decide_eq_true h3]
  by_cases h24 : p.length ≤ 24
  ·rw [decide_eq_false (show ¬ (p.length : Int) > 24 by omega), decide_eq_true h24]
   simp only [cond_false, Option.bind_some, validPoints_eq p hl hk, Bool.true_and]
   cases hp : p.all okP with
   | false => rfl
   | true =>
    simp only [Bool.not_true, cond_false, outer_impl p hp h24 hk, Option.bind_some, Bool.true_and]
    cases (List.range' 0 p.length).any (bad p p.length) with
    | true => rfl
    | false => simp only [cond_false, doubled_eq p hp h24 hk, Option.bind_some]; rfl
  ·rw [decide_eq_true (show (p.length : Int) > 24 by omega), decide_eq_false h24]; rfl
 ·rw [decide_eq_true (show (p.length : Int) < 3 by omega), decide_eq_false h3]; rfl
end
end Go.Proofs.YtgcioclfplafkaaGreatV
end
